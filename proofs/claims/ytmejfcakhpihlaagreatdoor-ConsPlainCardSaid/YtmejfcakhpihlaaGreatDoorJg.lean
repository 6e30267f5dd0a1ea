/- Walks of functions, plain laws; proves no statement. -/
import Derived.Test.YtmejfcakhpihlaaGreatDoorJf
set_option linter.unusedVariables false
set_option linter.unusedSimpArgs false
set_option maxHeartbeats 1000000
namespace Go.Proofs.YtmejfcakhpihlaaGreatDoor
noncomputable section
open Go.Am
set_option maxRecDepth 100000
theorem zUh{hB h:U2}{cells:List Value}{A:Nat->List Int}(hl:cells.length=16)(hall:∀ j,j<16->WJ hB h (cells.getD j undef) (A j)):zK cells=true:=by
 unfold zK;rw[QX];intro x hx;obtain⟨j,hj,rfl⟩:=List.mem_iff_getElem.1 hx;have e:cells.getD j undef=cells[j]:=by simp[List.getD,QB hj]
 have:=hall j (by omega);rw[e]at this;rcases this with⟨h,_⟩|⟨_,_,_,h,_⟩<;>rw[h]
theorem zDc(l:List Int):Yq (.agg (l.map I).toArray)=true:=by
 show(l.map I).all yT=true;rw[QX];intro x hx;obtain⟨n,_,rfl⟩:=Qt.1 hx;rfl
def zLO:U3:=(oV (oR [oC .lss 34 33 16]) (oV (oT 34 0) (oV (o5 1 (oV (oR [oM 35 33,oM 9 35]) (o6 [oM 36 8,oM 37 9,oM 38 8,oM 39 9,(⟨some 40,none,(.nilCheck (.tmp 36))⟩,[]),oF 0 41 40,(⟨some 42,none,(.idxArr 16 1 (.tmp 41) (.tmp 37))⟩,[]),(⟨none,none,(.store 1 (.tmp 42) (.const (.int .i64 (-1))))⟩,[]),(⟨some 43,none,(.nilCheck (.tmp 38))⟩,[]),oF 16 44 43,(⟨some 45,none,(.idxArr 16 1 (.tmp 44) (.tmp 39))⟩,[]),(⟨none,none,(.store 1 (.tmp 45) (.const (.int .i64 (-1))))⟩,[])]))) (oR [oC .add 46 33 1,oM 33 46]))))
def zMR:U3:=(oV (oR [oB .lss 50 49 48]) (oV (oT 50 2) (oV (o5 3 (oV (oR [oM 51 49,oI 1 52 47 49,oL 53 52,oM 10 51,oM 11 53]) (oR [oM 54 8,oM 55 11,oM 56 10,⟨some 57,none,(.nilCheck (.tmp 54))⟩,oF 16 58 57,⟨some 59,none,(.idxArr 16 1 (.tmp 58) (.tmp 55))⟩,oS 1 59 56]))) (oR [oC .add 60 49 1,oM 49 60]))))
def zLX:U3:=(oV (oR [oB .lss 81 80 79]) (oV (oT 81 8) (oV (o5 9 (oV (oR [oI 1 82 78 80,oL 83 82,oM 17 83]) (o5 10 (oV (oR [oM 89 8,oM 90 17,⟨some 91,none,(.nilCheck (.tmp 89))⟩,oF 0 92 91,⟨some 93,none,(.idxArr 16 1 (.tmp 92) (.tmp 90))⟩,oL 94 93,oC .eql 95 94 (-1),oM 88 95]) (oJ 88 .skip (oV (oR [oM 97 15,oC .eql 98 97 (-1),oM 96 98]) (oJ 96 (oR [oM 99 17,oM 15 99]) (oR [oM 84 8,oM 85 15,oM 86 17,o3 87 224 84 85 86,oM 15 87])))))))) (oR [oC .add 100 80 1,oM 80 100]))))
def zM1:U3:=(oV (oR [oB .lss 73 72 71]) (oV (oT 73 6) (oV (o5 7 (oV (oR [oI 1 74 70 72,oL 75 74,oM 14 75]) (oV (oR [oN 15 (-1)]) (oV (oV (oR [oM 76 14,⟨some 77,none,(.idxArr 16 1 (.tmp 7) (.tmp 76))⟩,oL 78 77,oQ 79 78,oN 80 0]) (o5 8 (.loop zLX))) (oR [oM 101 8,oM 102 14,oM 103 15,⟨some 104,none,(.nilCheck (.tmp 101))⟩,oF 0 105 104,⟨some 106,none,(.idxArr 16 1 (.tmp 105) (.tmp 102))⟩,oS 1 106 103]))))) (oR [oC .add 107 72 1,oM 72 107]))))
def zLL:U3:=(o5 5 (oV (oR [oM 65 8,⟨some 66,none,(.nilCheck (.tmp 65))⟩,oF 0 67 66,oA 16 68 67,⟨some 12,none,(.alloc [(.int .i64 0),(.int .i64 0),(.int .i64 0),(.int .i64 0),(.int .i64 0),(.int .i64 0),(.int .i64 0),(.int .i64 0),(.int .i64 0),(.int .i64 0),(.int .i64 0),(.int .i64 0),(.int .i64 0),(.int .i64 0),(.int .i64 0),(.int .i64 0)])⟩,oS 16 12 68]) (oV (oV (oR [oM 69 5,⟨some 70,none,(.slice 1 (.tmp 69) (some (.const (.int .i64 1))) none none)⟩,oQ 71 70,oN 72 0]) (o5 6 (.loop zM1))) (oV (o6 [oA 16 108 12,oM 109 8,(⟨some 110,none,(.nilCheck (.tmp 109))⟩,[]),oF 0 111 110,oA 16 112 111,(⟨some 113,none,(.binP .eql 202 (.tmp 108) (.tmp 112))⟩,[])]) (oJ 113 (.exit 4) .skip)))))
def zSE:U3:=(oV (oR [oX 2 0,oK 4 (.pointer none)]) (.scope (oV (oR [oA 2 19 2,oM 20 1,o2 21 222 19 20,oM 18 21,oE 22 18 0,oE 23 18 1,oM 5 22,oM 6 23]) (oV (oR [oF 1 24 2,oL 25 24,oM 26 1,oI 2 27 25 26,oF 1 28 27,oL 29 28,o1 30 223 29,⟨some 7,none,(.alloc [(.slice none 0 0),(.slice none 0 0),(.slice none 0 0),(.slice none 0 0),(.slice none 0 0),(.slice none 0 0),(.slice none 0 0),(.slice none 0 0),(.slice none 0 0),(.slice none 0 0),(.slice none 0 0),(.slice none 0 0),(.slice none 0 0),(.slice none 0 0),(.slice none 0 0),(.slice none 0 0)])⟩,oS 16 7 30]) (oV (oR [⟨some 31,none,(.build [(.int .i64 0),(.int .i64 0),(.int .i64 0),(.int .i64 0),(.int .i64 0),(.int .i64 0),(.int .i64 0),(.int .i64 0),(.int .i64 0),(.int .i64 0),(.int .i64 0),(.int .i64 0),(.int .i64 0),(.int .i64 0),(.int .i64 0),(.int .i64 0),(.int .i64 0),(.int .i64 0),(.int .i64 0),(.int .i64 0),(.int .i64 0),(.int .i64 0),(.int .i64 0),(.int .i64 0),(.int .i64 0),(.int .i64 0),(.int .i64 0),(.int .i64 0),(.int .i64 0),(.int .i64 0),(.int .i64 0),(.int .i64 0)] [])⟩,oX 32 31,oM 8 32]) (oV (oV (oR [oN 33 0]) (o5 0 (.loop zLO))) (oV (oV (oR [oM 47 5,oQ 48 47,oN 49 0]) (o5 2 (.loop zMR))) (oV (oR [oM 61 8,⟨some 62,none,(.nilCheck (.tmp 61))⟩,oF 0 63 62,⟨some 64,none,(.idxArr 16 1 (.tmp 63) (.const (.int .i64 0)))⟩,⟨none,none,(.store 1 (.tmp 64) (.const (.int .i64 0)))⟩]) (oV (.label 0) (oV (o5 4 (.loop zLL)) (oV (oR [oM 114 8,oM 4 114]) .ret)))))))))))
theorem zUq(h:U2)(vt vf:Value)(T:List U5)(F:List WP)(f:Int)(tt:Be h)(hm:h.mark<=h.n)(sm:BG T F)(st:Wv h vt T)(sf:Wr h vf F)(hb:(zD T F f 0).2=0):
  WC Tryz.prog tb 192 [.agg #[vt,vf],I f] h fun r h'=>(∃ p xs,r=p/\U6 h h' p (xs.map I)/\Rul (Wp (zD T F f 0).1) xs)/\U8 h h':=by
 obtain⟨_,hpos,hLB,hre⟩:=ZW hb;have hreg:=zBX hre;obtain⟨hlen,hin⟩:=Zm hb;have hE:=zHh hb;obtain⟨law1,law2,⟨l0,law3⟩,law4,law5,law6,law7⟩:=zBi hb;have hnd:=zDQ hb;have hpar:=zF4 hb;have hrpo:∀ {pos:Int->Int},(∀ i,i<(zU T F f).1.length->pos ((zU T F f).1.getD i 0)=i)->Rpo (Wp (zD T F f 0).1) pos:=fun hp=>zLz hb hp;have hmem:∀ c,Wk (Wp (zD T F f 0).1) 0 c->∃ i,i<(zU T F f).1.length/\(zU T F f).1.getD i 0=c:=fun c w=>zBG (law4 c ((YY hb).2 w));have hway:∀ i,i<(zU T F f).1.length->Wk (Wp (zD T F f 0).1) 0 ((zU T F f).1.getD i 0):=fun i=>by
  induction i using Nat.strongRecOn with
  |_ i ih=>
   intro hi;by_cases e:(zU T F f).1.getD i 0=0
   ·rw[e];exact .here
   ·obtain⟨j,hj,hm⟩:=hpar i hi e;exact .step (ih j hj (by omega)) hm
 have h00:(zU T F f).1.getD 0 0=0:=by rw[law3];rfl
 have hO1:0<(zU T F f).1.length:=by rw[law3];simp
 have hbnd:∀ c,Wk (Wp (zD T F f 0).1) 0 c->0<=c/\c<((zD T F f 0).1.length:Int):=fun c w=>by
  induction w with
  |here=>exact⟨Qk _,hpos⟩
  |step _ hc ih=>exact hin _ ih _ hc
 obtain⟨K,hK⟩:=zGQ hin (by omega);have oerr:(zU T F f).2=0:=by unfold zU;rw[QC (by rw[hb];exact fun e=>e rfl)]
 clear law1 law3 law4 law5 law7;replace law6:=Wa.mk law6;replace hpar:=Wa.mk hpar;replace hrpo:Wa (∀ {pos:Int->Int},(∀ i,i<(zU T F f).1.length->pos ((zU T F f).1.getD i 0)=i)->Rpo (Wp (zD T F f 0).1) pos):=Wa.mk hrpo;replace hmem:=Wa.mk hmem;replace hway:=Wa.mk hway;replace hbnd:=Wa.mk hbnd;replace hK:=Wa.mk hK;replace hin:=Wa.mk hin;refine en 115 [(4,none)] zSE ?_;refine VH ?_;intro p2 h1 e1 o1;have o1:U6 h h1 p2 [vt,vf]:=o1;refine go ?_;refine Vy ?_;refine go ?_;refine VA (zOc h1 vt vf T F f (tt.ext e1) (yO e1 hm) sm (st.ext e1) (Wr.ext sf e1)) ?_;rintro _ h2 ⟨⟨orv,rfl,oor⟩,e2⟩;have e02:=e1.trans e2;have o2:=o1.ext e2;have sf2:=Wr.ext sf e02;have hF:=sm.funcs;obtain⟨csF,⟨vb,rfl,sb,hlb⟩,pcF,hsF⟩:=yv (i:=f.toNat) sf2 (by omega);rw[<-hLB]at sb;rw[oerr];refine go ?_;refine VA (zO7 h2 (yO e02 hm) vb (zD T F f 0).1 sb hE) ?_;rintro _ h3 ⟨⟨cells,rfl,hcl,hca⟩,e3⟩;have e03:=e02.trans e3;refine go ?_;refine WO.al ?_;intro p7 h4 e4 o4;have e04:=e03.trans e4;refine VG (cs:=cells) o4 e4 ?_ (hn:=hcl) (h1:=zUh hcl hca);intro hb0 e5 o5 u5;have eb:=e03.trans e5;have sor:WM hb0 orv (zU T F f).1:=oor.sl.ext (e3.trans e5);have spr:Wa (∀ j,j<16->WM hb0 (cells.getD j undef) (zR (zD T F f 0).1 (j:Int) (zD T F f 0).1.length)):=⟨fun j hj=>(hca j hj).sl.ext e5⟩;have o7:U6 h hb0 p7 cells:=o5.since e03;obtain⟨g7,rfl⟩:∃ g7,p7=.pointer (some ⟨g7,0,none⟩):=let⟨g,_,_,e,_⟩:=o7;⟨g,e⟩;have oorN:WJ h hb0 orv (zU T F f).1:=(oor.ext (e3.trans e5)).since e1;clear o4 o5 u5 pcF hsF sb sf2 hca oor;generalize hO:(zU T F f).1=O at *;generalize hnx:Wp (zD T F f 0).1=nx at *;refine go ?_;refine VH ?_;intro p8 h6 e6 o6;obtain⟨g8,hg8,hg8',rfl⟩:∃ g8,hb0.n<=g8/\g8<h6.n/\p8=.pointer (some ⟨g8,0,none⟩):=let⟨g,a,b,c,_⟩:=o6;⟨g,a,b,c⟩;have o8:U6 hb0 h6 (.pointer (some ⟨g8,0,none⟩)) ((List.replicate 32 (0:Int)).map I):=o6;clear o6;have hmk:hb0.mark<=hb0.n:=yO eb hm;refine go ?_;refine VD [34,35,9,36,37,38,39,40,41,42,43,44,45,46,33] (by kernel_rfl) (fun k=>17-k) (fun(k:Nat) t h'=>zB t 33=I (k:Int)/\k<=16/\U8 hb0 h'/\∃ xs:List Int,U6 hb0 h' (.pointer (some ⟨g8,0,none⟩)) (xs.map I)/\xs.length=32/\Wa (∀ j,j<k->xs.getD j 0= -1/\xs.getD (16+j) 0= -1)) 0 ?_ ?_
 ·exact⟨WA,by omega,e6,_,o8,by simp,⟨fun j hj=>by omega⟩⟩
 rintro k t h7 hsame ⟨s33,hk,e7,xs,o9,hlx,hx⟩;refine go ?_;refine VE (fun hc=> ?_) (fun hc=> ?_)<;>simp only[DB]at hc
 ·have hk':k<16:=by omega
  refine go ?_;refine VC 0 rfl rfl ?_;have oX:U6 hb0 (inC (zC 0 h7)) (.pointer (some ⟨g8,0,none⟩)) (xs.map I):=o9;refine WT ?_;refine UJ (j:=k) oX (by rw[e7.mark];exact hmk) (by omega) ?_;intro X1 n1 oX1 u1 w1;have oY1:U6 hb0 (inC X1) (.pointer (some ⟨g8,0,none⟩)) ((xs.set k (-1)).map I):=oX1;have hl1:(xs.set k (-1)).length=32:=by rw[List.length_set];exact hlx
  refine WT ?_;refine Xy (j:=16+k) oX1 e7 (by rw[e7.mark];exact hmk) n1 u1 w1 (by rw[List.length_set];omega) ?_;intro h8 e8 o8' u8;refine go ?_;refine zA (k+1) (by omega) ⟨WA,by omega,e8,_,o8',by simp[hlx],⟨fun j hj=> ?_⟩⟩;simp only[ZN (show 16+k<(xs.set k (-1)).length by omega),ZN (show k<xs.length by omega)];by_cases e:j=k
  ·rw[QC (by omega),QI e,QI (by omega)];exact⟨rfl,rfl⟩
  ·rw[QC (by omega),QC e,QC (by omega),QC (by omega)];exact hx.out j (by omega)
 have hkk:k=16:=by omega
 subst hkk;replace hx:Wa (∀ j,j<32->xs.getD j 0= -1):=⟨fun j hj=>by
  by_cases h:j<16
  ·exact(hx.out j h).1
  ·have:=(hx.out (j-16) (by omega)).2;rw[show 16+(j-16)=j by omega]at this;exact this⟩
 refine go ?_;have osl7:WM h7 orv O:=sor.ext e7;have hmemO:∀ i,i<O.length->O.getD i 0∈O:=fun i hi=>by rw[QK,QB hi];exact List.getElem_mem hi
 have hOb:∀ i,i<O.length->0<=O.getD i 0/\O.getD i 0<16:=fun i hi=>by have:=law6.out _ (hmemO i hi);omega
 replace hmemO:=Wa.mk hmemO;replace hOb:=Wa.mk hOb;refine VD [50,51,52,53,10,11,54,55,56,57,58,59,60,49] (by kernel_rfl) (fun k=>O.length+1-k) (fun(k:Nat) t h'=>zB t 49=I (k:Int)/\k<=O.length/\U8 hb0 h'/\∃ xs:List Int,U6 hb0 h' (.pointer (some ⟨g8,0,none⟩)) (xs.map I)/\xs.length=32/\Wa ((∀ j,j<16->xs.getD j 0= -1)/\∀ i,i<k->xs.getD (16+(O.getD i 0).toNat) 0=i)) 0 ?_ ?_
 ·exact⟨WA,by omega,e7,_,o9,hlx,⟨fun j hj=>hx.out j (by omega),fun i hi=>by omega⟩⟩
 clear e7 o9 osl7;rintro k t2 h7 hsame2 ⟨s49,hk,e7,xs,o9,hlx,hx⟩;have osl7:WM h7 orv O:=sor.ext e7;refine go ?_;refine VE (fun hc=> ?_) (fun hc=> ?_)<;>simp only[DB]at hc
 ·have hk':k<O.length:=by omega
  obtain⟨hb1,hb2⟩:=hOb.out k hk';refine go ?_;refine V4 (j:=16+(O.getD k 0).toNat) o9 e7 (by omega) ?_;intro h8 e8 o8' u8;refine go ?_;refine zA (k+1) (by omega) ⟨WA,by omega,e8,_,o8',by simp[hlx],⟨fun j hj=> ?_,fun i hi=> ?_⟩⟩
  ·rw[ZN (by omega),QC (by omega)];exact hx.out.1 j hj
  ·rw[ZN (by omega)];obtain⟨hb3,hb4⟩:=hOb.out i (by omega);by_cases e:i=k
   ·subst e;rw[QI rfl]
   ·rw[QC (fun e2=>e (Y8 hnd (by omega) hk' (by omega)))];exact hx.out.2 i (by omega)
 have hkk:k=O.length:=by omega
 subst hkk;refine go ?_;refine V4 (j:=0) o9 e7 (by omega) ?_;clear e7;intro h8 e8 o8' u8;obtain⟨xs0,hxs0⟩:∃ l,l=xs.set 0 (0:Int):=⟨_,rfl⟩;rw[<-hxs0]at o8';have hl0:xs0.length=32:=by rw[hxs0];simp[hlx]
 have hp0:∀ j,j<16->xs0.getD j 0=if j=0 then 0 else -1:=fun j hj=>by
  rw[hxs0,ZN (by omega)];by_cases e:j=0
  ·rw[QI e,QI e]
  ·rw[QC e,QC e];exact hx.out.1 j hj
 have hq0:∀ i,i<O.length->xs0.getD (16+(O.getD i 0).toNat) 0=i:=fun i hi=>by
  rw[hxs0,ZN (by omega),QC (by omega)];exact hx.out.2 i hi
 obtain⟨qs,hqs⟩:∃ l,l=xs0.drop 16:=⟨_,rfl⟩;have r0:Rnd nx qs xs0 0:=by
  have hz:pO xs0 0=0:=(hp0 0 (by omega)).trans (QI rfl);have rp:Rpo nx (fun b=>qO xs0 b):=hrpo.out fun i hi=>hq0 i hi;refine⟨⟨hl0,rp,?_,fun c w=>by have:=hbnd.out c w;omega⟩,hqs.symm,?_,?_,?_⟩
  ·have hm1:∀ b,Wk nx 0 b->b≠0->pO xs0 b= -1:=fun b w hb=>by
    have:=hbnd.out b w;exact(hp0 b.toNat (by omega)).trans (QC (by omega))
   exact⟨hz,fun b w hb hp=>absurd (hm1 b w hb) hp,fun b w hb hp=>absurd (hm1 b w hb) hp⟩
  ·intro c x hx;cases hx with
   |here h=>exact zIM (nx:=nx) (p:=fun b=>pO xs0 b) (k:=0) hz x (.here h)
  ·intro c h1 h2 h3;exact(hp0 c.toNat (by omega)).trans (QC (fun e=>h3 (by rw[show c=0 by omega];exact .here)))
  ·intro h;omega
 obtain⟨vt',hrt,stl⟩:=zOp oorN hO1;have hqO:∀ {l:List Int},l.drop 16=qs->∀ i,i<O.length->qO l (O.getD i 0)=i:=fun e i hi=>by
  rw[zKQ,e,hqs,<-zKQ];exact hq0 i hi
 replace hqO:Wa (∀ {l:List Int},l.drop 16=qs->∀ i,i<O.length->qO l (O.getD i 0)=i):=Wa.mk hqO;clear hp0 hq0 hqs hxs0 hx;refine go ?_;refine VD [65,66,67,68,12,69,70,71,72,73,74,75,14,15,76,77,78,79,80,81,82,83,17,89,90,91,92,93,94,95,88,97,98,96,99,15,84,85,86,87,15,100,80,101,102,103,104,105,106,107,72,108,109,110,111,112,113] (by kernel_rfl) (fun p=>max K 1+1-p.1) (fun(p:Nat×List Int) t h'=>U8 hb0 h'/\U6 hb0 h' (.pointer (some ⟨g8,0,none⟩)) (p.2.map I)/\p.1<=max K 1/\Wa (Rnd nx qs p.2 p.1)) (0,xs0) ?_ ?_
 ·exact⟨e8,o8',QT _,⟨r0⟩⟩
 clear e8 o8' u8 r0 o9 osl7;rintro⟨k,xs⟩ t3 h9 hsame3 ⟨e9,o9,hkK,⟨r⟩⟩;simp only at o9 hkK r;have hlx:=r.dm.len;replace r:=Wa.mk r;refine go ?_;refine Vm (j:=0) (n:=16) o9 (by omega) ?_;refine go ?_;refine WO.al ?_;intro p12 h10 e10 o10;refine go ?_;refine VG (cs:=((xs.drop 0).take 16).map I) o10 e10 ?_ (hn:=by simp;omega) (h1:=zCI _);intro h11 e11 o11 u11;have o11:U6 hb0 h11 p12 (((xs.drop 0).take 16).map I):=o11.since e9;obtain⟨g12,hg12,rfl⟩:∃ g12,h9.n<=g12/\p12=.pointer (some ⟨g12,0,none⟩):=let⟨g,a,b,c,_⟩:=o10;⟨g,a,c⟩;have h98:g8<h9.n:=by obtain⟨q,q1,q2,q3,_⟩:=o9;cases q3;exact q2
 have hne:Value.pointer (some ⟨g8,0,none⟩)≠ .pointer (some ⟨g12,0,none⟩):=fun e=>by cases e;omega
 have e11':=e9.trans e11;have o9:=o9.ext e11;have stl11:WM h11 vt' (O.drop 1):=stl.ext e11';refine go ?_;refine Vj (i:=1) hrt ?_ (hy:=rfl);refine go ?_;have hdl:(O.drop 1).length=O.length-1:=by simp
 refine VD [73,74,75,14,15,76,77,78,79,80,81,82,83,17,89,90,91,92,93,94,95,88,97,98,96,99,15,84,85,86,87,15,100,80,101,102,103,104,105,106,107,72] (by kernel_rfl) (fun p=>O.length-p.1) (fun(p:Nat×List Int) t h'=>zB t 72=I (p.1:Int)/\p.1+1<=O.length/\U8 hb0 h'/\U6 hb0 h' (.pointer (some ⟨g8,0,none⟩)) (p.2.map I)/\U6 hb0 h' (.pointer (some ⟨g12,0,none⟩)) (((xs.drop 0).take 16).map I)/\Wa (Md nx O qs xs p.2 k (p.1+1))) (0,xs) ?_ ?_
 ·exact⟨WA,by omega,e11',o9,o11,⟨Xf r.out h00⟩⟩
 clear e11' o9 o11 stl11;rintro⟨m,ys⟩ t4 h12 hsame4 ⟨s72,hm72,e12,o12,ow12,g⟩;simp only at s72 hm72 o12 g;have hly:=g.out.dm.len;have stl12:WM h12 vt' (O.drop 1):=stl.ext e12;refine go ?_;refine VE (fun hc=> ?_) (fun hc=> ?_)<;>simp only[DB]at hc
 ·have hm':m+1<O.length:=by omega
  have hmd:m<(O.drop 1).length:=by omega
  have hdg:(O.drop 1).getD m 0=O.getD (m+1) 0:=by simp[List.getD,Nat.add_comm]
  obtain⟨hb1,hb2⟩:=hOb.out (m+1) hm';have hwb:=hway.out (m+1) hm';obtain⟨ja,hja,hjb⟩:=hpar.out (m+1) hm' (fun e=>by have:=Y8 hnd hm' hO1 (e.trans h00.symm);omega);have hbne:O.getD (m+1) 0≠0:=fun e=>by have:=Y8 hnd hm' hO1 (e.trans h00.symm);omega
  refine go ?_;rw[hdg];generalize hbO:O.getD (m+1) 0=b at *;have o7b:U6 h h12 (.pointer (some ⟨g7,0,none⟩)) cells:=o7.ext e12;have hb16:b.toNat<16:=by omega
  obtain⟨A,hA⟩:∃ A,zR (zD T F f 0).1 b (zD T F f 0).1.length=A:=⟨_,rfl⟩;have sA:WM h12 (cells.getD b.toNat undef) A:=by
   have:=(spr.out b.toNat hb16).ext e12;rw[show((b.toNat:Nat):Int)=b by omega,hA]at this;exact this
  have hA16:A.length<=16:=by rw[<-hA];have:=zA9 (zD T F f 0).1 b (zD T F f 0).1.length;omega
  have hAin:Wa (∀ j,j<A.length->(0<=A.getD j 0/\A.getD j 0<16)/\b∈nx (A.getD j 0)):=⟨fun j hj=>by
   have:=zPR hA hj;rw[hnx]at this;exact⟨by omega,this.2⟩⟩
  refine go ?_;refine XA (i:=b.toNat) o7b (by omega) ?_;refine go ?_;have dmy:Wa (Dm nx ys):=⟨g.out.dm⟩;have huy:Wa (∀ a,0<=a->a<16->pO ys a≠ -1->Wk nx 0 a):=⟨fun a h1 h2 h3=>Gk fun h4=>h3 (g.out.un a h1 h2 h4)⟩;refine VD [81,82,83,17,89,90,91,92,93,94,95,88,97,98,96,99,15,84,85,86,87,15,100,80] (by kernel_rfl) (fun p=>A.length-p.1) (fun(p:Nat×Int) t h'=>h12=h'/\zB t 80=I (p.1:Int)/\p.1<=A.length/\zB t 15=I p.2/\Wa (Bst nx ys b A p.1 p.2)) (0,-1) ?_ ?_
  ·exact⟨rfl,WA,by omega,WA,⟨.inl ⟨rfl,fun i hi=>by omega⟩⟩⟩
  rintro⟨j,v⟩ t5 _ hsame5 ⟨rfl,s80,hj,s15,bst⟩;simp only at s80 hj s15 bst;refine go ?_;refine VE (fun hd=> ?_) (fun hd=> ?_)<;>simp only[DB]at hd
  ·have hj':j<A.length:=by omega
   obtain⟨⟨ha1,ha2⟩,hab⟩:=hAin.out j hj';refine go ?_;generalize haA:A.getD j 0=a at *;refine VE (fun hq=> ?_) (fun hq=> ?_)<;>simp only[DB]at hq
   ·refine go ?_;refine zA (j+1,v) (by show A.length-(j+1)<A.length-j;omega) ⟨rfl,WA,by show j+1<=_;omega,WA,⟨bst.out.skip (by rw[haA];exact hq)⟩⟩
   have wa:=huy.out a ha1 ha2 hq;refine go ?_;refine VE (fun hv=> ?_) (fun hv=> ?_)<;>simp only[DB]at hv
   ·have hv:v= -1:=hv;subst hv;refine go ?_;refine zA (j+1,a) (by show A.length-(j+1)<A.length-j;omega) ⟨rfl,WA,by show j+1<=_;omega,WA,⟨?_⟩⟩;have:=bst.out.first (by rw[haA];exact wa) (by rw[haA];omega) (by rw[haA];exact hab) (by rw[haA];exact hq)
    rw[haA]at this;exact this
   have hv:v≠ -1:=hv;have wv:Wk nx 0 v/\pO ys v≠ -1:=by
    rcases bst.out with⟨e,_⟩|⟨_,e1,e2,_⟩
    ·exact absurd e hv
    ·exact⟨e1,e2⟩
   refine go ?_;refine VA (zSP hb0 h12 (.pointer (some ⟨g8,0,none⟩)) nx ys v a o12 dmy wv.1 wa wv.2 hq) ?_;rintro _ _ ⟨⟨mm,rfl,hmt⟩,rfl⟩;refine go ?_;have hmm:=dmy.out.bnd mm hmt.way;refine zA (j+1,mm) (by show A.length-(j+1)<A.length-j;omega) ⟨rfl,WA,by show j+1<=_;omega,WA,⟨?_⟩⟩;exact bst.out.meet hv (by omega) (by rw[haA];exact hab) (by rw[haA];exact hmt)
  have hjj:j=A.length:=by omega
  subst hjj;have bt:Best nx (fun b=>qO ys b) (fun b=>pO ys b) b v:=by
   have wp:=hway.out ja (by omega);refine bst.out.best dmy.out (fun a wa hab=> ?_) wp hjb (g.out.pre ja hja).2 ?_
   ·refine zBG ?_;rw[<-hA];exact zDU.2 ⟨hbnd.out a wa,by rw[hnx];exact hab⟩
   ·rw[hqO.out g.out.qs ja (by omega),<-hbO,hqO.out g.out.qs (m+1) hm'];omega
  refine go ?_;refine V4 (j:=b.toNat) o12 e12 (by omega) ?_;intro h13 e13 o13 u13;have ow13:=zN5 ow12 u13 hne;refine go ?_;refine zA (m+1,ys.set b.toNat v) (by show O.length-(m+1)<O.length-m;omega) ⟨WA,by show m+1+1<=_;omega,e13,o13,ow13,⟨?_⟩⟩;have:=g.out.step (v:=v) hnd hm' (by omega) (by rw[hbO];exact hbne) (by rw[hbO];exact hwb) (by rw[hbO];exact bt) hlx;rw[hbO]at this;exact this
 have hmm:m+1=O.length:=by omega
 have g:Wa (Md nx O qs xs ys k O.length):=by rw[<-hmm];exact g
 clear stl12 hm72 hc;refine go ?_;refine Vm (j:=0) (n:=16) ow12 (by simp;omega) ?_ (hx:=by show WI _ _ (.pointer (some ⟨g12,0,none⟩));exact zr);refine go ?_;refine Vm (j:=0) (n:=16) o12 (by omega) ?_;refine Vu (zSa (n:=16) (xs:=(((xs.drop 0).take 16).drop 0).take 16) (ys:=(ys.drop 0).take 16) (by kernel_rfl) (by simp;omega) (by simp;omega)) ?_ (hc:=by rw[zDc,zDc];rfl);have hde:decide (((((xs.drop 0).take 16).drop 0).take 16)=((ys.drop 0).take 16))=decide (xs=ys):=decide_eq_decide.2 ⟨fun e=>by
  simp only[Q0,List.take_take,Nat.min_self]at e;exact zLe e (r.out.qs.trans g.out.qs.symm),fun e=>by rw[e];simp[List.take_take]⟩
 rw[hde];have rd:=g.out.done hmem.out;refine go ?_;refine VE (fun hd=> ?_) (fun hd=> ?_)<;>simp only[DB]at hd
 ·have hd:xs=ys:=hd;subst hd;refine go ?_;refine zIu ?_;refine rt ?_;exact⟨⟨_,xs,rfl,(o12.since eb),zT3 g.out hmem.out h00 fun b w=>by obtain⟨i,hi,e⟩:=hmem.out b w;rw[<-e,hqO.out g.out.qs i hi];omega⟩,eb.trans e12⟩
 have hkk:k<max K 1:=by
  refine Nat.lt_of_not_le fun hle=>hd ?_;exact(zJK r.out g.out hmem.out h00 hbnd.out hK.out (by omega) (by omega) hlx hnd hway.out).symm
 refine go ?_;exact zA (k+1,ys) (by show max K 1+1-(k+1)<max K 1+1-k;omega) ⟨e12,o12,by show k+1<=_;omega,⟨rd⟩⟩
set_option maxRecDepth 100000
def nxF(T:List U5)(F:List WP)(f:Int):Int->List Int:=Wp (zD T F f 0).1
def Yt(T:List U5)(F:List WP)(f b:Int):Int:=
 if(zD T F f 0).2≠0 then(zD T F f 0).2 else if b<0\/((zD T F f 0).1.length:Int)<=b then 2 else if b∈(yS T F f).1 then 0 else 6
theorem zRk{T:List U5}{F:List WP}{f b:Int}(h:Yt T F f b=0):(zD T F f 0).2=0/\Wk (nxF T F f) 0 b:=by
 unfold Yt at h;split at h
 ·rename_i hb;exact absurd h hb
 ·rename_i hb;have hb:(zD T F f 0).2=0:=by simpa using hb
  split at h
  ·cases h
  ·split at h
   ·rename_i hm;exact⟨hb,(YY hb).1 hm⟩
   ·cases h
structure Env(h:U2)(vt vf:Value)(T:List U5)(F:List WP):Prop where
 tt:Be h
 hm:h.mark<=h.n
 sm:BG T F
 st:Wv h vt T
 sf:Wr h vf F
theorem Env.ext{h h':U2}{vt vf:Value}{T:List U5}{F:List WP}(E:Env h vt vf T F)(e:U8 h h'):Env h' vt vf T F:=
 ⟨E.tt.ext e,yO e E.hm,E.sm,E.st.ext e,Wr.ext E.sf e⟩
def zRL:U3:=(oV (oR [oX 3 0,oK 6 (.pointer none),oN 7 0]) (oV (oR [oA 2 11 3,oM 12 1,o2 13 75 11 12,oM 10 13,oE 14 10 0,oE 15 10 1,oM 8 14,oM 9 15]) (oV (o5 0 (oV (oR [oM 17 9,oC .neq 18 17 0,oM 16 18]) (oJ 16 (oV (oR [oM 19 9,oK 6 (.pointer none),oM 7 19]) .ret) (oV (oR [oM 21 2,oC .lss 22 21 0,oM 23 22,oH 23 (oM 24 2),oH 23 (oF 1 25 3),oH 23 (oL 26 25),oH 23 (oM 27 1),oH 23 (oI 2 28 26 27),oH 23 (oF 1 29 28),oH 23 (oL 30 29),oH 23 (oQ 31 30),oH 23 (oB .geq 32 24 31),oO 33 23 32,oM 20 33]) (oJ 20 (oV (oR [oK 6 (.pointer none),oN 7 2]) .ret) (oV (oR [oM 35 8,oM 36 2,o2 37 126 35 36,oW 38 37,oM 34 38]) (oJ 34 (oV (oR [oK 6 (.pointer none),oN 7 6]) .ret) .skip))))))) (oV (oR [oA 2 39 3,oM 40 1,o2 41 192 39 40,oM 6 41,oN 7 0]) .ret))))
theorem zK6(h:U2)(vt vf:Value)(T:List U5)(F:List WP)(f b:Int)(E:Env h vt vf T F):
  WC Tryz.prog tb 134 [.agg #[vt,vf],I f,I b] h fun r h'=>(∃ p,r=.tuple #[p,I (Yt T F f b)]/\(Yt T F f b=0->∃ xs,U6 h h' p (xs.map I)/\Rul (nxF T F f) xs))/\U8 h h':=by
 refine en 42 [(6,none),(7,none)] zRL ?_;refine VH ?_;intro p h1 e1 o1;have E1:=E.ext e1;refine go ?_;refine VA (zH6 h1 vt vf T F f E1.tt E1.hm E1.sm E1.st E1.sf) ?_;rintro _ h2 ⟨⟨rev,rfl,ore⟩,e2⟩;have e02:=e1.trans e2;have E2:=E1.ext e2;have o2:=o1.ext e2;have sre:=ore.sl;rw[zFm];by_cases hb:(zD T F f 0).2=0;case neg=>
  have hb':(zD T F f 0).2≠0:=hb;have ha:Yt T F f b=(zD T F f 0).2:=by unfold Yt;rw[QI hb]
  refine gr ?_;rw[ha];exact⟨⟨_,rfl,fun h=>absurd h hb⟩,e02⟩
 obtain⟨_,hpos,hLB,hre⟩:=ZW hb;have hreg:=zBX hre;obtain⟨hlen,hin⟩:=Zm hb;rw[hb];have hF:=E.sm.funcs;have sf2:=E2.sf;refine go ?_;by_cases hb0:b<0
 ·have ha:Yt T F f b=2:=by unfold Yt;rw[QC (by rw[hb];exact fun e=>e rfl),QI (.inl hb0)]
  refine gr ?_;rw[ha];exact⟨⟨_,rfl,fun h=>by cases h⟩,e02⟩
 obtain⟨csF,⟨vb,rfl,sb,hlb⟩,pcF,hsF⟩:=yv (i:=f.toNat) sf2 (by omega);rw[<-hLB]at sb;by_cases hb1:((zD T F f 0).1.length:Int)<=b
 ·have ha:Yt T F f b=2:=by unfold Yt;rw[QC (by rw[hb];exact fun e=>e rfl),QI (.inr hb1)]
  refine gr ?_;rw[ha];exact⟨⟨_,rfl,fun h=>by cases h⟩,e02⟩
 have hml:((yS T F f).1.length:Int)<=9223372036854775807:=by
  obtain⟨l1,l2,_⟩:=zBi hb;omega
 refine go ?_;refine VA (zAH h2 rev (yS T F f).1 b sre hml) ?_;rintro _ _ ⟨rfl,rfl⟩;by_cases hbr:b∈(yS T F f).1;case neg=>
  have ha:Yt T F f b=6:=by unfold Yt;rw[QC (by rw[hb];exact fun e=>e rfl),QC (by omega),QC hbr]
  refine gr ?_;rw[ha];exact⟨⟨_,rfl,fun h=>by cases h⟩,e02⟩
 have ha:Yt T F f b=0:=by unfold Yt;rw[QC (by rw[hb];exact fun e=>e rfl),QC (by omega),QI hbr]
 refine go ?_;refine VA (zUq h2 vt vf T F f E2.tt E2.hm E2.sm E2.st E2.sf hb) ?_;rintro _ h3 ⟨⟨q,xs,rfl,oq,hR⟩,e3⟩;refine gr ?_;rw[ha];exact⟨⟨_,rfl,fun _=>⟨xs,oq.since e02,hR⟩⟩,e02.trans e3⟩
def upL(xs:List Int)(b:Int):Int:=if b=0 then -1 else pO xs b
def zHt(nx:Int->List Int)(c:Int):Nat:=open Classical in (List.range 16).countP fun(j:Nat)=>decide (BA nx (j:Int) c)
theorem zSb(nx:Int->List Int)(c:Int):zHt nx c<=16:=by
 classical
 unfold zHt;exact QO List.countP_le_length (by simp)
theorem zO1{nx:Int->List Int}{c:Int}(h:0<=c/\c<16):1<=zHt nx c:=by
 classical
 unfold zHt;refine List.countP_pos_iff.2 ⟨c.toNat,GJ.2 (by omega),?_⟩;show decide (BA nx ((c.toNat:Nat):Int) c)=true;rw[Gg,show((c.toNat:Nat):Int)=c by omega];exact BA.self nx c
theorem zSZ{nx:Int->List Int}{c n:Int}(h:0<=c/\c<16)(hs:∀ a,BA nx a n->BA nx a c)(hn:¬BA nx c n):zHt nx n<zHt nx c:=by
 classical
 unfold zHt;have hc:((c.toNat:Nat):Int)=c:=by omega
 refine zEB (p:=fun(j:Nat)=>decide (BA nx (j:Int) c)) (q:=fun(j:Nat)=>decide (BA nx (j:Int) n)) (i:=c.toNat) (Qe (by rw[hc];exact BA.self nx c)) (Qb (by rw[hc];exact hn)) (fun j _ hj=> ?_) (GJ.2 (by omega));exact Qe (hs _ (Gw hj))
theorem Rul.step{nx:Int->List Int}{xs:List Int}{c:Int}(r:Rul nx xs)(w:Wk nx 0 c)(hc:c≠0):Wk nx 0 (pO xs c)/\(∀ a,BA nx a c↔a=c\/BA nx a (pO xs c))/\¬BA nx c (pO xs c):=by
 obtain⟨u1,u2,u3⟩:=r.dm.rl.up c w hc (r.all c w);refine⟨u1,fun a=> ?_,fun h=> ?_⟩
 ·rw[<-r.dom a c w,<-r.dom a _ u1];constructor
  ·intro h;cases h with
   |here=>exact .inl rfl
   |up _ _ h=>exact .inr h
  ·rintro(rfl|h)
   ·exact .here
   ·exact .up hc (r.all c w) h
 ·have h2:=r.dm.rl.le ((r.dom _ _ u1).2 h) u1;have h3:=h2.2.1;have h3:qO xs c<=qO xs (pO xs c):=h3;have u3:qO xs (pO xs c)<qO xs c:=u3;omega
def Chn(nx:Int->List Int)(a b:Int)(i:Nat)(c:Int)(met:Bool):Prop:=
 (c= -1/\(BA nx a b↔met=true))\/(Wk nx 0 c/\(0<=c/\c<16)/\zHt nx c+i<=16/\(BA nx a b↔met=true\/BA nx a c))
theorem Chn.last{nx:Int->List Int}{a b:Int}{i:Nat}{met:Bool}(h:Chn nx a b i 0 met):Chn nx a b (i+1) (-1) (met||decide (0=a)):=by
 rcases h with⟨h,_⟩|⟨_,_,_,h⟩
 ·cases h
 ·refine .inl ⟨rfl,h.trans ?_⟩;rw[GB,Gg];refine⟨fun h=>h.imp id fun h=> ?_,fun h=>h.imp id fun h=> ?_⟩
  ·exact Gk fun e=>h ⟨0,.here e⟩
  ·rw[<-h];exact BA.self _ _
theorem Chn.next{nx:Int->List Int}{xs:List Int}{a b c:Int}{i:Nat}{met:Bool}(r:Rul nx xs)(hc:0<c)(h:Chn nx a b i c met):Chn nx a b (i+1) (pO xs c) (met||decide (c=a))/\pO xs c≠c/\0<=pO xs c:=by
 rcases h with⟨h,_⟩|⟨w,bd,hn,h⟩
 ·omega
 ·obtain⟨u1,u2,u3⟩:=r.step w (by omega);have hb:=r.dm.bnd _ u1;refine⟨.inr ⟨u1,hb,?_,h.trans ?_⟩,fun e=> ?_,hb.1⟩
  ·have:=zSZ bd (fun a ha=>(u2 a).2 (.inr ha)) u3;omega
  ·rw[u2 a,GB,Gg];refine⟨?_,?_⟩
   ·rintro(h|rfl|h)
    ·exact .inl (.inl h)
    ·exact .inl (.inr rfl)
    ·exact .inr h
   ·rintro((h|h)|h)
    ·exact .inl h
    ·exact .inr (.inl h.symm)
    ·exact .inr (.inr h)
  ·exact u3 (by rw[e];exact BA.self _ _)
theorem Chn.way{nx:Int->List Int}{a b c:Int}{i:Nat}{met:Bool}(h:Chn nx a b i c met)(hc:0<=c):Wk nx 0 c/\c<16/\i<=15:=by
 rcases h with⟨h,_⟩|⟨w,bd,hn,h⟩
 ·omega
 ·have:=zO1 (nx:=nx) bd;exact⟨w,bd.2,by omega⟩
theorem zK7{T:List U5}{n:Int}{f:WP}(h:BX T n f=true):1<=f.blocks.length/\f.blocks.length<=16/\zI f.blocks<=128:=by
 unfold BX at h;split at h
 ·cases h
 ·rename_i hbad;unfold zBl at hbad;simp only[GB,not_or,G8,Gh,JA]at hbad;have h2:=hbad.1.2;unfold zS at h2;simp only[QF,QV]at h2;omega
set_option maxRecDepth 100000
def ZR:List WW->Int->Int×Int
 |[],a=>(0,a)
 |b::l,a=>if(b.ins.length:Int)<=a then((ZR l (a-b.ins.length)).1+1,(ZR l (a-b.ins.length)).2)else(0,a)
def Z1(T:List U5)(F:List WP)(f r:Int):Int×Int×Int:=
 if(zu T F f).2≠0 then(0,0,(zu T F f).2)
 else if r<0\/(zu T F f).1+zI (F.getD f.toNat default).blocks<=r then(0,0,2)
 else if r<(zu T F f).1 then(-1,r,0)
 else((ZR (F.getD f.toNat default).blocks (r-(zu T F f).1)).1,(ZR (F.getD f.toNat default).blocks (r-(zu T F f).1)).2,0)
theorem Zz(b:WW)(l:List WW):zI (b::l)=(b.ins.length:Int)+zI l:=by unfold zI;simp
theorem zJU{l:List WW}{k:Nat}(h:k<l.length):l.drop k=l.getD k default::l.drop (k+1):=by
 rw[GI h];simp[List.getD,QB h]
theorem zL4{T:List U5}{F:List WP}{f:Int}(h:(zu T F f).2=0):0<=f/\f<(F.length:Int)/\Zq T F=0/\(zu T F f).1=((T.getD (F.getD f.toNat default).sig.toNat default).parts.length:Int):=by
 unfold zu at h |-;split at h
 ·rename_i hp;exact absurd h hp
 ·rename_i hp;rw[QC hp];split at h
  ·rename_i hb;have hb2:=hb;unfold zS at hb2;simp at hb2;exact⟨hb2.1,hb2.2,by omega,by rw[QI hb]⟩
  ·cases h
def zPI:U3:=(oV (oV (oR [oM 40 7,oF 1 41 3,oL 42 41,oM 43 1,oI 2 44 42 43,oF 1 45 44,oL 46 45,oM 47 6,oI 5 48 46 47,oF 0 49 48,oL 50 49,oQ 51 50,oB .geq 52 40 51]) (oT 52 1)) (o5 2 (oV (oR [oM 53 7,oF 1 54 3,oL 55 54,oM 56 1,oI 2 57 55 56,oF 1 58 57,oL 59 58,oM 60 6,oI 5 61 59 60,oF 0 62 61,oL 63 62,oQ 64 63,oB .sub 65 53 64,oM 7 65]) (oR [oM 66 6,oC .add 67 66 1,oM 6 67]))))
def zUA:U3:=(oV (oR [oX 3 0,oN 6 0,oN 7 0,oN 8 0]) (oV (oR [oA 2 11 3,oM 12 1,o2 13 40 11 12,oM 10 13,oE 14 10 0,oE 15 10 1,oM 9 14,oM 8 15]) (oV (o5 0 (oV (oR [oM 17 8,oC .neq 18 17 0,oM 16 18]) (oJ 16 (oV (oR [oM 19 8,oN 6 0,oN 7 0,oM 8 19]) .ret) (oV (oR [oM 21 2,oM 22 9,oF 1 23 3,oL 24 23,oM 25 1,oI 2 26 24 25,oA 2 27 26,o1 28 41 27,oB .add 29 22 28,o2 30 42 21 29,oW 31 30,oM 20 31]) (oJ 20 (oV (oR [oN 6 0,oN 7 0,oN 8 2]) .ret) (oV (oR [oM 33 2,oM 34 9,oB .lss 35 33 34,oM 32 35]) (oJ 32 (oV (oR [oM 36 2,oN 6 (-1),oM 7 36,oN 8 0]) .ret) .skip))))))) (oV (oR [oM 37 2,oM 38 9,oB .sub 39 37 38,oM 7 39]) (oV (o5 1 (.loop zPI)) (oV (oR [oM 68 6,oM 69 7,oM 6 68,oM 7 69,oN 8 0]) .ret))))))
theorem zOH(h:U2)(vt vf:Value)(T:List U5)(F:List WP)(f r:Int)(E:Env h vt vf T F):
  WC Tryz.prog tb 18 [.agg #[vt,vf],I f,I r] h fun q h'=>q=.tuple #[I (Z1 T F f r).1,I (Z1 T F f r).2.1,I (Z1 T F f r).2.2]/\U8 h h':=by
 have hF:=E.sm.funcs;refine en 70 [(6,none),(7,none),(8,none)] zUA ?_;refine VH ?_;intro p h1 e1 o1;have E1:=E.ext e1;refine go ?_;refine VA (zIX h1 vt vf T F f E1.tt E1.hm E1.sm E1.st E1.sf) ?_;rintro _ h2 ⟨rfl,e2⟩;have o1:=o1.ext e2;have e02:=e1.trans e2;have E2:=E1.ext e2;have sf2:=E2.sf;obtain⟨ta,tn,tk,rfl⟩:=zF E.st;obtain⟨ga,gn,gk,rfl⟩:=zF sf2;by_cases ha:(zu T F f).2=0;case neg=>
  have ha':(zu T F f).2≠0:=ha;have hp:Z1 T F f r=(0,0,(zu T F f).2):=by unfold Z1;rw[QI ha]
  rw[hp];refine gr ?_;exact⟨rfl,e02⟩
 obtain⟨hf0,hf1,hpr,hn⟩:=zL4 ha;have hmem:=zJ (l:=F) (i:=f.toNat) (by omega);have hfn:=(yX hpr).2.2.2 _ hmem;have hb:=zK7 hfn;have hsig:=zDA hfn;have hpart:=E.sm.parts _ (zJ (l:=T) (i:=(F.getD f.toNat default).sig.toNat) (by omega));have hB:=E.sm.blocks _ hmem;have hI:=E.sm.ins _ hmem;have hmp:=zAc (F.getD f.toNat default).blocks;have hpl:Z1 T F f r=if r<0\/(zu T F f).1+zI (F.getD f.toNat default).blocks<=r then(0,0,2)
   else if r<(zu T F f).1 then(-1,r,0)else((ZR (F.getD f.toNat default).blocks (r-(zu T F f).1)).1,(ZR (F.getD f.toNat default).blocks (r-(zu T F f).1)).2,0):=by
  unfold Z1;rw[QC (fun e=>e ha)]
 have hn1:0<=(zu T F f).1/\(zu T F f).1<=100:=by rw[hn];omega
 rw[ha,hpl];generalize(zu T F f).1=n at *;clear hpl hn hpart hsig hfn;obtain⟨csF,⟨vb,rfl,sb,hlb⟩,pcF,hsF⟩:=yv (i:=f.toNat) sf2 (by omega);obtain⟨fn,hfn⟩:∃ fn,F.getD f.toNat default=fn:=⟨_,rfl⟩;rw[hfn]at sb hb hB hI hmp hmem pcF |-;obtain⟨ba,bn,bk,rfl⟩:=zF sb;refine go ?_;refine VA (zD3 h2 fn.sig _ fn.blocks sb hB hI) ?_;rintro _ h3 ⟨rfl,e3⟩;have o1:=o1.ext e3;have e03:=e02.trans e3;have sf3:=Wr.ext sf2 e3;refine go ?_;refine VA (y9 h3 r (n+zI fn.blocks)) ?_;rintro _ _ ⟨rfl,rfl⟩;by_cases c1:r<0\/n+zI fn.blocks<=r
 ·have hbl:zS r (n+zI fn.blocks)=false:=by unfold zS;simp;omega
  rw[QI c1];refine gr ?_;exact⟨rfl,e03⟩
 have hbl:zS r (n+zI fn.blocks)=true:=by unfold zS;simp;omega
 rw[QC c1];by_cases c2:r<n
 ·rw[QI c2];refine gr ?_;exact⟨rfl,e03⟩
 rw[QC c2];have e0:=Wa.mk (show ∃ k:Nat,True from⟨0,trivial⟩);obtain⟨csF,hcsF,pcF,hsF⟩:=yv (i:=f.toNat) sf3 (by omega);rw[hfn]at hcsF;obtain⟨vb,rfl,sb,hlb⟩:=hcsF;refine go ?_;refine VD [40,41,42,43,44,45,46,47,48,49,50,51,52,53,54,55,56,57,58,59,60,61,62,63,64,65,7,66,67,6] (by kernel_rfl) (fun x=>fn.blocks.length-x.1) (fun(x:Nat×Int) t h4=>h3=h4/\zB t 6=I x.1/\zB t 7=I x.2/\0<=x.2/\x.2<zI (fn.blocks.drop x.1)/\Wa (ZR fn.blocks (r-n)=((ZR (fn.blocks.drop x.1) x.2).1+x.1,(ZR (fn.blocks.drop x.1) x.2).2))/\zI (fn.blocks.drop x.1)<=128) (0,r-n) ?_ ?_
 ·exact⟨rfl,WA,WA,by simp only;omega,by simp only[Q0];omega,⟨by simp⟩,by simp only[Q0];omega⟩
 rintro⟨k,a⟩ t h4 hsame ⟨rfl,s6,s7,ha0,ha1,hw,h128⟩;simp only at s6 s7 ha0 ha1 hw h128;have hk:k<fn.blocks.length:=by
  refine Gk fun hh=> ?_;rw[List.drop_eq_nil_of_le (by omega)]at ha1;simp[zI]at ha1;omega
 obtain⟨csB,⟨vi,rfl,si,hli⟩,pcB,hsB⟩:=yv sb hk;obtain⟨ia,iN,ik,rfl⟩:=zF si;have hd:=zJU hk;have hd2:=zAc (fn.blocks.drop (k+1));rw[hd,Zz]at ha1 h128;rw[hd]at hw;by_cases hc:((fn.blocks.getD k default).ins.length:Int)<=a
 ·have hw2:ZR (fn.blocks.getD k default::fn.blocks.drop (k+1)) a=((ZR (fn.blocks.drop (k+1)) (a-((fn.blocks.getD k default).ins.length:Int))).1+1,(ZR (fn.blocks.drop (k+1)) (a-((fn.blocks.getD k default).ins.length:Int))).2):=by
   conv=>lhs;unfold ZR
   rw[QI hc]
  have hw:=hw.out;rw[hw2]at hw;refine go ?_;refine zA (k+1,a-((fn.blocks.getD k default).ins.length:Int)) (by simp only;omega) ⟨rfl,Wx,WA,by simp only;omega,by simp only;omega,⟨by rw[hw];simp only[QD,and_true];omega⟩,by simp only;omega⟩
 ·have hw2:ZR (fn.blocks.getD k default::fn.blocks.drop (k+1)) a=(0,a):=by
   conv=>lhs;unfold ZR
   rw[QC hc]
  have hw:=hw.out;rw[hw2]at hw;refine gr ?_;refine⟨?_,e03⟩;rw[hw];simp[one]
set_option maxRecDepth 100000
def YM(xs:List Int)(n:Nat):List Int:=(List.range n).map fun(i:Nat)=>upL xs (i:Int)
theorem zLq(xs:List Int)(n:Nat):(YM xs n).length=n:=by unfold YM;simp
def zNo:U3:=(oV (oR [oB .lss 25 24 23]) (oV (oT 25 0) (oV (o5 1 (oV (oR [oM 26 24,oM 7 26]) (oR [oM 27 4,oM 28 6,oM 29 7,⟨some 30,none,(.nilCheck (.tmp 28))⟩,oF 0 31 30,⟨some 32,none,(.idxArr 16 1 (.tmp 31) (.tmp 29))⟩,oL 33 32,⟨some 34,none,(.buildSlice 1 1 [(.int .i64 0)] [(0,1,(.tmp 33))])⟩,oY 1 35 27 34,oM 4 35]))) (oR [oC .add 36 24 1,oM 24 36]))))
def zUW:U3:=(oV (oR [oX 2 0,oK 4 (.slice none 0 0),oN 5 0]) (oV (oR [oA 2 9 2,oM 10 1,⟨some 11,none,(.call (.func 134) [(.tmp 9),(.tmp 10),(.const (.int .i64 0))])⟩,oM 8 11,oE 12 8 0,oE 13 8 1,oM 6 12,oM 5 13]) (oV (oV (oR [oM 14 5,oC .neq 15 14 0]) (oJ 15 (oV (oR [oM 16 5,oK 4 (.slice none 0 0),oM 5 16]) .ret) .skip)) (oV (oV (oR [oF 1 17 2,oL 18 17,oM 19 1,oI 2 20 18 19,oF 1 21 20,oL 22 21,oQ 23 22,oN 24 0]) (o5 0 (.loop zNo))) (oV (oR [oM 37 4,⟨some 38,none,(.idx 1 (.tmp 37) (.const (.int .i64 0)))⟩,⟨none,none,(.store 1 (.tmp 38) (.const (.int .i64 (-1))))⟩]) (oV (oR [oM 39 4,oM 4 39,oN 5 0]) .ret))))))
theorem zRN(h:U2)(vt vf:Value)(T:List U5)(F:List WP)(f:Int)(E:Env h vt vf T F):
  WC Tryz.prog tb 82 [.agg #[vt,vf],I f] h fun r h'=>(∃ v l,r=.tuple #[v,I (Yt T F f 0)]/\WJ h h' v l/\l.length<=16/\(Yt T F f 0=0->∃ xs,Rul (nxF T F f) xs/\l=YM xs (F.getD f.toNat default).blocks.length)/\(Yt T F f 0≠0->l=[]))/\U8 h h':=by
 have hF:=E.sm.funcs;refine en 40 [(4,none),(5,none)] zUW ?_;refine VH ?_;intro p h1 e1 o1;have E1:=E.ext e1;refine go ?_;refine VA (zK6 h1 vt vf T F f 0 E1) ?_;rintro _ h2 ⟨⟨q,rfl,hq⟩,e2⟩;have o1:=o1.ext e2;have e02:=e1.trans e2;have E2:=E1.ext e2;have sf2:=E2.sf;by_cases ha:Yt T F f 0=0;case neg=>
  have ha':Yt T F f 0≠0:=ha;refine gr ?_;exact⟨⟨_,[],rfl,.inl ⟨rfl,rfl⟩,by simp,fun h=>absurd h ha,fun _=>rfl⟩,e02⟩
 obtain⟨xs,oq,hR⟩:=hq ha;have hlx:=hR.dm.len;obtain⟨g,rfl⟩:∃ g,q=.pointer (some ⟨g,0,none⟩):=let⟨g,_,_,e,_⟩:=oq;⟨g,e⟩;obtain⟨hz,_⟩:=zRk ha;obtain⟨h1z,h2z,hzb,h4z⟩:=ZW hz;have hin:=zBX h4z;obtain⟨hlen,hnx⟩:=Zm hz;rw[hzb]at hlen h2z;rw[ha];replace hR:=Wa.mk hR;obtain⟨ta,tn,tk,rfl⟩:=zF E.st;obtain⟨ga,gn,gk,rfl⟩:=zF sf2;obtain⟨csF,⟨vb,rfl,sb,hlb⟩,pcF,hsF⟩:=yv (i:=f.toNat) sf2 (by omega);obtain⟨_,_,_,rfl⟩:=zF sb;generalize(F.getD f.toNat default).blocks=L at *;refine go ?_;refine VD [25,26,7,27,28,29,30,31,32,33,34,35,4,36,24] (by kernel_rfl) (fun i=>L.length-i) (fun i t h3=>U8 h2 h3/\zB t 24=I i/\i<=L.length/\∃ w,zB t 4=w/\WJ h2 h3 w ((List.range i).map fun(j:Nat)=>pO xs (j:Int))) 0 ?_ ?_
 ·exact⟨U8.refl _,WA,QT _,_,WA,.inl ⟨rfl,rfl⟩⟩
 rintro i t h3 hsame ⟨e3,s24,hi,w,s4,ow⟩;have oq3:=oq.ext e3;refine go ?_;refine VE (fun hc=> ?_) (fun hc=> ?_)<;>simp only[DB]at hc
 ·have hi':i<L.length:=by omega
  refine go ?_;refine WO.bl [xs.getD i 0] ?_;intro v7 h7 e7 o7;refine go ?_;refine Vb (ow.ext e7) o7.sl (e3.trans e7) (by simp;omega) ?_;intro v8 h8 e8 o8;refine go ?_;refine zA (i+1) (by omega) ⟨e8,Wx,by omega,v8,WA,?_⟩;rw[Gy,GA];exact o8
 ·have hii:i=L.length:=by omega
  subst hii;have hpos:0<L.length:=by omega
  obtain⟨m,hm⟩:∃ m,m=(List.range L.length).map fun(j:Nat)=>pO xs (j:Int):=⟨_,rfl⟩;have hml:m.length=L.length:=by rw[hm];simp
  rw[<-hm]at ow;rcases ow with⟨_,h0⟩|ow
  ·rw[h0]at hml;simp at hml;omega
  have sw:=ow.sl;refine go ?_;refine XP (i:=0) (a:= -1) zr zr ow e3 (by omega) ?_;intro h4 e4 o4 _;refine gr ?_;refine⟨⟨_,_,rfl,.inr (o4.since e02),by rw[List.length_set];omega,fun _=>⟨xs,hR.out,?_⟩,fun h=>absurd rfl h⟩,e02.trans e4⟩;rw[hm];refine List.ext_getElem (by simp[YM]) fun j hj1 hj2=> ?_;simp only[YM,List.getElem_map,List.getElem_range,List.getElem_set];by_cases hj:0=j
  ·subst hj;simp[upL]
  ·rw[QC hj];unfold upL;rw[QC (by omega)]
def PlT(T:List U5)(k:Int):Prop:=0<=k/\k<(T.length:Int)/\((T.getD k.toNat default).kind=1\/(T.getD k.toNat default).kind=2\/(T.getD k.toNat default).kind=3)
def zIj(T:List U5)(x:U5):Prop:=(∀ p∈x.parts,PlT T p)/\PlT T x.elem/\x.parts.length<=4/\x.many=0
def zFK(T:List U5)(x:U5)(k:Nat):Prop:=
 (x.kind=1/\x.elem=0/\x.many=0/\x.parts.length=0)\/
 (x.kind=2/\0<=x.elem/\x.elem<(T.length:Int)/\x.many=0/\x.parts.length=0)\/
 (x.kind=3/\zIj T x)\/
 (x.kind=4/\x.elem=0/\x.many=0/\1<=x.parts.length/\x.parts.length<=8/\∀ p∈x.parts,0<=p/\p<(k:Int))\/
 (x.kind=5/\0<=x.elem/\x.elem<(k:Int)/\1<=x.many/\x.many<=16/\x.parts.length=0)
def ZS(T:List U5)(k:Nat):Prop:=zFK T (T.getD k default) k
def ofF(T:List U5):Nat->Int->List Int
 |0,k=>[k]
 |n+1,k=>let x:=T.getD k.toNat default
  if x.kind=4 then(x.parts.map (ofF T n)).flatten else if x.kind=5 then(List.replicate x.many.toNat (ofF T n x.elem)).flatten else[k]
def BP(T:List U5)(k:Nat):List Int:=ofF T (k+1) k
def zMs(T:List U5)(k:Nat):Prop:=∀ j,j<k->ZS T j/\(BP T j).length<=32
theorem zHr{T:List U5}:∀ (n m:Nat) (k:Nat),k<n->k<m->(∀ j,j<=k->ZS T j)->ofF T n k=ofF T m k:=by
 intro n;induction n with
 |zero=>intro m k h;omega
 |succ n ih=>
  intro m k h1 h2 hM;obtain⟨m,rfl⟩:∃ q,m=q+1:=⟨m-1,by omega⟩;have hk:=hM k (QE _);unfold ofF;simp only[QU];split
  ·rename_i h4;congr 1;refine GY fun p hp=> ?_;unfold ZS zFK at hk;have hp':0<=p/\p<(k:Int):=by
    rcases hk with h|h|h|h|h
    ·omega
    ·omega
    ·omega
    ·exact h.2.2.2.2.2 p hp
    ·omega
   obtain⟨q,rfl⟩:∃ q:Nat,p=q:=⟨p.toNat,by omega⟩;exact ih m q (by omega) (by omega) fun j hj=>hM j (by omega)
  ·split
   ·rename_i h4 h5;unfold ZS zFK at hk;have hp':0<=(T.getD k default).elem/\(T.getD k default).elem<(k:Int):=by omega
    obtain⟨q,hq⟩:∃ q:Nat,(T.getD k default).elem=q:=⟨(T.getD k default).elem.toNat,by omega⟩;rw[hq,ih m q (by omega) (by omega) fun j hj=>hM j (by omega)]
   ·rfl
theorem zA7{T:List U5}{k:Nat}(hM:∀ j,j<=k->ZS T j):BP T k=let x:=T.getD k default
  if x.kind=4 then(x.parts.map fun p=>BP T p.toNat).flatten else if x.kind=5 then(List.replicate x.many.toNat (BP T x.elem.toNat)).flatten else[(k:Int)]:=by
 have hk:=hM k (QE _);unfold ZS zFK at hk;unfold BP;rw[ofF];simp only[QU];split
 ·rename_i h4;congr 1;refine GY fun p hp=> ?_;have hp':0<=p/\p<(k:Int):=by
   rcases hk with h|h|h|h|h
   ·omega
   ·omega
   ·omega
   ·exact h.2.2.2.2.2 p hp
   ·omega
  obtain⟨q,rfl⟩:∃ q:Nat,p=q:=⟨p.toNat,by omega⟩;exact zHr _ _ q (by omega) (by omega) fun j hj=>hM j (by omega)
 ·split
  ·rename_i h4 h5;have hp':0<=(T.getD k default).elem/\(T.getD k default).elem<(k:Int):=by omega
   obtain⟨q,hq⟩:∃ q:Nat,(T.getD k default).elem=q:=⟨(T.getD k default).elem.toNat,by omega⟩;rw[hq,QU,zHr k (q+1) q (by omega) (by omega) fun j hj=>hM j (by omega)]
  ·rfl
theorem zAw{m:Int}{l:List Int}:yd m l=true↔∀ p∈l,0<=p/\p<m:=by
 unfold yd;rw[QX];simp
theorem zIm{x:U5}:YE x=true↔x.kind=1\/x.kind=2\/x.kind=3:=by
 unfold YE;simp;omega
theorem zPH(l:List Int)(f:Int->List Int):((l.map f).flatten.length:Int)=(l.map fun p=>((f p).length:Int)).sum:=by
 induction l with
 |nil=>rfl
 |cons a l ih=>simp only[Qm,GP,QM,G9,Int.natCast_add,ih]
theorem zBW(n:Nat)(l:List Int):(List.replicate n l).flatten.length=n*l.length:=by
 induction n with
 |zero=>simp
 |succ n ih=>rw[List.replicate_succ,GP,QM,ih,JC];omega
theorem zHl{T:List U5}{k:Nat}{s:List Int}(hk:k<T.length)(hl:zMs T k)(hs:s.length=k)(hv:∀ j,j<k->s.getD j 0=((BP T j).length:Int)):
  ((Zf T (T.getD k default) k s).2=true↔ZS T k/\(BP T k).length<=32)/\((Zf T (T.getD k default) k s).2=true->(Zf T (T.getD k default) k s).1=((BP T k).length:Int)):=by
 have hun:ZS T k->BP T k=_:=fun h=>zA7 fun j hj=>by
  by_cases e:j=k
  ·subst e;exact h
  ·exact(hl j (by omega)).1
 generalize hx:T.getD k default=x at *;have hM:ZS T k↔zFK T x k:=by unfold ZS;rw[hx]
 unfold zFK at hM;have plain1:x.kind=1->(yQ x=true↔x.elem=0/\x.many=0/\x.parts.length=0):=fun h=>by unfold yQ;simp[h,and_assoc]
 have plain2:x.kind=2->(yQ x=true↔x.many=0/\x.parts.length=0):=fun h=>by unfold yQ;simp[h]
 have plain3:x.kind=3->(yQ x=true↔x.many=0):=fun h=>by unfold yQ;simp[h]
 have plain4:x.kind=4->(yQ x=true↔x.elem=0/\x.many=0):=fun h=>by unfold yQ;simp[h]
 have plain5:x.kind=5->(yQ x=true↔x.parts.length=0):=fun h=>by unfold yQ;simp[h]
 by_cases h1:x.kind=1
 ·have e:Zf T x k s=(1,yQ x):=by unfold Zf;rw[QI h1]
  rw[e,plain1 h1];refine⟨⟨fun h=> ?_,fun h=> ?_⟩,fun h=> ?_⟩
  ·have:=hM.2 (.inl ⟨h1,h⟩);refine⟨this,?_⟩;rw[hun this];simp[h1]
  ·have:=hM.1 h.1;omega
  ·have:=hM.2 (.inl ⟨h1,h⟩);rw[hun this];simp[h1]
 by_cases h2:x.kind=2
 ·have e:Zf T x k s=(1,yQ x&&yd T.length [x.elem]):=by unfold Zf;rw[QC h1,QI h2]
  have e2:(yQ x&&yd T.length [x.elem])=true↔(x.many=0/\x.parts.length=0)/\0<=x.elem/\x.elem<(T.length:Int):=by
   rw[QF,plain2 h2,zAw];simp
  rw[e,e2];have key:(x.many=0/\x.parts.length=0)/\0<=x.elem/\x.elem<(T.length:Int)->ZS T k:=fun h=>hM.2 (.inr (.inl ⟨h2,h.2.1,h.2.2,h.1.1,h.1.2⟩));refine⟨⟨fun h=>⟨key h,?_⟩,fun h=> ?_⟩,fun h=> ?_⟩
  ·rw[hun (key h)];simp[h2]
  ·have:=hM.1 h.1;omega
  ·rw[hun (key h)];simp[h2]
 by_cases h3:x.kind=3
 ·rw[zHu h3];have e2:(yQ x&&decide (x.parts.length<=4)&&yd T.length (x.elem::x.parts)&&(x.elem::x.parts).all fun n=>YE (T.getD n.toNat default))=true↔zIj T x:=by
   unfold zIj PlT;simp only[QF,plain3 h3,QV,zAw,QX,zIm,GL];constructor
   ·rintro⟨⟨⟨a,b⟩,c⟩,d⟩;exact⟨fun p hp=>⟨(c p (.inr hp)).1,(c p (.inr hp)).2,d p (.inr hp)⟩,⟨(c _ (.inl rfl)).1,(c _ (.inl rfl)).2,d _ (.inl rfl)⟩,b,a⟩
   ·rintro⟨a,b,c,d⟩;refine⟨⟨⟨d,c⟩,?_⟩,?_⟩
    ·rintro p (rfl|hp)
     ·exact⟨b.1,b.2.1⟩
     ·exact⟨(a p hp).1,(a p hp).2.1⟩
    ·rintro p (rfl|hp)
     ·exact b.2.2
     ·exact(a p hp).2.2
  simp only[e2];have key:zIj T x->ZS T k:=fun h=>hM.2 (.inr (.inr (.inl ⟨h3,h⟩)));refine⟨⟨fun h=>⟨key h,?_⟩,fun h=> ?_⟩,fun h=> ?_⟩
  ·rw[hun (key h)];simp[h3]
  ·rcases hM.1 h.1 with h|h|h|h|h
   ·omega
   ·omega
   ·exact h.2
   ·omega
   ·omega
  ·rw[hun (key h)];simp[h3]
 by_cases h4:x.kind=4
 ·rw[zS9 h4];have e2:(yQ x&&yd k x.parts)=true↔(x.elem=0/\x.many=0)/\∀ p∈x.parts,0<=p/\p<(k:Int):=by
   rw[QF,plain4 h4,zAw]
  by_cases hp:(yQ x&&yd k x.parts)=true
  ·rw[QI hp];have hp2:=e2.1 hp;have hsum:(x.parts.map fun n=>s.getD n.toNat 0).sum=(x.parts.map fun p=>((BP T p.toNat).length:Int)).sum:=by
    congr 1;refine GY fun p hpp=> ?_;have:=hp2.2 p hpp;exact hv p.toNat (by omega)
   have key:1<=x.parts.length/\x.parts.length<=8->ZS T k:=fun h=>hM.2 (.inr (.inr (.inr (.inl ⟨h4,hp2.1.1,hp2.1.2,h.1,h.2,hp2.2⟩))));have hlen:ZS T k->((BP T k).length:Int)=(x.parts.map fun p=>((BP T p.toNat).length:Int)).sum:=fun h=>by
    rw[hun h];simp only[h4,Q2];rw[zPH]
   simp only[QF,QV];refine⟨⟨fun h=> ?_,fun h=> ?_⟩,fun h=> ?_⟩
   ·have hk2:=key (by omega);have:=hlen hk2;exact⟨hk2,by omega⟩
   ·have:=hlen h.1;have h5:=hM.1 h.1;omega
   ·rw[hsum,hlen (key (by omega))]
  ·rw[QC hp];simp only[Qn,JF,false_implies,and_true];intro h;refine hp (e2.2 ?_);rcases hM.1 h.1 with h|h|h|h|h
   ·omega
   ·omega
   ·omega
   ·exact⟨⟨h.2.1,h.2.2.1⟩,h.2.2.2.2.2⟩
   ·omega
 by_cases h5:x.kind=5
 ·rw[zOY h5];have e2:(yQ x&&yd k [x.elem]&&decide (1<=x.many)&&decide (x.many<=16))=true↔x.parts.length=0/\(0<=x.elem/\x.elem<(k:Int))/\1<=x.many/\x.many<=16:=by
   simp only[QF,plain5 h5,zAw,QV];simp[and_assoc]
  by_cases hp:(yQ x&&yd k [x.elem]&&decide (1<=x.many)&&decide (x.many<=16))=true
  ·rw[QI hp];have hp2:=e2.1 hp;have key:ZS T k:=hM.2 (.inr (.inr (.inr (.inr ⟨h5,hp2.2.1.1,hp2.2.1.2,hp2.2.2.1,hp2.2.2.2,hp2.1⟩))));have hs1:=hv x.elem.toNat (by omega);have hlen:((BP T k).length:Int)=x.many*s.getD x.elem.toNat 0:=by
    rw[hun key];simp only[h5,Q2];rw[QC (by omega),zBW,hs1,Int.natCast_mul,Int.toNat_of_nonneg (by omega)]
   simp only[QV];rw[<-hlen];exact⟨⟨fun h=>⟨key,by omega⟩,fun h=>by omega⟩,fun _=>rfl⟩
  ·rw[QC hp];simp only[Qn,JF,false_implies,and_true];intro h;refine hp (e2.2 ?_);have:=hM.1 h.1;omega
 ·have e:Zf T x k s=(1,false):=by unfold Zf;rw[QC h1,QC h2,QC h3,QC h4,QC h5]
  rw[e];simp only[Qn,JF,false_implies,and_true];intro h;have:=hM.1 h.1;omega
theorem zJp{T:List U5}:∀ k,k<=T.length->(∀ s,Z2 T k=some s->zMs T k/\s.length=k/\∀ j,j<k->s.getD j 0=((BP T j).length:Int))/\(zMs T k->∃ s,Z2 T k=some s):=by
 intro k;induction k with
 |zero=>exact fun _=>⟨fun s hs=>by cases hs;exact⟨fun j hj=>absurd hj (GR _),rfl,fun j hj=>absurd hj (GR _)⟩,fun _=>⟨[],rfl⟩⟩
 |succ k ih=>
  intro hk;obtain⟨i1,i2⟩:=ih (by omega);refine⟨fun s hs=> ?_,fun hl=> ?_⟩
  ·unfold Z2 at hs;split at hs
   ·cases hs
   ·rename_i s0 h0;obtain⟨a,b,c⟩:=i1 s0 h0;obtain⟨m1,m2⟩:=zHl (T:=T) (k:=k) (by omega) a b c;split at hs
    ·rename_i hm;cases hs;have h1:=m1.1 hm;have h2:=m2 hm;refine⟨fun j hj=> ?_,by simp[b],fun j hj=> ?_⟩
     ·by_cases e:j=k
      ·subst e;exact h1
      ·exact a j (by omega)
     ·by_cases e:j=k
      ·subst e;rw[<-h2];simp[List.getD,<-b]
      ·rw[<-c j (by omega)];simp[List.getD,Qx (show j<s0.length by omega)]
    ·cases hs
  ·obtain⟨s0,h0⟩:=i2 fun j hj=>hl j (by omega);obtain⟨a,b,c⟩:=i1 s0 h0;obtain⟨m1,m2⟩:=zHl (T:=T) (k:=k) (by omega) a b c;unfold Z2;rw[h0];simp only;rw[QI (m1.2 (hl k (by omega)))];exact⟨_,rfl⟩
theorem zBw{T:List U5}:yq T=if 16<T.length then 4 else(open Classical in if zMs T T.length then 0 else 30):=by
 classical
 unfold yq;split
 ·rfl
 ·obtain⟨i1,i2⟩:=zJp T.length (QE _);split
  ·rename_i s hs;rw[QI (i1 s hs).1]
  ·rename_i hs;rw[QC];intro h;obtain⟨s,h2⟩:=i2 h;rw[h2]at hs;cases hs
def zJs(op:Int):Prop:=(4<=op/\op<=10)\/op=15\/op=17
def zIV(op:Int):Prop:=zJs op\/op=13\/op=14\/op=16\/op=19\/op=21
def zHx(op:Int):Prop:=op=18\/op=19\/op=22
def zUc(op:Int):Prop:=1<=op/\op<=22/\op≠13/\op≠17/\op≠21
theorem zDp{op:Int}(h:0<=op):((zW op).2.1=true↔zJs op)/\((zW op).1=true↔zIV op)/\((zW op).2.2.2.1=true↔zHx op)/\((zW op).2.2.2.2.2=true↔zUc op)/\((zW op).2.2.2.2.1=true↔op=22)/\((zW op).2.2.1=true↔op=1\/op=3\/op=14\/op=18)/\(zW op=(false,false,false,false,false,false)↔op<1\/22<op):=by
 obtain⟨n,rfl⟩:=Int.eq_ofNat_of_zero_le h;by_cases hn:n<23
 ·clear h;unfold zIV zHx zUc zJs;have hz:(List.range 23).all (fun(n:Nat)=>decide (zW (n:Int)=(false,false,false,false,false,false)) == decide ((n:Int)<1\/22<(n:Int)))=true:=by decide+kernel
  have hz:=QX.1 hz n (GJ.2 hn);rw[G3,decide_eq_decide]at hz;refine⟨?_,?_,?_,?_,?_,?_,hz⟩<;>(clear hz;revert n;decide+kernel)
 ·have e:zW (n:Int)=(false,false,false,false,false,false):=by
   unfold zW;rw[List.getD,G1 (by simp only[hasT,GT,Gz];omega)];rfl
  rw[e];unfold zIV zHx zUc zJs;simp only[Qn,JF,true_iff];omega
def zi(x:Wg):List Int:=(if(zW x.op).1 then[x.a]else[])++((if(zW x.op).2.1 then[x.b]else[])++(if(zW x.op).2.2.2.1 then x.args else[]))
def zLm(x:Wg)(funcs:Int):Prop:=if x.op=1 then True else if x.op=3\/x.op=18 then 0<=x.n/\x.n<funcs else if x.op=14 then 0<=x.n/\x.n<8 else x.n=0
def Bj(l:List Int)(m:Int):Prop:=∀ p∈l,0<=p/\p<m
structure MayI(x:Wg)(s:Br):Prop where
 op:1<=x.op/\x.op<=22
 uses:Bj (zi x) s.regs
 num:zLm x s.funcs
 a:(zW x.op).1=true\/x.a=0
 b:(zW x.op).2.1=true\/x.b=0
 g:(zW x.op).2.2.2.1=true\/(x.args.length:Int)<=0
 ans:if(zW x.op).2.2.2.2.2 then 0<=x.ty/\x.ty<s.types else x.ty=0
 frm:if(zW x.op).2.2.2.2.1 then(x.frm.length:Int)=x.args.length/\1<=(x.frm.length:Int)/\(x.frm.length:Int)<=16/\Bj x.frm s.blocks else(x.frm.length:Int)=0/\(x.args.length:Int)<=4
theorem zEY{l:List Int}{m:Int}:zFJ l m=true↔Bj l m:=by
 unfold zFJ zS Bj;simp[QX]
theorem zEA{l k:List Int}{m:Int}:Bj (l++k) m↔Bj l m/\Bj k m:=by
 unfold Bj;constructor
 ·exact fun h=>⟨fun p hp=>h p (Qi.2 (.inl hp)),fun p hp=>h p (Qi.2 (.inr hp))⟩
 ·exact fun h p hp=>(Qi.1 hp).elim (h.1 p) (h.2 p)
theorem zIx{c:Bool}{l:List Int}{m:Int}:Bj (if c then l else[]) m↔(c=true->Bj l m):=by
 cases c
 ·simp[Bj]
 ·simp
theorem zDz{a m:Int}:Bj [a] m↔zS a m=true:=by unfold Bj zS;simp
theorem zHj{x:Wg}{s:Br}(ho:0<=x.op):zLm x s.funcs↔zAJ x s=true/\((zW x.op).2.2.1=true\/x.n=0):=by
 obtain⟨_,_,_,_,_,hn,_⟩:=zDp ho;rw[hn];unfold zLm zAJ;by_cases h1:x.op=1
 ·simp[h1]
 by_cases h3:x.op=3\/x.op=18
 ·rw[QC h1,QI h3,QI h3,QF,Gg,Gg];omega
 by_cases h14:x.op=14
 ·rw[QC h1,QC h3,QI h14,QC h3,QI h14,QF,Gg,Gg];omega
 ·rw[QC h1,QC h3,QC h14,QC h3,QC h14];simp;omega
theorem zEw{x:Wg}{s:Br}(ho:0<=x.op):zCb x s=true↔MayI x s:=by
 obtain⟨_,_,_,_,hf,_,hz⟩:=zDp ho;have hnum:=zHj (x:=x) (s:=s) ho;have key:MayI x s↔(1<=x.op/\x.op<=22)/\Bj (zi x) s.regs/\zLm x s.funcs/\((zW x.op).1=true\/x.a=0)/\((zW x.op).2.1=true\/x.b=0)/\((zW x.op).2.2.2.1=true\/(x.args.length:Int)<=0)/\(if(zW x.op).2.2.2.2.2 then 0<=x.ty/\x.ty<s.types else x.ty=0)/\
   (if(zW x.op).2.2.2.2.1 then(x.frm.length:Int)=x.args.length/\1<=(x.frm.length:Int)/\(x.frm.length:Int)<=16/\Bj x.frm s.blocks else(x.frm.length:Int)=0/\(x.args.length:Int)<=4):=
  ⟨fun⟨a,b,c,d,e,f,g,h⟩=>⟨a,b,c,d,e,f,g,h⟩,fun⟨a,b,c,d,e,f,g,h⟩=>⟨a,b,c,d,e,f,g,h⟩⟩
 rw[key,hnum];unfold zCb zQp zKw zK2 zi;simp only;have hz':(decide (zW x.op=(false,false,false,false,false,false))=false)↔(1<=x.op/\x.op<=22):=by
  rw[Gh,hz];omega
 have hl0:Bj x.args s.regs\/¬(x.args.length:Int)<=0:=by
  by_cases h:(x.args.length:Int)<=0
  ·left;have:x.args=[]:=List.eq_nil_of_length_eq_zero (by omega);rw[this];exact fun p hp=>by cases hp
  ·exact .inr h
 rw[zEA,zEA,zIx,zIx,zIx,zDz,zDz];have hty:(zS x.ty s.types=true)↔0<=x.ty/\x.ty<s.types:=by unfold zS;simp
 rw[<-hz',<-hty,<-zEY,<-zEY];rw[<-zEY]at hl0;generalize decide (zW x.op=(false,false,false,false,false,false))=Z at *;generalize zW x.op=q at *;obtain⟨A,B,N,G,R,S⟩:=q;simp only;generalize zS x.a s.regs=ba at *;generalize zS x.b s.regs=bb at *;generalize zFJ x.args s.regs=bg at *;generalize zAJ x s=bn at *;generalize zS x.ty s.types=bt at *;generalize zFJ x.frm s.blocks=bf at *;clear hz hf hnum key hz' hty;generalize x.args.length=la at *;generalize x.frm.length=lf at *;generalize x.a=a at *;generalize x.b=b at *;generalize x.n=n at *;generalize x.ty=ty at *;cases Z<;>simp only[Qq,Qo,QY,Qg,Qn,JF,false_and,not_false_eq_true,Bool.true_eq_false,Qf,QY,true_and];cases R
 ·cases A<;>cases B<;>cases N<;>cases G<;>cases S<;>simp<;>(constructor<;>intro h<;>simp_all<;>omega)
 ·cases A<;>cases B<;>cases N<;>cases G<;>cases S<;>simp<;>(constructor<;>intro h<;>simp_all<;>omega)
theorem zNp{x:Bl}{s:Br}:zBN x s=true↔(x.kind=1/\x.a=0/\x.els=0/\Bj [x.to] s.blocks)\/(x.kind=2/\Bj [x.a] s.regs/\Bj [x.to,x.els] s.blocks)\/(x.kind=3/\x.to=0/\x.els=0/\Bj [x.a] s.regs):=by
 have h2:Bj [x.to,x.els] s.blocks↔zS x.to s.blocks=true/\zS x.els s.blocks=true:=by unfold Bj zS;simp
 rw[h2,zDz,zDz];unfold zBN;by_cases k1:x.kind=1
 ·simp[k1,and_assoc]
 by_cases k2:x.kind=2
 ·simp[k2,and_assoc]
 by_cases k3:x.kind=3
 ·simp[k3,and_assoc]
 ·simp[k1,k2,k3]
end
end Go.Proofs.YtmejfcakhpihlaaGreatDoor
