/- What functions of the program come to in the abstract machine, and plain laws about it; no statement of the seat is proved in this text. -/
import Derived.Test.YtmejfcakhpihlaaGreatDoorJf
import Derived.Test.YtmejfcakhpihlaaGreatDoorJe
import Derived.Test.YtmejfcakhpihlaaGreatDoorJc
import Derived.Test.YtmejfcakhpihlaaGreatDoorAmU
import Derived.Test.YtmejfcakhpihlaaGreatDoorJa
import Derived.Test.YtmejfcakhpihlaaGreatDoorJb
set_option linter.unusedVariables false
set_option linter.unusedSimpArgs false
set_option maxHeartbeats 1000000
namespace Go.Proofs.YtmejfcakhpihlaaGreatDoor
noncomputable section
open Go.Am
set_option maxRecDepth 100000
theorem zUI {hB h:Uz}{cells:List Value}{A:Nat->List Int}(hl:cells.length=16)(hall:∀ j,j<16->WH hB h (cells.getD j undef) (A j)):zJ cells=true:=by
 unfold zJ;rw[QV];intro x hx;obtain⟨j,hj,rfl⟩:=List.mem_iff_getElem.1 hx;have e:cells.getD j undef=cells[j]:=by simp[List.getD,QD hj]
 have:=hall j (by omega);rw[e]at this;rcases this with ⟨h,_⟩|⟨_,_,_,h,_⟩<;>rw[h]
theorem zDB (l:List Int):Ym (.agg (l.map I).toArray)=true:=by
 show (l.map I).all yO=true;rw[QV];intro x hx;obtain⟨n,_,rfl⟩:=Q6.1 hx;rfl
def zMh:U0:=(oV (oR [oC .lss 34 33 16]) (oV (oT 34 0) (oV (o5 1 (oV (oR [oM 35 33,oM 9 35]) (o6 [oM 36 8,oM 37 9,oM 38 8,oM 39 9,(⟨some 40,none,(.nilCheck (.tmp 36))⟩,[]),oF 0 41 40,(⟨some 42,none,(.idxArr 16 1 (.tmp 41) (.tmp 37))⟩,[]),(⟨none,none,(.store 1 (.tmp 42) (.const (.int .i64 (-1))))⟩,[]),(⟨some 43,none,(.nilCheck (.tmp 38))⟩,[]),oF 16 44 43,(⟨some 45,none,(.idxArr 16 1 (.tmp 44) (.tmp 39))⟩,[]),(⟨none,none,(.store 1 (.tmp 45) (.const (.int .i64 (-1))))⟩,[])]))) (oR [oC .add 46 33 1,oM 33 46]))))
def zLe:U0:=(oV (oR [oB .lss 50 49 48]) (oV (oT 50 2) (oV (o5 3 (oV (oR [oM 51 49,oI 1 52 47 49,oL 53 52,oM 10 51,oM 11 53]) (oR [oM 54 8,oM 55 11,oM 56 10,⟨some 57,none,(.nilCheck (.tmp 54))⟩,oF 16 58 57,⟨some 59,none,(.idxArr 16 1 (.tmp 58) (.tmp 55))⟩,oS 1 59 56]))) (oR [oC .add 60 49 1,oM 49 60]))))
def zL5:U0:=(oV (oR [oB .lss 81 80 79]) (oV (oT 81 8) (oV (o5 9 (oV (oR [oI 1 82 78 80,oL 83 82,oM 17 83]) (o5 10 (oV (oR [oM 89 8,oM 90 17,⟨some 91,none,(.nilCheck (.tmp 89))⟩,oF 0 92 91,⟨some 93,none,(.idxArr 16 1 (.tmp 92) (.tmp 90))⟩,oL 94 93,oC .eql 95 94 (-1),oM 88 95]) (oJ 88 .skip (oV (oR [oM 97 15,oC .eql 98 97 (-1),oM 96 98]) (oJ 96 (oR [oM 99 17,oM 15 99]) (oR [oM 84 8,oM 85 15,oM 86 17,o3 87 224 84 85 86,oM 15 87])))))))) (oR [oC .add 100 80 1,oM 80 100]))))
def zMM:U0:=(oV (oR [oB .lss 73 72 71]) (oV (oT 73 6) (oV (o5 7 (oV (oR [oI 1 74 70 72,oL 75 74,oM 14 75]) (oV (oR [oN 15 (-1)]) (oV (oV (oR [oM 76 14,⟨some 77,none,(.idxArr 16 1 (.tmp 7) (.tmp 76))⟩,oL 78 77,oQ 79 78,oN 80 0]) (o5 8 (.loop zL5))) (oR [oM 101 8,oM 102 14,oM 103 15,⟨some 104,none,(.nilCheck (.tmp 101))⟩,oF 0 105 104,⟨some 106,none,(.idxArr 16 1 (.tmp 105) (.tmp 102))⟩,oS 1 106 103]))))) (oR [oC .add 107 72 1,oM 72 107]))))
def zLT:U0:=(o5 5 (oV (oR [oM 65 8,⟨some 66,none,(.nilCheck (.tmp 65))⟩,oF 0 67 66,oA 16 68 67,⟨some 12,none,(.alloc [(.int .i64 0),(.int .i64 0),(.int .i64 0),(.int .i64 0),(.int .i64 0),(.int .i64 0),(.int .i64 0),(.int .i64 0),(.int .i64 0),(.int .i64 0),(.int .i64 0),(.int .i64 0),(.int .i64 0),(.int .i64 0),(.int .i64 0),(.int .i64 0)])⟩,oS 16 12 68]) (oV (oV (oR [oM 69 5,⟨some 70,none,(.slice 1 (.tmp 69) (some (.const (.int .i64 1))) none none)⟩,oQ 71 70,oN 72 0]) (o5 6 (.loop zMM))) (oV (o6 [oA 16 108 12,oM 109 8,(⟨some 110,none,(.nilCheck (.tmp 109))⟩,[]),oF 0 111 110,oA 16 112 111,(⟨some 113,none,(.binP .eql 202 (.tmp 108) (.tmp 112))⟩,[])]) (oJ 113 (.exit 4) .skip)))))
def zQj:U0:=(oV (oR [oX 2 0,oK 4 (.pointer none)]) (.scope (oV (oR [oA 2 19 2,oM 20 1,o2 21 222 19 20,oM 18 21,oE 22 18 0,oE 23 18 1,oM 5 22,oM 6 23]) (oV (oR [oF 1 24 2,oL 25 24,oM 26 1,oI 2 27 25 26,oF 1 28 27,oL 29 28,o1 30 223 29,⟨some 7,none,(.alloc [(.slice none 0 0),(.slice none 0 0),(.slice none 0 0),(.slice none 0 0),(.slice none 0 0),(.slice none 0 0),(.slice none 0 0),(.slice none 0 0),(.slice none 0 0),(.slice none 0 0),(.slice none 0 0),(.slice none 0 0),(.slice none 0 0),(.slice none 0 0),(.slice none 0 0),(.slice none 0 0)])⟩,oS 16 7 30]) (oV (oR [⟨some 31,none,(.build [(.int .i64 0),(.int .i64 0),(.int .i64 0),(.int .i64 0),(.int .i64 0),(.int .i64 0),(.int .i64 0),(.int .i64 0),(.int .i64 0),(.int .i64 0),(.int .i64 0),(.int .i64 0),(.int .i64 0),(.int .i64 0),(.int .i64 0),(.int .i64 0),(.int .i64 0),(.int .i64 0),(.int .i64 0),(.int .i64 0),(.int .i64 0),(.int .i64 0),(.int .i64 0),(.int .i64 0),(.int .i64 0),(.int .i64 0),(.int .i64 0),(.int .i64 0),(.int .i64 0),(.int .i64 0),(.int .i64 0),(.int .i64 0)] [])⟩,oX 32 31,oM 8 32]) (oV (oV (oR [oN 33 0]) (o5 0 (.loop zMh))) (oV (oV (oR [oM 47 5,oQ 48 47,oN 49 0]) (o5 2 (.loop zLe))) (oV (oR [oM 61 8,⟨some 62,none,(.nilCheck (.tmp 61))⟩,oF 0 63 62,⟨some 64,none,(.idxArr 16 1 (.tmp 63) (.const (.int .i64 0)))⟩,⟨none,none,(.store 1 (.tmp 64) (.const (.int .i64 0)))⟩]) (oV (.label 0) (oV (o5 4 (.loop zLT)) (oV (oR [oM 114 8,oM 4 114]) .ret)))))))))))
theorem zTI (h:Uz)(vt vf:Value)(T:List U2)(F:List WP)(f:Int)(tt:Bb h)(hm:h.mark<=h.n)(sm:BA T F)(st:Wr h vt T)(sf:Wn h vf F)(hb:(zD T F f 0).2=0):
  WC Tryz.prog tb 192 [.agg #[vt,vf],I f] h fun r h'=>(∃ p xs,r=p/\U3 h h' p (xs.map I)/\Rul (Wl (zD T F f 0).1) xs)/\U5 h h':=by
 obtain⟨_,hpos,hLB,hre⟩:=ZS hb;have hreg:=zBZ hre;obtain⟨hlen,hin⟩:=Zh hb;have hE:=zIe hb;obtain⟨law1,law2,⟨l0,law3⟩,law4,law5,law6,law7⟩:=zBa hb;have hnd:=zDV hb;have hpar:=zFr hb;have hrpo:∀ {pos:Int->Int},(∀ i,i<(zU T F f).1.length->pos ((zU T F f).1.getD i 0)=i)->Rpo (Wl (zD T F f 0).1) pos:=fun hp=>zMD hb hp;have hmem:∀ c,Wh (Wl (zD T F f 0).1) 0 c->∃ i,i<(zU T F f).1.length/\(zU T F f).1.getD i 0=c:=fun c w=>zA8 (law4 c ((Yq hb).2 w));have hway:∀ i,i<(zU T F f).1.length->Wh (Wl (zD T F f 0).1) 0 ((zU T F f).1.getD i 0):=fun i=>by
  induction i using Nat.strongRecOn with
  |_ i ih=>
   intro hi;by_cases e:(zU T F f).1.getD i 0=0
   ·rw[e];exact .here
   ·obtain⟨j,hj,hm⟩:=hpar i hi e;exact .step (ih j hj (by omega)) hm
 have h00:(zU T F f).1.getD 0 0=0:=by rw[law3];rfl
 have hO1:0<(zU T F f).1.length:=by rw[law3];simp
 have hbnd:∀ c,Wh (Wl (zD T F f 0).1) 0 c->0<=c/\c<((zD T F f 0).1.length:Int):=fun c w=>by
  induction w with
  |here=>exact⟨Qk _,hpos⟩
  |step _ hc ih=>exact hin _ ih _ hc
 obtain⟨K,hK⟩:=zGn hin (by omega);have oerr:(zU T F f).2=0:=by unfold zU;rw[QB (by rw[hb];exact fun e=>e rfl)]
 clear law1 law3 law4 law5 law7;replace law6:=WW.mk law6;replace hpar:=WW.mk hpar;replace hrpo:WW (∀ {pos:Int->Int},(∀ i,i<(zU T F f).1.length->pos ((zU T F f).1.getD i 0)=i)->Rpo (Wl (zD T F f 0).1) pos):=WW.mk hrpo;replace hmem:=WW.mk hmem;replace hway:=WW.mk hway;replace hbnd:=WW.mk hbnd;replace hK:=WW.mk hK;replace hin:=WW.mk hin;refine en 115 [(4,none)] zQj ?_;refine VI ?_;intro p2 h1 e1 o1;have o1:U3 h h1 p2 [vt,vf]:=o1;refine go ?_;refine Vx ?_;refine go ?_;refine VA (zND h1 vt vf T F f (tt.ext e1) (yJ e1 hm) sm (st.ext e1) (Wn.ext sf e1)) ?_;rintro _ h2 ⟨⟨orv,rfl,oor⟩,e2⟩;have e02:=e1.trans e2;have o2:=o1.ext e2;have sf2:=Wn.ext sf e02;have hF:=sm.funcs;obtain⟨csF,⟨vb,rfl,sb,hlb⟩,pcF,hsF⟩:=ZC (i:=f.toNat) sf2 (by omega);rw[<-hLB]at sb;rw[oerr];refine go ?_;refine VA (zOS h2 (yJ e02 hm) vb (zD T F f 0).1 sb hE) ?_;rintro _ h3 ⟨⟨cells,rfl,hcl,hca⟩,e3⟩;have e03:=e02.trans e3;refine go ?_;refine WO.al ?_;intro p7 h4 e4 o4;have e04:=e03.trans e4;refine VG (cs:=cells) o4 e4 ?_ (hn:=hcl) (h1:=zUI hcl hca);intro hb0 e5 o5 u5;have eb:=e03.trans e5;have sor:WJ hb0 orv (zU T F f).1:=oor.sl.ext (e3.trans e5);have spr:WW (∀ j,j<16->WJ hb0 (cells.getD j undef) (zR (zD T F f 0).1 (j:Int) (zD T F f 0).1.length)):=⟨fun j hj=>(hca j hj).sl.ext e5⟩;have o7:U3 h hb0 p7 cells:=o5.since e03;obtain⟨g7,rfl⟩:∃ g7,p7= .pointer (some ⟨g7,0,none⟩):=let ⟨g,_,_,e,_⟩:=o7;⟨g,e⟩;have oorN:WH h hb0 orv (zU T F f).1:=(oor.ext (e3.trans e5)).since e1;clear o4 o5 u5 pcF hsF sb sf2 hca oor;generalize hO:(zU T F f).1=O at *;generalize hnx:Wl (zD T F f 0).1=nx at *;refine go ?_;refine VI ?_;intro p8 h6 e6 o6;obtain⟨g8,hg8,hg8',rfl⟩:∃ g8,hb0.n<=g8/\g8<h6.n/\p8= .pointer (some ⟨g8,0,none⟩):=let ⟨g,a,b,c,_⟩:=o6;⟨g,a,b,c⟩;have o8:U3 hb0 h6 (.pointer (some ⟨g8,0,none⟩)) ((List.replicate 32 (0:Int)).map I):=o6;clear o6;have hmk:hb0.mark<=hb0.n:=yJ eb hm;refine go ?_;refine VD [34,35,9,36,37,38,39,40,41,42,43,44,45,46,33] (by kernel_rfl) (fun k=>17 - k) (fun (k:Nat) t h'=>zB t 33=I (k:Int)/\k<=16/\U5 hb0 h'/\∃ xs:List Int,U3 hb0 h' (.pointer (some ⟨g8,0,none⟩)) (xs.map I)/\xs.length=32/\WW (∀ j,j<k->xs.getD j 0= -1/\xs.getD (16+j) 0= -1)) 0 ?_ ?_
 ·exact⟨U7,by omega,e6,_,o8,by simp,⟨fun j hj=>by omega⟩⟩
 rintro k t h7 hsame ⟨s33,hk,e7,xs,o9,hlx,hx⟩;refine go ?_;refine VE (fun hc=> ?_) (fun hc=> ?_)<;>simp only[DB]at hc
 ·have hk':k<16:=by omega
  refine go ?_;refine VC 0 rfl rfl ?_;have oX:U3 hb0 (inC (zC 0 h7)) (.pointer (some ⟨g8,0,none⟩)) (xs.map I):=o9;refine WM ?_;refine UE (j:=k) oX (by rw[e7.mark];exact hmk) (by omega) ?_;intro X1 n1 oX1 u1 w1;have oY1:U3 hb0 (inC X1) (.pointer (some ⟨g8,0,none⟩)) ((xs.set k (-1)).map I):=oX1;have hl1:(xs.set k (-1)).length=32:=by rw[List.length_set];exact hlx
  refine WM ?_;refine Xz (j:=16+k) oX1 e7 (by rw[e7.mark];exact hmk) n1 u1 w1 (by rw[List.length_set];omega) ?_;intro h8 e8 o8' u8;refine go ?_;refine zA (k+1) (by omega) ⟨U7,by omega,e8,_,o8',by simp[hlx],⟨fun j hj=> ?_⟩⟩;simp only[ZJ (show 16+k<(xs.set k (-1)).length by omega),ZJ (show k<xs.length by omega)];by_cases e:j=k
  ·rw[QB (by omega),QJ e,QJ (by omega)];exact⟨rfl,rfl⟩
  ·rw[QB (by omega),QB e,QB (by omega),QB (by omega)];exact hx.out j (by omega)
 have hkk:k=16:=by omega
 subst hkk;replace hx:WW (∀ j,j<32->xs.getD j 0= -1):=⟨fun j hj=>by
  by_cases h:j<16
  ·exact(hx.out j h).1
  ·have:=(hx.out (j - 16) (by omega)).2;rw[show 16+(j - 16)=j by omega]at this;exact this⟩
 refine go ?_;have osl7:WJ h7 orv O:=sor.ext e7;have hmemO:∀ i,i<O.length->O.getD i 0∈O:=fun i hi=>by rw[QL,QD hi];exact List.getElem_mem hi
 have hOb:∀ i,i<O.length->0<=O.getD i 0/\O.getD i 0<16:=fun i hi=>by have:=law6.out _ (hmemO i hi);omega
 replace hmemO:=WW.mk hmemO;replace hOb:=WW.mk hOb;refine VD [50,51,52,53,10,11,54,55,56,57,58,59,60,49] (by kernel_rfl) (fun k=>O.length+1 - k) (fun (k:Nat) t h'=>zB t 49=I (k:Int)/\k<=O.length/\U5 hb0 h'/\∃ xs:List Int,U3 hb0 h' (.pointer (some ⟨g8,0,none⟩)) (xs.map I)/\xs.length=32/\WW ((∀ j,j<16->xs.getD j 0= -1)/\∀ i,i<k->xs.getD (16+(O.getD i 0).toNat) 0=i)) 0 ?_ ?_
 ·exact⟨U7,by omega,e7,_,o9,hlx,⟨fun j hj=>hx.out j (by omega),fun i hi=>by omega⟩⟩
 clear e7 o9 osl7;rintro k t2 h7 hsame2 ⟨s49,hk,e7,xs,o9,hlx,hx⟩;have osl7:WJ h7 orv O:=sor.ext e7;refine go ?_;refine VE (fun hc=> ?_) (fun hc=> ?_)<;>simp only[DB]at hc
 ·have hk':k<O.length:=by omega
  obtain⟨hb1,hb2⟩:=hOb.out k hk';refine go ?_;refine V2 (j:=16+(O.getD k 0).toNat) o9 e7 (by omega) ?_;intro h8 e8 o8' u8;refine go ?_;refine zA (k+1) (by omega) ⟨U7,by omega,e8,_,o8',by simp[hlx],⟨fun j hj=> ?_,fun i hi=> ?_⟩⟩
  ·rw[ZJ (by omega),QB (by omega)];exact hx.out.1 j hj
  ·rw[ZJ (by omega)];obtain⟨hb3,hb4⟩:=hOb.out i (by omega);by_cases e:i=k
   ·subst e;rw[QJ rfl]
   ·rw[QB (fun e2=>e (Y1 hnd (by omega) hk' (by omega)))];exact hx.out.2 i (by omega)
 have hkk:k=O.length:=by omega
 subst hkk;refine go ?_;refine V2 (j:=0) o9 e7 (by omega) ?_;clear e7;intro h8 e8 o8' u8;obtain⟨xs0,hxs0⟩:∃ l,l=xs.set 0 (0:Int):=⟨_,rfl⟩;rw[<-hxs0]at o8';have hl0:xs0.length=32:=by rw[hxs0];simp[hlx]
 have hp0:∀ j,j<16->xs0.getD j 0=if j=0 then 0 else -1:=fun j hj=>by
  rw[hxs0,ZJ (by omega)];by_cases e:j=0
  ·rw[QJ e,QJ e]
  ·rw[QB e,QB e];exact hx.out.1 j hj
 have hq0:∀ i,i<O.length->xs0.getD (16+(O.getD i 0).toNat) 0=i:=fun i hi=>by
  rw[hxs0,ZJ (by omega),QB (by omega)];exact hx.out.2 i hi
 obtain⟨qs,hqs⟩:∃ l,l=xs0.drop 16:=⟨_,rfl⟩;have r0:Rnd nx qs xs0 0:=by
  have hz:pO xs0 0=0:=(hp0 0 (by omega)).trans (QJ rfl);have rp:Rpo nx (fun b=>qO xs0 b):=hrpo.out fun i hi=>hq0 i hi;refine⟨⟨hl0,rp,?_,fun c w=>by have:=hbnd.out c w;omega⟩,hqs.symm,?_,?_,?_⟩
  ·have hm1:∀ b,Wh nx 0 b->b≠0->pO xs0 b= -1:=fun b w hb=>by
    have:=hbnd.out b w;exact(hp0 b.toNat (by omega)).trans (QB (by omega))
   exact⟨hz,fun b w hb hp=>absurd (hm1 b w hb) hp,fun b w hb hp=>absurd (hm1 b w hb) hp⟩
  ·intro c x hx;cases hx with
   |here h=>exact zHS (nx:=nx) (p:=fun b=>pO xs0 b) (k:=0) hz x (.here h)
  ·intro c h1 h2 h3;exact(hp0 c.toNat (by omega)).trans (QB (fun e=>h3 (by rw[show c=0 by omega];exact .here)))
  ·intro h;omega
 obtain⟨vt',hrt,stl⟩:=zOX oorN hO1;have hqO:∀ {l:List Int},l.drop 16=qs->∀ i,i<O.length->qO l (O.getD i 0)=i:=fun e i hi=>by
  rw[zKA,e,hqs,<-zKA];exact hq0 i hi
 replace hqO:WW (∀ {l:List Int},l.drop 16=qs->∀ i,i<O.length->qO l (O.getD i 0)=i):=WW.mk hqO;clear hp0 hq0 hqs hxs0 hx;refine go ?_;refine VD [65,66,67,68,12,69,70,71,72,73,74,75,14,15,76,77,78,79,80,81,82,83,17,89,90,91,92,93,94,95,88,97,98,96,99,15,84,85,86,87,15,100,80,101,102,103,104,105,106,107,72,108,109,110,111,112,113] (by kernel_rfl) (fun p=>max K 1+1 - p.1) (fun (p:Nat×List Int) t h'=>U5 hb0 h'/\U3 hb0 h' (.pointer (some ⟨g8,0,none⟩)) (p.2.map I)/\p.1<=max K 1/\WW (Rnd nx qs p.2 p.1)) (0,xs0) ?_ ?_
 ·exact⟨e8,o8',QT _,⟨r0⟩⟩
 clear e8 o8' u8 r0 o9 osl7;rintro⟨k,xs⟩ t3 h9 hsame3 ⟨e9,o9,hkK,⟨r⟩⟩;simp only at o9 hkK r;have hlx:=r.dm.len;replace r:=WW.mk r;refine go ?_;refine Vn (j:=0) (n:=16) o9 (by omega) ?_;refine go ?_;refine WO.al ?_;intro p12 h10 e10 o10;refine go ?_;refine VG (cs:=((xs.drop 0).take 16).map I) o10 e10 ?_ (hn:=by simp;omega) (h1:=zCk _);intro h11 e11 o11 u11;have o11:U3 hb0 h11 p12 (((xs.drop 0).take 16).map I):=o11.since e9;obtain⟨g12,hg12,rfl⟩:∃ g12,h9.n<=g12/\p12= .pointer (some ⟨g12,0,none⟩):=let ⟨g,a,b,c,_⟩:=o10;⟨g,a,c⟩;have h98:g8<h9.n:=by obtain⟨q,q1,q2,q3,_⟩:=o9;cases q3;exact q2
 have hne:Value.pointer (some ⟨g8,0,none⟩)≠ .pointer (some ⟨g12,0,none⟩):=fun e=>by cases e;omega
 have e11':=e9.trans e11;have o9:=o9.ext e11;have stl11:WJ h11 vt' (O.drop 1):=stl.ext e11';refine go ?_;refine Vj (i:=1) hrt ?_ (hy:=rfl);refine go ?_;have hdl:(O.drop 1).length=O.length - 1:=by simp
 refine VD [73,74,75,14,15,76,77,78,79,80,81,82,83,17,89,90,91,92,93,94,95,88,97,98,96,99,15,84,85,86,87,15,100,80,101,102,103,104,105,106,107,72] (by kernel_rfl) (fun p=>O.length - p.1) (fun (p:Nat×List Int) t h'=>zB t 72=I (p.1:Int)/\p.1+1<=O.length/\U5 hb0 h'/\U3 hb0 h' (.pointer (some ⟨g8,0,none⟩)) (p.2.map I)/\U3 hb0 h' (.pointer (some ⟨g12,0,none⟩)) (((xs.drop 0).take 16).map I)/\WW (Md nx O qs xs p.2 k (p.1+1))) (0,xs) ?_ ?_
 ·exact⟨U7,by omega,e11',o9,o11,⟨Xi r.out h00⟩⟩
 clear e11' o9 o11 stl11;rintro⟨m,ys⟩ t4 h12 hsame4 ⟨s72,hm72,e12,o12,ow12,g⟩;simp only at s72 hm72 o12 g;have hly:=g.out.dm.len;have stl12:WJ h12 vt' (O.drop 1):=stl.ext e12;refine go ?_;refine VE (fun hc=> ?_) (fun hc=> ?_)<;>simp only[DB]at hc
 ·have hm':m+1<O.length:=by omega
  have hmd:m<(O.drop 1).length:=by omega
  have hdg:(O.drop 1).getD m 0=O.getD (m+1) 0:=by simp[List.getD,Nat.add_comm]
  obtain⟨hb1,hb2⟩:=hOb.out (m+1) hm';have hwb:=hway.out (m+1) hm';obtain⟨ja,hja,hjb⟩:=hpar.out (m+1) hm' (fun e=>by have:=Y1 hnd hm' hO1 (e.trans h00.symm);omega);have hbne:O.getD (m+1) 0≠0:=fun e=>by have:=Y1 hnd hm' hO1 (e.trans h00.symm);omega
  refine go ?_;rw[hdg];generalize hbO:O.getD (m+1) 0=b at *;have o7b:U3 h h12 (.pointer (some ⟨g7,0,none⟩)) cells:=o7.ext e12;have hb16:b.toNat<16:=by omega
  obtain⟨A,hA⟩:∃ A,zR (zD T F f 0).1 b (zD T F f 0).1.length=A:=⟨_,rfl⟩;have sA:WJ h12 (cells.getD b.toNat undef) A:=by
   have:=(spr.out b.toNat hb16).ext e12;rw[show ((b.toNat:Nat):Int)=b by omega,hA]at this;exact this
  have hA16:A.length<=16:=by rw[<-hA];have:=zAo (zD T F f 0).1 b (zD T F f 0).1.length;omega
  have hAin:WW (∀ j,j<A.length->(0<=A.getD j 0/\A.getD j 0<16)/\b∈nx (A.getD j 0)):=⟨fun j hj=>by
   have:=zPV hA hj;rw[hnx]at this;exact⟨by omega,this.2⟩⟩
  refine go ?_;refine V8 (i:=b.toNat) o7b (by omega) ?_;refine go ?_;have dmy:WW (Dm nx ys):=⟨g.out.dm⟩;have huy:WW (∀ a,0<=a->a<16->pO ys a≠ -1->Wh nx 0 a):=⟨fun a h1 h2 h3=>Gh fun h4=>h3 (g.out.un a h1 h2 h4)⟩;refine VD [81,82,83,17,89,90,91,92,93,94,95,88,97,98,96,99,15,84,85,86,87,15,100,80] (by kernel_rfl) (fun p=>A.length - p.1) (fun (p:Nat×Int) t h'=>h12=h'/\zB t 80=I (p.1:Int)/\p.1<=A.length/\zB t 15=I p.2/\WW (Bst nx ys b A p.1 p.2)) (0,-1) ?_ ?_
  ·exact⟨rfl,U7,by omega,U7,⟨.inl ⟨rfl,fun i hi=>by omega⟩⟩⟩
  rintro⟨j,v⟩ t5 _ hsame5 ⟨rfl,s80,hj,s15,bst⟩;simp only at s80 hj s15 bst;refine go ?_;refine VE (fun hd=> ?_) (fun hd=> ?_)<;>simp only[DB]at hd
  ·have hj':j<A.length:=by omega
   obtain⟨⟨ha1,ha2⟩,hab⟩:=hAin.out j hj';refine go ?_;generalize haA:A.getD j 0=a at *;refine VE (fun hq=> ?_) (fun hq=> ?_)<;>simp only[DB]at hq
   ·refine go ?_;refine zA (j+1,v) (by show A.length - (j+1)<A.length - j;omega) ⟨rfl,U7,by show j+1<=_;omega,U7,⟨bst.out.skip (by rw[haA];exact hq)⟩⟩
   have wa:=huy.out a ha1 ha2 hq;refine go ?_;refine VE (fun hv=> ?_) (fun hv=> ?_)<;>simp only[DB]at hv
   ·have hv:v= -1:=hv;subst hv;refine go ?_;refine zA (j+1,a) (by show A.length - (j+1)<A.length - j;omega) ⟨rfl,U7,by show j+1<=_;omega,U7,⟨?_⟩⟩;have:=bst.out.first (by rw[haA];exact wa) (by rw[haA];omega) (by rw[haA];exact hab) (by rw[haA];exact hq)
    rw[haA]at this;exact this
   have hv:v≠ -1:=hv;have wv:Wh nx 0 v/\pO ys v≠ -1:=by
    rcases bst.out with ⟨e,_⟩|⟨_,e1,e2,_⟩
    ·exact absurd e hv
    ·exact⟨e1,e2⟩
   refine go ?_;refine VA (zRl hb0 h12 (.pointer (some ⟨g8,0,none⟩)) nx ys v a o12 dmy wv.1 wa wv.2 hq) ?_;rintro _ _ ⟨⟨mm,rfl,hmt⟩,rfl⟩;refine go ?_;have hmm:=dmy.out.bnd mm hmt.way;refine zA (j+1,mm) (by show A.length - (j+1)<A.length - j;omega) ⟨rfl,U7,by show j+1<=_;omega,U7,⟨?_⟩⟩;exact bst.out.meet hv (by omega) (by rw[haA];exact hab) (by rw[haA];exact hmt)
  have hjj:j=A.length:=by omega
  subst hjj;have bt:Best nx (fun b=>qO ys b) (fun b=>pO ys b) b v:=by
   have wp:=hway.out ja (by omega);refine bst.out.best dmy.out (fun a wa hab=> ?_) wp hjb (g.out.pre ja hja).2 ?_
   ·refine zA8 ?_;rw[<-hA];exact zDR.2 ⟨hbnd.out a wa,by rw[hnx];exact hab⟩
   ·rw[hqO.out g.out.qs ja (by omega),<-hbO,hqO.out g.out.qs (m+1) hm'];omega
  refine go ?_;refine V2 (j:=b.toNat) o12 e12 (by omega) ?_;intro h13 e13 o13 u13;have ow13:=zNM ow12 u13 hne;refine go ?_;refine zA (m+1,ys.set b.toNat v) (by show O.length - (m+1)<O.length - m;omega) ⟨U7,by show m+1+1<=_;omega,e13,o13,ow13,⟨?_⟩⟩;have:=g.out.step (v:=v) hnd hm' (by omega) (by rw[hbO];exact hbne) (by rw[hbO];exact hwb) (by rw[hbO];exact bt) hlx;rw[hbO]at this;exact this
 have hmm:m+1=O.length:=by omega
 have g:WW (Md nx O qs xs ys k O.length):=by rw[<-hmm];exact g
 clear stl12 hm72 hc;refine go ?_;refine Vn (j:=0) (n:=16) ow12 (by simp;omega) ?_ (hx:=by show WE _ _ (.pointer (some ⟨g12,0,none⟩));exact zk);refine go ?_;refine Vn (j:=0) (n:=16) o12 (by omega) ?_;refine Vs (zQE (n:=16) (xs:=(((xs.drop 0).take 16).drop 0).take 16) (ys:=(ys.drop 0).take 16) (by kernel_rfl) (by simp;omega) (by simp;omega)) ?_ (hc:=by rw[zDB,zDB];rfl);have hde:decide (((((xs.drop 0).take 16).drop 0).take 16)=((ys.drop 0).take 16))=decide (xs=ys):=decide_eq_decide.2 ⟨fun e=>by
  simp only[Qx,List.take_take,Nat.min_self]at e;exact zMe e (r.out.qs.trans g.out.qs.symm),fun e=>by rw[e];simp[List.take_take]⟩
 rw[hde];have rd:=g.out.done hmem.out;refine go ?_;refine VE (fun hd=> ?_) (fun hd=> ?_)<;>simp only[DB]at hd
 ·have hd:xs=ys:=hd;subst hd;refine go ?_;refine zIL ?_;refine rt ?_;exact⟨⟨_,xs,rfl,(o12.since eb),zUL g.out hmem.out h00 fun b w=>by obtain⟨i,hi,e⟩:=hmem.out b w;rw[<-e,hqO.out g.out.qs i hi];omega⟩,eb.trans e12⟩
 have hkk:k<max K 1:=by
  refine Nat.lt_of_not_le fun hle=>hd ?_;exact(zJX r.out g.out hmem.out h00 hbnd.out hK.out (by omega) (by omega) hlx hnd hway.out).symm
 refine go ?_;exact zA (k+1,ys) (by show max K 1+1 - (k+1)<max K 1+1 - k;omega) ⟨e12,o12,by show k+1<=_;omega,⟨rd⟩⟩
set_option maxRecDepth 100000
def nxF (T:List U2)(F:List WP)(f:Int):Int->List Int:=Wl (zD T F f 0).1
def Y7 (T:List U2)(F:List WP)(f b:Int):Int:=
 if (zD T F f 0).2≠0 then (zD T F f 0).2 else if b<0\/((zD T F f 0).1.length:Int)<=b then 2 else if b∈(yN T F f).1 then 0 else 6
theorem zQa {T:List U2}{F:List WP}{f b:Int}(h:Y7 T F f b=0):(zD T F f 0).2=0/\Wh (nxF T F f) 0 b:=by
 unfold Y7 at h;split at h
 ·rename_i hb;exact absurd h hb
 ·rename_i hb;have hb:(zD T F f 0).2=0:=by simpa using hb
  split at h
  ·cases h
  ·split at h
   ·rename_i hm;exact⟨hb,(Yq hb).1 hm⟩
   ·cases h
structure Env (h:Uz)(vt vf:Value)(T:List U2)(F:List WP):Prop where
 tt:Bb h
 hm:h.mark<=h.n
 sm:BA T F
 st:Wr h vt T
 sf:Wn h vf F
theorem Env.ext {h h':Uz}{vt vf:Value}{T:List U2}{F:List WP}(E:Env h vt vf T F)(e:U5 h h'):Env h' vt vf T F:=
 ⟨E.tt.ext e,yJ e E.hm,E.sm,E.st.ext e,Wn.ext E.sf e⟩
def zRr:U0:=(oV (oR [oX 3 0,oK 6 (.pointer none),oN 7 0]) (oV (oR [oA 2 11 3,oM 12 1,o2 13 75 11 12,oM 10 13,oE 14 10 0,oE 15 10 1,oM 8 14,oM 9 15]) (oV (o5 0 (oV (oR [oM 17 9,oC .neq 18 17 0,oM 16 18]) (oJ 16 (oV (oR [oM 19 9,oK 6 (.pointer none),oM 7 19]) .ret) (oV (oR [oM 21 2,oC .lss 22 21 0,oM 23 22,oH 23 (oM 24 2),oH 23 (oF 1 25 3),oH 23 (oL 26 25),oH 23 (oM 27 1),oH 23 (oI 2 28 26 27),oH 23 (oF 1 29 28),oH 23 (oL 30 29),oH 23 (oQ 31 30),oH 23 (oB .geq 32 24 31),oO 33 23 32,oM 20 33]) (oJ 20 (oV (oR [oK 6 (.pointer none),oN 7 2]) .ret) (oV (oR [oM 35 8,oM 36 2,o2 37 126 35 36,oW 38 37,oM 34 38]) (oJ 34 (oV (oR [oK 6 (.pointer none),oN 7 6]) .ret) .skip))))))) (oV (oR [oA 2 39 3,oM 40 1,o2 41 192 39 40,oM 6 41,oN 7 0]) .ret))))
theorem zLk (h:Uz)(vt vf:Value)(T:List U2)(F:List WP)(f b:Int)(E:Env h vt vf T F):
  WC Tryz.prog tb 134 [.agg #[vt,vf],I f,I b] h fun r h'=>(∃ p,r= .tuple #[p,I (Y7 T F f b)]/\(Y7 T F f b=0->∃ xs,U3 h h' p (xs.map I)/\Rul (nxF T F f) xs))/\U5 h h':=by
 refine en 42 [(6,none),(7,none)] zRr ?_;refine VI ?_;intro p h1 e1 o1;have E1:=E.ext e1;refine go ?_;refine VA (zHw h1 vt vf T F f E1.tt E1.hm E1.sm E1.st E1.sf) ?_;rintro _ h2 ⟨⟨rev,rfl,ore⟩,e2⟩;have e02:=e1.trans e2;have E2:=E1.ext e2;have o2:=o1.ext e2;have sre:=ore.sl;rw[zFt];by_cases hb:(zD T F f 0).2=0;case neg=>
  have hb':(zD T F f 0).2≠0:=hb;have ha:Y7 T F f b=(zD T F f 0).2:=by unfold Y7;rw[QJ hb]
  refine gr ?_;rw[ha];exact⟨⟨_,rfl,fun h=>absurd h hb⟩,e02⟩
 obtain⟨_,hpos,hLB,hre⟩:=ZS hb;have hreg:=zBZ hre;obtain⟨hlen,hin⟩:=Zh hb;rw[hb];have hF:=E.sm.funcs;have sf2:=E2.sf;refine go ?_;by_cases hb0:b<0
 ·have ha:Y7 T F f b=2:=by unfold Y7;rw[QB (by rw[hb];exact fun e=>e rfl),QJ (.inl hb0)]
  refine gr ?_;rw[ha];exact⟨⟨_,rfl,fun h=>by cases h⟩,e02⟩
 obtain⟨csF,⟨vb,rfl,sb,hlb⟩,pcF,hsF⟩:=ZC (i:=f.toNat) sf2 (by omega);rw[<-hLB]at sb;by_cases hb1:((zD T F f 0).1.length:Int)<=b
 ·have ha:Y7 T F f b=2:=by unfold Y7;rw[QB (by rw[hb];exact fun e=>e rfl),QJ (.inr hb1)]
  refine gr ?_;rw[ha];exact⟨⟨_,rfl,fun h=>by cases h⟩,e02⟩
 have hml:((yN T F f).1.length:Int)<=9223372036854775807:=by
  obtain⟨l1,l2,_⟩:=zBa hb;omega
 refine go ?_;refine VA (Y8 h2 rev (yN T F f).1 b sre hml) ?_;rintro _ _ ⟨rfl,rfl⟩;by_cases hbr:b∈(yN T F f).1;case neg=>
  have ha:Y7 T F f b=6:=by unfold Y7;rw[QB (by rw[hb];exact fun e=>e rfl),QB (by omega),QB hbr]
  refine gr ?_;rw[ha];exact⟨⟨_,rfl,fun h=>by cases h⟩,e02⟩
 have ha:Y7 T F f b=0:=by unfold Y7;rw[QB (by rw[hb];exact fun e=>e rfl),QB (by omega),QJ hbr]
 refine go ?_;refine VA (zTI h2 vt vf T F f E2.tt E2.hm E2.sm E2.st E2.sf hb) ?_;rintro _ h3 ⟨⟨q,xs,rfl,oq,hR⟩,e3⟩;refine gr ?_;rw[ha];exact⟨⟨_,rfl,fun _=>⟨xs,oq.since e02,hR⟩⟩,e02.trans e3⟩
def upL (xs:List Int)(b:Int):Int:=if b=0 then -1 else pO xs b
def zHZ (nx:Int->List Int)(c:Int):Nat:=open Classical in (List.range 16).countP fun (j:Nat)=>decide (W2 nx (j:Int) c)
theorem zSB (nx:Int->List Int)(c:Int):zHZ nx c<=16:=by
 classical
 unfold zHZ;exact QO List.countP_le_length (by simp)
theorem zNP {nx:Int->List Int}{c:Int}(h:0<=c/\c<16):1<=zHZ nx c:=by
 classical
 unfold zHZ;refine List.countP_pos_iff.2 ⟨c.toNat,GJ.2 (by omega),?_⟩;show decide (W2 nx ((c.toNat:Nat):Int) c)=true;rw[Gk,show ((c.toNat:Nat):Int)=c by omega];exact W2.self nx c
theorem zRL {nx:Int->List Int}{c n:Int}(h:0<=c/\c<16)(hs:∀ a,W2 nx a n->W2 nx a c)(hn:¬W2 nx c n):zHZ nx n<zHZ nx c:=by
 classical
 unfold zHZ;have hc:((c.toNat:Nat):Int)=c:=by omega
 refine zEW (p:=fun (j:Nat)=>decide (W2 nx (j:Int) c)) (q:=fun (j:Nat)=>decide (W2 nx (j:Int) n)) (i:=c.toNat) (Qg (by rw[hc];exact W2.self nx c)) (Qb (by rw[hc];exact hn)) (fun j _ hj=> ?_) (GJ.2 (by omega));exact Qg (hs _ (of_decide_eq_true hj))
theorem Rul.step {nx:Int->List Int}{xs:List Int}{c:Int}(r:Rul nx xs)(w:Wh nx 0 c)(hc:c≠0):Wh nx 0 (pO xs c)/\(∀ a,W2 nx a c↔a=c\/W2 nx a (pO xs c))/\¬W2 nx c (pO xs c):=by
 obtain⟨u1,u2,u3⟩:=r.dm.rl.up c w hc (r.all c w);refine⟨u1,fun a=> ?_,fun h=> ?_⟩
 ·rw[<-r.dom a c w,<-r.dom a _ u1];constructor
  ·intro h;cases h with
   |here=>exact .inl rfl
   |up _ _ h=>exact .inr h
  ·rintro(rfl|h)
   ·exact .here
   ·exact .up hc (r.all c w) h
 ·have h2:=r.dm.rl.le ((r.dom _ _ u1).2 h) u1;have h3:=h2.2.1;have h3:qO xs c<=qO xs (pO xs c):=h3;have u3:qO xs (pO xs c)<qO xs c:=u3;omega
def Chn (nx:Int->List Int)(a b:Int)(i:Nat)(c:Int)(met:Bool):Prop:=
 (c= -1/\(W2 nx a b↔met=true))\/(Wh nx 0 c/\(0<=c/\c<16)/\zHZ nx c+i<=16/\(W2 nx a b↔met=true\/W2 nx a c))
theorem Chn.last {nx:Int->List Int}{a b:Int}{i:Nat}{met:Bool}(h:Chn nx a b i 0 met):Chn nx a b (i+1) (-1) (met||decide (0=a)):=by
 rcases h with ⟨h,_⟩|⟨_,_,_,h⟩
 ·cases h
 ·refine .inl ⟨rfl,h.trans ?_⟩;rw[GG,Gk];refine⟨fun h=>h.imp id fun h=> ?_,fun h=>h.imp id fun h=> ?_⟩
  ·exact Gh fun e=>h ⟨0,.here e⟩
  ·rw[<-h];exact W2.self _ _
theorem Chn.next {nx:Int->List Int}{xs:List Int}{a b c:Int}{i:Nat}{met:Bool}(r:Rul nx xs)(hc:0<c)(h:Chn nx a b i c met):Chn nx a b (i+1) (pO xs c) (met||decide (c=a))/\pO xs c≠c/\0<=pO xs c:=by
 rcases h with ⟨h,_⟩|⟨w,bd,hn,h⟩
 ·omega
 ·obtain⟨u1,u2,u3⟩:=r.step w (by omega);have hb:=r.dm.bnd _ u1;refine⟨.inr ⟨u1,hb,?_,h.trans ?_⟩,fun e=> ?_,hb.1⟩
  ·have:=zRL bd (fun a ha=>(u2 a).2 (.inr ha)) u3;omega
  ·rw[u2 a,GG,Gk];refine⟨?_,?_⟩
   ·rintro(h|rfl|h)
    ·exact .inl (.inl h)
    ·exact .inl (.inr rfl)
    ·exact .inr h
   ·rintro((h|h)|h)
    ·exact .inl h
    ·exact .inr (.inl h.symm)
    ·exact .inr (.inr h)
  ·exact u3 (by rw[e];exact W2.self _ _)
theorem Chn.way {nx:Int->List Int}{a b c:Int}{i:Nat}{met:Bool}(h:Chn nx a b i c met)(hc:0<=c):Wh nx 0 c/\c<16/\i<=15:=by
 rcases h with ⟨h,_⟩|⟨w,bd,hn,h⟩
 ·omega
 ·have:=zNP (nx:=nx) bd;exact⟨w,bd.2,by omega⟩
theorem zKs {T:List U2}{n:Int}{f:WP}(h:BT T n f=true):1<=f.blocks.length/\f.blocks.length<=16/\zI f.blocks<=128:=by
 unfold BT at h;split at h
 ·cases h
 ·rename_i hbad;unfold zB6 at hbad;simp only[GG,not_or,G6,Gm,G9]at hbad;have h2:=hbad.1.2;unfold zS at h2;simp only[QF,QX]at h2;omega
set_option maxRecDepth 100000
def zh:List WQ->Int->Int×Int
 |[],a=>(0,a)
 |b::l,a=>if (b.ins.length:Int)<=a then ((zh l (a - b.ins.length)).1+1,(zh l (a - b.ins.length)).2) else (0,a)
def zAS (T:List U2)(F:List WP)(f r:Int):Int×Int×Int:=
 if (zn T F f).2≠0 then (0,0,(zn T F f).2)
 else if r<0\/(zn T F f).1+zI (F.getD f.toNat default).blocks<=r then (0,0,2)
 else if r<(zn T F f).1 then (-1,r,0)
 else ((zh (F.getD f.toNat default).blocks (r - (zn T F f).1)).1,(zh (F.getD f.toNat default).blocks (r - (zn T F f).1)).2,0)
theorem Zw (b:WQ)(l:List WQ):zI (b::l)=(b.ins.length:Int)+zI l:=by unfold zI;simp
theorem zFQ {l:List WQ}:∀ {a:Int},0<=a->a<zI l->0<=(zh l a).1/\(zh l a).1<(l.length:Int)/\0<=(zh l a).2/\(zh l a).2<((l.getD (zh l a).1.toNat default).ins.length:Int):=by
 induction l with
 |nil=>intro a h0 h1;simp[zI]at h1;omega
 |cons b l ih=>
  intro a h0 h1;rw[Zw]at h1;unfold zh;split
  ·rename_i h;obtain⟨i1,i2,i3,i4⟩:=ih (a:=a - b.ins.length) (by omega) (by omega);refine⟨by simp only;omega,by simp only[GF];omega,i3,?_⟩;simp only;rw[show ((zh l (a - ↑b.ins.length)).1+1).toNat=(zh l (a - ↑b.ins.length)).1.toNat+1 by omega];simpa [List.getD]using i4
  ·rename_i h;exact⟨Qk _,by simp only[GF];omega,h0,by simpa [List.getD]using (by omega:a<(b.ins.length:Int))⟩
theorem zJl {l:List WQ}{k:Nat}(h:k<l.length):l.drop k=l.getD k default::l.drop (k+1):=by
 rw[GH h];simp[List.getD,QD h]
theorem zLn {T:List U2}{F:List WP}{f:Int}(h:(zn T F f).2=0):0<=f/\f<(F.length:Int)/\Zz T F=0/\(zn T F f).1=((T.getD (F.getD f.toNat default).sig.toNat default).parts.length:Int):=by
 unfold zn at h |-;split at h
 ·rename_i hp;exact absurd h hp
 ·rename_i hp;rw[QB hp];split at h
  ·rename_i hb;have hb2:=hb;unfold zS at hb2;simp at hb2;exact⟨hb2.1,hb2.2,by omega,by rw[QJ hb]⟩
  ·cases h
def zOn:U0:=(oV (oV (oR [oM 40 7,oF 1 41 3,oL 42 41,oM 43 1,oI 2 44 42 43,oF 1 45 44,oL 46 45,oM 47 6,oI 5 48 46 47,oF 0 49 48,oL 50 49,oQ 51 50,oB .geq 52 40 51]) (oT 52 1)) (o5 2 (oV (oR [oM 53 7,oF 1 54 3,oL 55 54,oM 56 1,oI 2 57 55 56,oF 1 58 57,oL 59 58,oM 60 6,oI 5 61 59 60,oF 0 62 61,oL 63 62,oQ 64 63,oB .sub 65 53 64,oM 7 65]) (oR [oM 66 6,oC .add 67 66 1,oM 6 67]))))
def zTl:U0:=(oV (oR [oX 3 0,oN 6 0,oN 7 0,oN 8 0]) (oV (oR [oA 2 11 3,oM 12 1,o2 13 40 11 12,oM 10 13,oE 14 10 0,oE 15 10 1,oM 9 14,oM 8 15]) (oV (o5 0 (oV (oR [oM 17 8,oC .neq 18 17 0,oM 16 18]) (oJ 16 (oV (oR [oM 19 8,oN 6 0,oN 7 0,oM 8 19]) .ret) (oV (oR [oM 21 2,oM 22 9,oF 1 23 3,oL 24 23,oM 25 1,oI 2 26 24 25,oA 2 27 26,o1 28 41 27,oB .add 29 22 28,o2 30 42 21 29,oW 31 30,oM 20 31]) (oJ 20 (oV (oR [oN 6 0,oN 7 0,oN 8 2]) .ret) (oV (oR [oM 33 2,oM 34 9,oB .lss 35 33 34,oM 32 35]) (oJ 32 (oV (oR [oM 36 2,oN 6 (-1),oM 7 36,oN 8 0]) .ret) .skip))))))) (oV (oR [oM 37 2,oM 38 9,oB .sub 39 37 38,oM 7 39]) (oV (o5 1 (.loop zOn)) (oV (oR [oM 68 6,oM 69 7,oM 6 68,oM 7 69,oN 8 0]) .ret))))))
theorem zNr (h:Uz)(vt vf:Value)(T:List U2)(F:List WP)(f r:Int)(E:Env h vt vf T F):
  WC Tryz.prog tb 18 [.agg #[vt,vf],I f,I r] h fun q h'=>q= .tuple #[I (zAS T F f r).1,I (zAS T F f r).2.1,I (zAS T F f r).2.2]/\U5 h h':=by
 have hF:=E.sm.funcs;refine en 70 [(6,none),(7,none),(8,none)] zTl ?_;refine VI ?_;intro p h1 e1 o1;have E1:=E.ext e1;refine go ?_;refine VA (zH9 h1 vt vf T F f E1.tt E1.hm E1.sm E1.st E1.sf) ?_;rintro _ h2 ⟨rfl,e2⟩;have o1:=o1.ext e2;have e02:=e1.trans e2;have E2:=E1.ext e2;have sf2:=E2.sf;obtain⟨ta,tn,tk,rfl⟩:=zF E.st;obtain⟨ga,gn,gk,rfl⟩:=zF sf2;by_cases ha:(zn T F f).2=0;case neg=>
  have ha':(zn T F f).2≠0:=ha;have hp:zAS T F f r=(0,0,(zn T F f).2):=by unfold zAS;rw[QJ ha]
  rw[hp];refine gr ?_;exact⟨rfl,e02⟩
 obtain⟨hf0,hf1,hpr,hn⟩:=zLn ha;have hmem:=zK (l:=F) (i:=f.toNat) (by omega);have hfn:=(yo hpr).2.2.2 _ hmem;have hb:=zKs hfn;have hsig:=zEy hfn;have hpart:=E.sm.parts _ (zK (l:=T) (i:=(F.getD f.toNat default).sig.toNat) (by omega));have hB:=E.sm.blocks _ hmem;have hI:=E.sm.ins _ hmem;have hmp:=zAj (F.getD f.toNat default).blocks;have hpl:zAS T F f r=if r<0\/(zn T F f).1+zI (F.getD f.toNat default).blocks<=r then (0,0,2)
   else if r<(zn T F f).1 then (-1,r,0) else ((zh (F.getD f.toNat default).blocks (r - (zn T F f).1)).1,(zh (F.getD f.toNat default).blocks (r - (zn T F f).1)).2,0):=by
  unfold zAS;rw[QB (fun e=>e ha)]
 have hn1:0<=(zn T F f).1/\(zn T F f).1<=100:=by rw[hn];omega
 rw[ha,hpl];generalize (zn T F f).1=n at *;clear hpl hn hpart hsig hfn;obtain⟨csF,⟨vb,rfl,sb,hlb⟩,pcF,hsF⟩:=ZC (i:=f.toNat) sf2 (by omega);obtain⟨fn,hfn⟩:∃ fn,F.getD f.toNat default=fn:=⟨_,rfl⟩;rw[hfn]at sb hb hB hI hmp hmem pcF |-;obtain⟨ba,bn,bk,rfl⟩:=zF sb;refine go ?_;refine VA (zDt h2 fn.sig _ fn.blocks sb hB hI) ?_;rintro _ h3 ⟨rfl,e3⟩;have o1:=o1.ext e3;have e03:=e02.trans e3;have sf3:=Wn.ext sf2 e3;refine go ?_;refine VA (y8 h3 r (n+zI fn.blocks)) ?_;rintro _ _ ⟨rfl,rfl⟩;by_cases c1:r<0\/n+zI fn.blocks<=r
 ·have hbl:zS r (n+zI fn.blocks)=false:=by unfold zS;simp;omega
  rw[QJ c1];refine gr ?_;exact⟨rfl,e03⟩
 have hbl:zS r (n+zI fn.blocks)=true:=by unfold zS;simp;omega
 rw[QB c1];by_cases c2:r<n
 ·rw[QJ c2];refine gr ?_;exact⟨rfl,e03⟩
 rw[QB c2];have e0:=WW.mk (show ∃ k:Nat,True from ⟨0,trivial⟩);obtain⟨csF,hcsF,pcF,hsF⟩:=ZC (i:=f.toNat) sf3 (by omega);rw[hfn]at hcsF;obtain⟨vb,rfl,sb,hlb⟩:=hcsF;refine go ?_;refine VD [40,41,42,43,44,45,46,47,48,49,50,51,52,53,54,55,56,57,58,59,60,61,62,63,64,65,7,66,67,6] (by kernel_rfl) (fun x=>fn.blocks.length - x.1) (fun (x:Nat×Int) t h4=>h3=h4/\zB t 6=I x.1/\zB t 7=I x.2/\0<=x.2/\x.2<zI (fn.blocks.drop x.1)/\WW (zh fn.blocks (r - n)=((zh (fn.blocks.drop x.1) x.2).1+x.1,(zh (fn.blocks.drop x.1) x.2).2))/\zI (fn.blocks.drop x.1)<=128) (0,r - n) ?_ ?_
 ·exact⟨rfl,U7,U7,by simp only;omega,by simp only[Qx];omega,⟨by simp⟩,by simp only[Qx];omega⟩
 rintro⟨k,a⟩ t h4 hsame ⟨rfl,s6,s7,ha0,ha1,hw,h128⟩;simp only at s6 s7 ha0 ha1 hw h128;have hk:k<fn.blocks.length:=by
  refine Gh fun hh=> ?_;rw[List.drop_eq_nil_of_le (by omega)]at ha1;simp[zI]at ha1;omega
 obtain⟨csB,⟨vi,rfl,si,hli⟩,pcB,hsB⟩:=ZC sb hk;obtain⟨ia,iN,ik,rfl⟩:=zF si;have hd:=zJl hk;have hd2:=zAj (fn.blocks.drop (k+1));rw[hd,Zw]at ha1 h128;rw[hd]at hw;by_cases hc:((fn.blocks.getD k default).ins.length:Int)<=a
 ·have hw2:zh (fn.blocks.getD k default::fn.blocks.drop (k+1)) a=((zh (fn.blocks.drop (k+1)) (a - ((fn.blocks.getD k default).ins.length:Int))).1+1,(zh (fn.blocks.drop (k+1)) (a - ((fn.blocks.getD k default).ins.length:Int))).2):=by
   conv=>lhs;unfold zh
   rw[QJ hc]
  have hw:=hw.out;rw[hw2]at hw;refine go ?_;refine zA (k+1,a - ((fn.blocks.getD k default).ins.length:Int)) (by simp only;omega) ⟨rfl,Wo,U7,by simp only;omega,by simp only;omega,⟨by rw[hw];simp only[QC,and_true];omega⟩,by simp only;omega⟩
 ·have hw2:zh (fn.blocks.getD k default::fn.blocks.drop (k+1)) a=(0,a):=by
   conv=>lhs;unfold zh
   rw[QB hc]
  have hw:=hw.out;rw[hw2]at hw;refine gr ?_;refine⟨?_,e03⟩;rw[hw];simp[one]
set_option maxRecDepth 100000
def YH (xs:List Int)(n:Nat):List Int:=(List.range n).map fun (i:Nat)=>upL xs (i:Int)
theorem zLJ (xs:List Int)(n:Nat):(YH xs n).length=n:=by unfold YH;simp
def zNF:U0:=(oV (oR [oB .lss 25 24 23]) (oV (oT 25 0) (oV (o5 1 (oV (oR [oM 26 24,oM 7 26]) (oR [oM 27 4,oM 28 6,oM 29 7,⟨some 30,none,(.nilCheck (.tmp 28))⟩,oF 0 31 30,⟨some 32,none,(.idxArr 16 1 (.tmp 31) (.tmp 29))⟩,oL 33 32,⟨some 34,none,(.buildSlice 1 1 [(.int .i64 0)] [(0,1,(.tmp 33))])⟩,oY 1 35 27 34,oM 4 35]))) (oR [oC .add 36 24 1,oM 24 36]))))
def zTL:U0:=(oV (oR [oX 2 0,oK 4 (.slice none 0 0),oN 5 0]) (oV (oR [oA 2 9 2,oM 10 1,⟨some 11,none,(.call (.func 134) [(.tmp 9),(.tmp 10),(.const (.int .i64 0))])⟩,oM 8 11,oE 12 8 0,oE 13 8 1,oM 6 12,oM 5 13]) (oV (oV (oR [oM 14 5,oC .neq 15 14 0]) (oJ 15 (oV (oR [oM 16 5,oK 4 (.slice none 0 0),oM 5 16]) .ret) .skip)) (oV (oV (oR [oF 1 17 2,oL 18 17,oM 19 1,oI 2 20 18 19,oF 1 21 20,oL 22 21,oQ 23 22,oN 24 0]) (o5 0 (.loop zNF))) (oV (oR [oM 37 4,⟨some 38,none,(.idx 1 (.tmp 37) (.const (.int .i64 0)))⟩,⟨none,none,(.store 1 (.tmp 38) (.const (.int .i64 (-1))))⟩]) (oV (oR [oM 39 4,oM 4 39,oN 5 0]) .ret))))))
theorem zPs (h:Uz)(vt vf:Value)(T:List U2)(F:List WP)(f:Int)(E:Env h vt vf T F):
  WC Tryz.prog tb 82 [.agg #[vt,vf],I f] h fun r h'=>(∃ v l,r= .tuple #[v,I (Y7 T F f 0)]/\WH h h' v l/\l.length<=16/\(Y7 T F f 0=0->∃ xs,Rul (nxF T F f) xs/\l=YH xs (F.getD f.toNat default).blocks.length)/\(Y7 T F f 0≠0->l=[]))/\U5 h h':=by
 have hF:=E.sm.funcs;refine en 40 [(4,none),(5,none)] zTL ?_;refine VI ?_;intro p h1 e1 o1;have E1:=E.ext e1;refine go ?_;refine VA (zLk h1 vt vf T F f 0 E1) ?_;rintro _ h2 ⟨⟨q,rfl,hq⟩,e2⟩;have o1:=o1.ext e2;have e02:=e1.trans e2;have E2:=E1.ext e2;have sf2:=E2.sf;by_cases ha:Y7 T F f 0=0;case neg=>
  have ha':Y7 T F f 0≠0:=ha;refine gr ?_;exact⟨⟨_,[],rfl,.inl ⟨rfl,rfl⟩,by simp,fun h=>absurd h ha,fun _=>rfl⟩,e02⟩
 obtain⟨xs,oq,hR⟩:=hq ha;have hlx:=hR.dm.len;obtain⟨g,rfl⟩:∃ g,q= .pointer (some ⟨g,0,none⟩):=let ⟨g,_,_,e,_⟩:=oq;⟨g,e⟩;obtain⟨hz,_⟩:=zQa ha;obtain⟨h1z,h2z,hzb,h4z⟩:=ZS hz;have hin:=zBZ h4z;obtain⟨hlen,hnx⟩:=Zh hz;rw[hzb]at hlen h2z;rw[ha];replace hR:=WW.mk hR;obtain⟨ta,tn,tk,rfl⟩:=zF E.st;obtain⟨ga,gn,gk,rfl⟩:=zF sf2;obtain⟨csF,⟨vb,rfl,sb,hlb⟩,pcF,hsF⟩:=ZC (i:=f.toNat) sf2 (by omega);obtain⟨_,_,_,rfl⟩:=zF sb;generalize (F.getD f.toNat default).blocks=L at *;refine go ?_;refine VD [25,26,7,27,28,29,30,31,32,33,34,35,4,36,24] (by kernel_rfl) (fun i=>L.length - i) (fun i t h3=>U5 h2 h3/\zB t 24=I i/\i<=L.length/\∃ w,zB t 4=w/\WH h2 h3 w ((List.range i).map fun (j:Nat)=>pO xs (j:Int))) 0 ?_ ?_
 ·exact⟨U5.refl _,U7,QT _,_,U7,.inl ⟨rfl,rfl⟩⟩
 rintro i t h3 hsame ⟨e3,s24,hi,w,s4,ow⟩;have oq3:=oq.ext e3;refine go ?_;refine VE (fun hc=> ?_) (fun hc=> ?_)<;>simp only[DB]at hc
 ·have hi':i<L.length:=by omega
  refine go ?_;refine WO.bl [xs.getD i 0] ?_;intro v7 h7 e7 o7;refine go ?_;refine Vb (ow.ext e7) o7.sl (e3.trans e7) (by simp;omega) ?_;intro v8 h8 e8 o8;refine go ?_;refine zA (i+1) (by omega) ⟨e8,Wo,by omega,v8,U7,?_⟩;rw[Gp,Qr];exact o8
 ·have hii:i=L.length:=by omega
  subst hii;have hpos:0<L.length:=by omega
  obtain⟨m,hm⟩:∃ m,m=(List.range L.length).map fun (j:Nat)=>pO xs (j:Int):=⟨_,rfl⟩;have hml:m.length=L.length:=by rw[hm];simp
  rw[<-hm]at ow;rcases ow with ⟨_,h0⟩|ow
  ·rw[h0]at hml;simp at hml;omega
  have sw:=ow.sl;refine go ?_;refine XJ (i:=0) (a:= -1) zk zk ow e3 (by omega) ?_;intro h4 e4 o4 _;refine gr ?_;refine⟨⟨_,_,rfl,.inr (o4.since e02),by rw[List.length_set];omega,fun _=>⟨xs,hR.out,?_⟩,fun h=>absurd rfl h⟩,e02.trans e4⟩;rw[hm];refine JF (by simp[YH]) fun j hj1 hj2=> ?_;simp only[YH,List.getElem_map,List.getElem_range,List.getElem_set];by_cases hj:0=j
  ·subst hj;simp[upL]
  ·rw[QB hj];unfold upL;rw[QB (by omega)]
def PlT (T:List U2)(k:Int):Prop:=0<=k/\k<(T.length:Int)/\((T.getD k.toNat default).kind=1\/(T.getD k.toNat default).kind=2\/(T.getD k.toNat default).kind=3)
def zIK (T:List U2)(x:U2):Prop:=(∀ p∈x.parts,PlT T p)/\PlT T x.elem/\x.parts.length<=4/\x.many=0
def zGx (T:List U2)(x:U2)(k:Nat):Prop:=
 (x.kind=1/\x.elem=0/\x.many=0/\x.parts.length=0)\/
 (x.kind=2/\0<=x.elem/\x.elem<(T.length:Int)/\x.many=0/\x.parts.length=0)\/
 (x.kind=3/\zIK T x)\/
 (x.kind=4/\x.elem=0/\x.many=0/\1<=x.parts.length/\x.parts.length<=8/\∀ p∈x.parts,0<=p/\p<(k:Int))\/
 (x.kind=5/\0<=x.elem/\x.elem<(k:Int)/\1<=x.many/\x.many<=16/\x.parts.length=0)
def ZV (T:List U2)(k:Nat):Prop:=zGx T (T.getD k default) k
def ofF (T:List U2):Nat->Int->List Int
 |0,k=>[k]
 |n+1,k=>let x:=T.getD k.toNat default
  if x.kind=4 then (x.parts.map (ofF T n)).flatten else if x.kind=5 then (List.replicate x.many.toNat (ofF T n x.elem)).flatten else [k]
def BL (T:List U2)(k:Nat):List Int:=ofF T (k+1) k
def zLG (T:List U2)(k:Nat):Prop:=∀ j,j<k->ZV T j/\(BL T j).length<=32
theorem zH5 {T:List U2}:∀ (n m:Nat) (k:Nat),k<n->k<m->(∀ j,j<=k->ZV T j)->ofF T n k=ofF T m k:=by
 intro n;induction n with
 |zero=>intro m k h;omega
 |succ n ih=>
  intro m k h1 h2 hM;obtain⟨m,rfl⟩:∃ q,m=q+1:=⟨m - 1,by omega⟩;have hk:=hM k (QE _);unfold ofF;simp only[QU];split
  ·rename_i h4;congr 1;refine Qu fun p hp=> ?_;unfold ZV zGx at hk;have hp':0<=p/\p<(k:Int):=by
    rcases hk with h|h|h|h|h
    ·omega
    ·omega
    ·omega
    ·exact h.2.2.2.2.2 p hp
    ·omega
   obtain⟨q,rfl⟩:∃ q:Nat,p=q:=⟨p.toNat,by omega⟩;exact ih m q (by omega) (by omega) fun j hj=>hM j (by omega)
  ·split
   ·rename_i h4 h5;unfold ZV zGx at hk;have hp':0<=(T.getD k default).elem/\(T.getD k default).elem<(k:Int):=by omega
    obtain⟨q,hq⟩:∃ q:Nat,(T.getD k default).elem=q:=⟨(T.getD k default).elem.toNat,by omega⟩;rw[hq,ih m q (by omega) (by omega) fun j hj=>hM j (by omega)]
   ·rfl
theorem zAr {T:List U2}{k:Nat}(hM:∀ j,j<=k->ZV T j):BL T k=let x:=T.getD k default
  if x.kind=4 then (x.parts.map fun p=>BL T p.toNat).flatten else if x.kind=5 then (List.replicate x.many.toNat (BL T x.elem.toNat)).flatten else [(k:Int)]:=by
 have hk:=hM k (QE _);unfold ZV zGx at hk;unfold BL;rw[ofF];simp only[QU];split
 ·rename_i h4;congr 1;refine Qu fun p hp=> ?_;have hp':0<=p/\p<(k:Int):=by
   rcases hk with h|h|h|h|h
   ·omega
   ·omega
   ·omega
   ·exact h.2.2.2.2.2 p hp
   ·omega
  obtain⟨q,rfl⟩:∃ q:Nat,p=q:=⟨p.toNat,by omega⟩;exact zH5 _ _ q (by omega) (by omega) fun j hj=>hM j (by omega)
 ·split
  ·rename_i h4 h5;have hp':0<=(T.getD k default).elem/\(T.getD k default).elem<(k:Int):=by omega
   obtain⟨q,hq⟩:∃ q:Nat,(T.getD k default).elem=q:=⟨(T.getD k default).elem.toNat,by omega⟩;rw[hq,QU,zH5 k (q+1) q (by omega) (by omega) fun j hj=>hM j (by omega)]
  ·rfl
theorem zA1 {m:Int}{l:List Int}:yc m l=true↔∀ p∈l,0<=p/\p<m:=by
 unfold yc;rw[QV];simp
theorem zHg {x:U2}:Z5 x=true↔x.kind=1\/x.kind=2\/x.kind=3:=by
 unfold Z5;simp;omega
theorem zPR (l:List Int)(f:Int->List Int):((l.map f).flatten.length:Int)=(l.map fun p=>((f p).length:Int)).sum:=by
 induction l with
 |nil=>rfl
 |cons a l ih=>simp only[Qm,GT,QM,G7,Int.natCast_add,ih]
theorem zBb (n:Nat)(l:List Int):(List.replicate n l).flatten.length=n * l.length:=by
 induction n with
 |zero=>simp
 |succ n ih=>rw[List.replicate_succ,GT,QM,ih,JB];omega
theorem zHo {T:List U2}{k:Nat}{s:List Int}(hk:k<T.length)(hl:zLG T k)(hs:s.length=k)(hv:∀ j,j<k->s.getD j 0=((BL T j).length:Int)):
  ((Zb T (T.getD k default) k s).2=true↔ZV T k/\(BL T k).length<=32)/\((Zb T (T.getD k default) k s).2=true->(Zb T (T.getD k default) k s).1=((BL T k).length:Int)):=by
 have hun:ZV T k->BL T k=_:=fun h=>zAr fun j hj=>by
  by_cases e:j=k
  ·subst e;exact h
  ·exact(hl j (by omega)).1
 generalize hx:T.getD k default=x at *;have hM:ZV T k↔zGx T x k:=by unfold ZV;rw[hx]
 unfold zGx at hM;have plain1:x.kind=1->(yL x=true↔x.elem=0/\x.many=0/\x.parts.length=0):=fun h=>by unfold yL;simp[h,and_assoc]
 have plain2:x.kind=2->(yL x=true↔x.many=0/\x.parts.length=0):=fun h=>by unfold yL;simp[h]
 have plain3:x.kind=3->(yL x=true↔x.many=0):=fun h=>by unfold yL;simp[h]
 have plain4:x.kind=4->(yL x=true↔x.elem=0/\x.many=0):=fun h=>by unfold yL;simp[h]
 have plain5:x.kind=5->(yL x=true↔x.parts.length=0):=fun h=>by unfold yL;simp[h]
 by_cases h1:x.kind=1
 ·have e:Zb T x k s=(1,yL x):=by unfold Zb;rw[QJ h1]
  rw[e,plain1 h1];refine⟨⟨fun h=> ?_,fun h=> ?_⟩,fun h=> ?_⟩
  ·have:=hM.2 (.inl ⟨h1,h⟩);refine⟨this,?_⟩;rw[hun this];simp[h1]
  ·have:=hM.1 h.1;omega
  ·have:=hM.2 (.inl ⟨h1,h⟩);rw[hun this];simp[h1]
 by_cases h2:x.kind=2
 ·have e:Zb T x k s=(1,yL x&&yc T.length [x.elem]):=by unfold Zb;rw[QB h1,QJ h2]
  have e2:(yL x&&yc T.length [x.elem])=true↔(x.many=0/\x.parts.length=0)/\0<=x.elem/\x.elem<(T.length:Int):=by
   rw[QF,plain2 h2,zA1];simp
  rw[e,e2];have key:(x.many=0/\x.parts.length=0)/\0<=x.elem/\x.elem<(T.length:Int)->ZV T k:=fun h=>hM.2 (.inr (.inl ⟨h2,h.2.1,h.2.2,h.1.1,h.1.2⟩));refine⟨⟨fun h=>⟨key h,?_⟩,fun h=> ?_⟩,fun h=> ?_⟩
  ·rw[hun (key h)];simp[h2]
  ·have:=hM.1 h.1;omega
  ·rw[hun (key h)];simp[h2]
 by_cases h3:x.kind=3
 ·rw[zH3 h3];have e2:(yL x&&decide (x.parts.length<=4)&&yc T.length (x.elem::x.parts)&&(x.elem::x.parts).all fun n=>Z5 (T.getD n.toNat default))=true↔zIK T x:=by
   unfold zIK PlT;simp only[QF,plain3 h3,QX,zA1,QV,zHg,GL];constructor
   ·rintro⟨⟨⟨a,b⟩,c⟩,d⟩;exact⟨fun p hp=>⟨(c p (.inr hp)).1,(c p (.inr hp)).2,d p (.inr hp)⟩,⟨(c _ (.inl rfl)).1,(c _ (.inl rfl)).2,d _ (.inl rfl)⟩,b,a⟩
   ·rintro⟨a,b,c,d⟩;refine⟨⟨⟨d,c⟩,?_⟩,?_⟩
    ·rintro p (rfl|hp)
     ·exact⟨b.1,b.2.1⟩
     ·exact⟨(a p hp).1,(a p hp).2.1⟩
    ·rintro p (rfl|hp)
     ·exact b.2.2
     ·exact(a p hp).2.2
  simp only[e2];have key:zIK T x->ZV T k:=fun h=>hM.2 (.inr (.inr (.inl ⟨h3,h⟩)));refine⟨⟨fun h=>⟨key h,?_⟩,fun h=> ?_⟩,fun h=> ?_⟩
  ·rw[hun (key h)];simp[h3]
  ·rcases hM.1 h.1 with h|h|h|h|h
   ·omega
   ·omega
   ·exact h.2
   ·omega
   ·omega
  ·rw[hun (key h)];simp[h3]
 by_cases h4:x.kind=4
 ·rw[zSq h4];have e2:(yL x&&yc k x.parts)=true↔(x.elem=0/\x.many=0)/\∀ p∈x.parts,0<=p/\p<(k:Int):=by
   rw[QF,plain4 h4,zA1]
  by_cases hp:(yL x&&yc k x.parts)=true
  ·rw[QJ hp];have hp2:=e2.1 hp;have hsum:(x.parts.map fun n=>s.getD n.toNat 0).sum=(x.parts.map fun p=>((BL T p.toNat).length:Int)).sum:=by
    congr 1;refine Qu fun p hpp=> ?_;have:=hp2.2 p hpp;exact hv p.toNat (by omega)
   have key:1<=x.parts.length/\x.parts.length<=8->ZV T k:=fun h=>hM.2 (.inr (.inr (.inr (.inl ⟨h4,hp2.1.1,hp2.1.2,h.1,h.2,hp2.2⟩))));have hlen:ZV T k->((BL T k).length:Int)=(x.parts.map fun p=>((BL T p.toNat).length:Int)).sum:=fun h=>by
    rw[hun h];simp only[h4,Q3];rw[zPR]
   simp only[QF,QX];refine⟨⟨fun h=> ?_,fun h=> ?_⟩,fun h=> ?_⟩
   ·have hk2:=key (by omega);have:=hlen hk2;exact⟨hk2,by omega⟩
   ·have:=hlen h.1;have h5:=hM.1 h.1;omega
   ·rw[hsum,hlen (key (by omega))]
  ·rw[QB hp];simp only[Qn,JE,false_implies,and_true];intro h;refine hp (e2.2 ?_);rcases hM.1 h.1 with h|h|h|h|h
   ·omega
   ·omega
   ·omega
   ·exact⟨⟨h.2.1,h.2.2.1⟩,h.2.2.2.2.2⟩
   ·omega
 by_cases h5:x.kind=5
 ·rw[zPD h5];have e2:(yL x&&yc k [x.elem]&&decide (1<=x.many)&&decide (x.many<=16))=true↔x.parts.length=0/\(0<=x.elem/\x.elem<(k:Int))/\1<=x.many/\x.many<=16:=by
   simp only[QF,plain5 h5,zA1,QX];simp[and_assoc]
  by_cases hp:(yL x&&yc k [x.elem]&&decide (1<=x.many)&&decide (x.many<=16))=true
  ·rw[QJ hp];have hp2:=e2.1 hp;have key:ZV T k:=hM.2 (.inr (.inr (.inr (.inr ⟨h5,hp2.2.1.1,hp2.2.1.2,hp2.2.2.1,hp2.2.2.2,hp2.1⟩))));have hs1:=hv x.elem.toNat (by omega);have hlen:((BL T k).length:Int)=x.many * s.getD x.elem.toNat 0:=by
    rw[hun key];simp only[h5,Q3];rw[QB (by omega),zBb,hs1,Int.natCast_mul,Int.toNat_of_nonneg (by omega)]
   simp only[QX];rw[<-hlen];exact⟨⟨fun h=>⟨key,by omega⟩,fun h=>by omega⟩,fun _=>rfl⟩
  ·rw[QB hp];simp only[Qn,JE,false_implies,and_true];intro h;refine hp (e2.2 ?_);have:=hM.1 h.1;omega
 ·have e:Zb T x k s=(1,false):=by unfold Zb;rw[QB h1,QB h2,QB h3,QB h4,QB h5]
  rw[e];simp only[Qn,JE,false_implies,and_true];intro h;have:=hM.1 h.1;omega
theorem zJn {T:List U2}:∀ k,k<=T.length->(∀ s,Zu T k=some s->zLG T k/\s.length=k/\∀ j,j<k->s.getD j 0=((BL T j).length:Int))/\(zLG T k->∃ s,Zu T k=some s):=by
 intro k;induction k with
 |zero=>exact fun _=>⟨fun s hs=>by cases hs;exact⟨fun j hj=>absurd hj (GP _),rfl,fun j hj=>absurd hj (GP _)⟩,fun _=>⟨[],rfl⟩⟩
 |succ k ih=>
  intro hk;obtain⟨i1,i2⟩:=ih (by omega);refine⟨fun s hs=> ?_,fun hl=> ?_⟩
  ·unfold Zu at hs;split at hs
   ·cases hs
   ·rename_i s0 h0;obtain⟨a,b,c⟩:=i1 s0 h0;obtain⟨m1,m2⟩:=zHo (T:=T) (k:=k) (by omega) a b c;split at hs
    ·rename_i hm;cases hs;have h1:=m1.1 hm;have h2:=m2 hm;refine⟨fun j hj=> ?_,by simp[b],fun j hj=> ?_⟩
     ·by_cases e:j=k
      ·subst e;exact h1
      ·exact a j (by omega)
     ·by_cases e:j=k
      ·subst e;rw[<-h2];simp[List.getD,<-b]
      ·rw[<-c j (by omega)];simp[List.getD,Qv (show j<s0.length by omega)]
    ·cases hs
  ·obtain⟨s0,h0⟩:=i2 fun j hj=>hl j (by omega);obtain⟨a,b,c⟩:=i1 s0 h0;obtain⟨m1,m2⟩:=zHo (T:=T) (k:=k) (by omega) a b c;unfold Zu;rw[h0];simp only;rw[QJ (m1.2 (hl k (by omega)))];exact⟨_,rfl⟩
theorem zBy {T:List U2}:yp T=if 16<T.length then 4 else (open Classical in if zLG T T.length then 0 else 30):=by
 classical
 unfold yp;split
 ·rfl
 ·obtain⟨i1,i2⟩:=zJn T.length (QE _);split
  ·rename_i s hs;rw[QJ (i1 s hs).1]
  ·rename_i hs;rw[QB];intro h;obtain⟨s,h2⟩:=i2 h;rw[h2]at hs;cases hs
def zJN (op:Int):Prop:=(4<=op/\op<=10)\/op=15\/op=17
def zHY (op:Int):Prop:=zJN op\/op=13\/op=14\/op=16\/op=19\/op=21
def zIS (op:Int):Prop:=op=18\/op=19\/op=22
def zSx (op:Int):Prop:=1<=op/\op<=22/\op≠13/\op≠17/\op≠21
theorem zDm {op:Int}(h:0<=op):((zY op).2.1=true↔zJN op)/\((zY op).1=true↔zHY op)/\((zY op).2.2.2.1=true↔zIS op)/\((zY op).2.2.2.2.2=true↔zSx op)/\((zY op).2.2.2.2.1=true↔op=22)/\((zY op).2.2.1=true↔op=1\/op=3\/op=14\/op=18)/\(zY op=(false,false,false,false,false,false)↔op<1\/22<op):=by
 obtain⟨n,rfl⟩:=Int.eq_ofNat_of_zero_le h;by_cases hn:n<23
 ·clear h;unfold zHY zIS zSx zJN;have hz:(List.range 23).all (fun (n:Nat)=>decide (zY (n:Int)=(false,false,false,false,false,false)) == decide ((n:Int)<1\/22<(n:Int)))=true:=by decide+kernel
  have hz:=QV.1 hz n (GJ.2 hn);rw[G1,decide_eq_decide]at hz;refine⟨?_,?_,?_,?_,?_,?_,hz⟩<;>(clear hz;revert n;decide+kernel)
 ·have e:zY (n:Int)=(false,false,false,false,false,false):=by
   unfold zY;rw[List.getD,Gy (by simp only[hasT,GF,G8];omega)];rfl
  rw[e];unfold zHY zIS zSx zJN;simp only[Qn,JE,true_iff];omega
def yQ (x:WY):List Int:=(if (zY x.op).1 then [x.a] else [])++((if (zY x.op).2.1 then [x.b] else [])++(if (zY x.op).2.2.2.1 then x.args else []))
def zMg (x:WY)(funcs:Int):Prop:=if x.op=1 then True else if x.op=3\/x.op=18 then 0<=x.n/\x.n<funcs else if x.op=14 then 0<=x.n/\x.n<8 else x.n=0
def Bd (l:List Int)(m:Int):Prop:=∀ p∈l,0<=p/\p<m
structure MayI (x:WY)(s:Bq):Prop where
 op:1<=x.op/\x.op<=22
 uses:Bd (yQ x) s.regs
 num:zMg x s.funcs
 a:(zY x.op).1=true\/x.a=0
 b:(zY x.op).2.1=true\/x.b=0
 g:(zY x.op).2.2.2.1=true\/(x.args.length:Int)<=0
 ans:if (zY x.op).2.2.2.2.2 then 0<=x.ty/\x.ty<s.types else x.ty=0
 frm:if (zY x.op).2.2.2.2.1 then (x.frm.length:Int)=x.args.length/\1<=(x.frm.length:Int)/\(x.frm.length:Int)<=16/\Bd x.frm s.blocks else (x.frm.length:Int)=0/\(x.args.length:Int)<=4
theorem zEj {l:List Int}{m:Int}:zFF l m=true↔Bd l m:=by
 unfold zFF zS Bd;simp[QV]
theorem zEK {l k:List Int}{m:Int}:Bd (l++k) m↔Bd l m/\Bd k m:=by
 unfold Bd;constructor
 ·exact fun h=>⟨fun p hp=>h p (Qj.2 (.inl hp)),fun p hp=>h p (Qj.2 (.inr hp))⟩
 ·exact fun h p hp=>(Qj.1 hp).elim (h.1 p) (h.2 p)
theorem zIn {c:Bool}{l:List Int}{m:Int}:Bd (if c then l else []) m↔(c=true->Bd l m):=by
 cases c
 ·simp[Bd]
 ·simp
theorem zDl {a m:Int}:Bd [a] m↔zS a m=true:=by unfold Bd zS;simp
theorem zIG {x:WY}{s:Bq}(ho:0<=x.op):zMg x s.funcs↔zAF x s=true/\((zY x.op).2.2.1=true\/x.n=0):=by
 obtain⟨_,_,_,_,_,hn,_⟩:=zDm ho;rw[hn];unfold zMg zAF;by_cases h1:x.op=1
 ·simp[h1]
 by_cases h3:x.op=3\/x.op=18
 ·rw[QB h1,QJ h3,QJ h3,QF,Gk,Gk];omega
 by_cases h14:x.op=14
 ·rw[QB h1,QB h3,QJ h14,QB h3,QJ h14,QF,Gk,Gk];omega
 ·rw[QB h1,QB h3,QB h14,QB h3,QB h14];simp;omega
theorem zEq {x:WY}{s:Bq}(ho:0<=x.op):zCW x s=true↔MayI x s:=by
 obtain⟨_,_,_,_,hf,_,hz⟩:=zDm ho;have hnum:=zIG (x:=x) (s:=s) ho;have key:MayI x s↔(1<=x.op/\x.op<=22)/\Bd (yQ x) s.regs/\zMg x s.funcs/\((zY x.op).1=true\/x.a=0)/\((zY x.op).2.1=true\/x.b=0)/\((zY x.op).2.2.2.1=true\/(x.args.length:Int)<=0)/\(if (zY x.op).2.2.2.2.2 then 0<=x.ty/\x.ty<s.types else x.ty=0)/\
   (if (zY x.op).2.2.2.2.1 then (x.frm.length:Int)=x.args.length/\1<=(x.frm.length:Int)/\(x.frm.length:Int)<=16/\Bd x.frm s.blocks else (x.frm.length:Int)=0/\(x.args.length:Int)<=4):=
  ⟨fun ⟨a,b,c,d,e,f,g,h⟩=>⟨a,b,c,d,e,f,g,h⟩,fun ⟨a,b,c,d,e,f,g,h⟩=>⟨a,b,c,d,e,f,g,h⟩⟩
 rw[key,hnum];unfold zCW zRT zJ8 zKk yQ;simp only;have hz':(decide (zY x.op=(false,false,false,false,false,false))=false)↔(1<=x.op/\x.op<=22):=by
  rw[Gm,hz];omega
 have hl0:Bd x.args s.regs\/¬(x.args.length:Int)<=0:=by
  by_cases h:(x.args.length:Int)<=0
  ·left;have:x.args=[]:=List.eq_nil_of_length_eq_zero (by omega);rw[this];exact fun p hp=>by cases hp
  ·exact .inr h
 rw[zEK,zEK,zIn,zIn,zIn,zDl,zDl];have hty:(zS x.ty s.types=true)↔0<=x.ty/\x.ty<s.types:=by unfold zS;simp
 rw[<-hz',<-hty,<-zEj,<-zEj];rw[<-zEj]at hl0;generalize decide (zY x.op=(false,false,false,false,false,false))=Z at *;generalize zY x.op=q at *;obtain⟨A,B,N,G,R,S⟩:=q;simp only;generalize zS x.a s.regs=ba at *;generalize zS x.b s.regs=bb at *;generalize zFF x.args s.regs=bg at *;generalize zAF x s=bn at *;generalize zS x.ty s.types=bt at *;generalize zFF x.frm s.blocks=bf at *;clear hz hf hnum key hz' hty;generalize x.args.length=la at *;generalize x.frm.length=lf at *;generalize x.a=a at *;generalize x.b=b at *;generalize x.n=n at *;generalize x.ty=ty at *;cases Z<;>simp only[Qp,Qo,QY,Qf,Qn,JE,false_and,not_false_eq_true,Bool.true_eq_false,Qe,QY,true_and];cases R
 ·cases A<;>cases B<;>cases N<;>cases G<;>cases S<;>simp<;>(constructor<;>intro h<;>simp_all<;>omega)
 ·cases A<;>cases B<;>cases N<;>cases G<;>cases S<;>simp<;>(constructor<;>intro h<;>simp_all<;>omega)
theorem zOP {x:Bk}{s:Bq}:zBE x s=true↔(x.kind=1/\x.a=0/\x.els=0/\Bd [x.to] s.blocks)\/(x.kind=2/\Bd [x.a] s.regs/\Bd [x.to,x.els] s.blocks)\/(x.kind=3/\x.to=0/\x.els=0/\Bd [x.a] s.regs):=by
 have h2:Bd [x.to,x.els] s.blocks↔zS x.to s.blocks=true/\zS x.els s.blocks=true:=by unfold Bd zS;simp
 rw[h2,zDl,zDl];unfold zBE;by_cases k1:x.kind=1
 ·simp[k1,and_assoc]
 by_cases k2:x.kind=2
 ·simp[k2,and_assoc]
 by_cases k3:x.kind=3
 ·simp[k3,and_assoc]
 ·simp[k1,k2,k3]
end
end Go.Proofs.YtmejfcakhpihlaaGreatDoor
