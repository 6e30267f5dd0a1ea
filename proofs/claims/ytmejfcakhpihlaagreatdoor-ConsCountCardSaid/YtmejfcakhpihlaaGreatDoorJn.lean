/- What functions of the program come to in the abstract machine, and plain laws about it; no statement of the seat is proved in this text. -/
import Derived.Test.YtmejfcakhpihlaaGreatDoorJm
import Derived.Test.YtmejfcakhpihlaaGreatDoorJl
import Derived.Test.YtmejfcakhpihlaaGreatDoorJk
import Derived.Test.YtmejfcakhpihlaaGreatDoorJb
set_option linter.unusedVariables false
set_option linter.unusedSimpArgs false
set_option maxHeartbeats 2000000
namespace Go.Proofs.YtmejfcakhpihlaaGreatDoor
noncomputable section
open Go.Am
set_option maxRecDepth 100000
theorem zHc {T:List U2}{f r:Int}:∀ {S:List Wu} {a:Int} {l:List Int},l.length<=40->(∀ s∈S,(yX T s.ty.toNat).length<=40)->(Y9 T f r S a l).2.length<=40
 |[],_,_,h,_=>h
 |s::S,a,l,h,hS=>by
  unfold Y9;split
  ·exact hS s (Qd ..)
  ·exact zHc (hS s (Qd ..)) fun q hq=>hS q (Qi _ hq)
theorem zG6 {α:Type}(g:Nat->List α)(m:Nat):∀ n,(∀ i,i<n->(g i).length<=m)->((List.range n).flatMap g).length<=m * n
 |0,_=>by simp
 |n+1,h=>by
  rw[Gp,List.flatMap_append,QM];have:=zG6 g m n fun i hi=>h i (by omega);have:=h n (by omega);rw[List.flatMap_cons,List.flatMap_nil,Gq,Nat.mul_succ];omega
theorem zKR {T:List U2}{F:List WP}(hs:yS T F=0){f:Nat}(hf:f<F.length){b:Nat}(hb:b<(zM F f).length){i:Nat}(hi:i<((zM F f).getD b default).ins.length)(r:Int):
  (Zx T F f (YP T F f) r (((zM F f).getD b default).ins.getD i default)).length<=41:=by
 have I0:=zSf hs hf hb hi;have hlow:=zGq (yo (yV hs).1).1;refine zQ4 _ _ _ _ _ _ I0.al (zHc (by simp) fun s hsm=> ?_) fun e=> ?_
 ·have hty:=zFa hs s hsm;have h1:=fun j (hj:j<=s.ty.toNat)=>(hlow j (by omega)).1;exact QO (QO (zD3 (s.ty.toNat+1) s.ty.toNat (GD _) h1) (hlow s.ty.toNat (by omega)).2) (by decide)
 ·have:=(I0.c18 e).2.1;have:=I0.al;omega
theorem zPO (T:List U2)(F:List WP)(f:Int)(B:WQ):(zID T F f B).length<=1:=by
 unfold zID;split
 ·exact zAE _ _
 ·simp
theorem zEd {T:List U2}{F:List WP}(hs:yS T F=0)(f:Nat)(hf:f<F.length):∀ b,b<=(zM F f).length->((consB T F f (zM F f) b).length:Int)<=41 * zI ((zM F f).take b)+b
 |0,_=>by simp[consB,zI]
 |b+1,hb=>by
  have ih:=zEd hs f hf b (by omega);have h1:consB T F f (zM F f) (b+1)=consB T F f (zM F f) b++(zF8 T F f ((yE T F f).parts.length+zI ((zM F f).take b)) ((zM F f).getD b default).ins++zID T F f ((zM F f).getD b default)):=YC _ b;have h2:(zF8 T F f ((yE T F f).parts.length+zI ((zM F f).take b)) ((zM F f).getD b default).ins).length<=41 * ((zM F f).getD b default).ins.length:=zG6 _ 41 _ fun i hi=>zKR hs hf (by omega) hi _;have h3:=zPO T F f ((zM F f).getD b default);rw[h1,ZT (by omega)];have h4:zI ((zM F f).take b++[(zM F f).getD b default])=zI ((zM F f).take b)+(((zM F f).getD b default).ins.length:Int):=by unfold zI;simp
  rw[h4,QM,QM];omega
theorem zHT {T:List U2}{F:List WP}(hs:yS T F=0):∀ i:Nat,i<=F.length->(zAW T F i).length<=6000 * i
 |0,_=>by simp[zAW]
 |i+1,hi=>by
  have ih:=zHT hs i (by omega);have h1:zAW T F (i+1)=zAW T F i++consB T F i (zM F i) (zM F i).length:=YC _ i;have Z:=zDf (yV hs).1 (f:=(i:Int)) (by omega);have h2:=zEd hs i (by omega) (zM F i).length (QE _);rw[Q8]at h2;have h3:=Z.many;have h4:=Z.n16;rw[h1,QM];omega
section
variable {h hB:Uz}{b:Nat}{vt vf pu po vS vR:Value}{T:List U2}{F:List WP}
structure FR (hB h4 h:Uz)(vt vf pu po vS vR:Value)(F:List WP)(T:List U2)(i:Nat):Prop where
 e:U5 hB h
 u:Wb pu h4 h
 ou:U3 hB h pu [vt,vf,vS,vR,I ((yd T F).take i).sum,.slice none 0 0,I 0,I 0,Zc po]
 oR:WR 1 RI h4.n h vR (((List.range i).map fun i=>((yd T F).take i).sum))
def zPC:U0:=(oV (oR [oB .lss 32 31 30]) (oV (oT 32 0) (oV (o5 1 (oV (oR [oM 33 31,oM 6 33]) (oV (oR [oA 2 35 1,oM 36 6,o2 37 17 35 36,oM 34 37,oE 38 34 0,oE 39 34 1,oM 7 38,oM 8 39]) (o6 [oM 40 5,oM 41 5,oM 42 5,(⟨some 43,none,(.nilCheck (.tmp 42))⟩,[]),oF 3 44 43,oL 45 44,oM 46 5,(⟨some 47,none,(.nilCheck (.tmp 46))⟩,[]),oF 4 48 47,oL 49 48,(⟨some 50,none,(.buildSlice 1 1 [(.int .i64 0)] [(0,1,(.tmp 49))])⟩,[]),oY 1 51 45 50,oM 52 5,(⟨some 53,none,(.nilCheck (.tmp 52))⟩,[]),oF 4 54 53,(oL 55 54,[10,11]),oM 56 7,oB .add 57 55 56,(⟨some 58,none,(.nilCheck (.tmp 40))⟩,[]),oF 3 59 58,oS 1 59 51,(⟨some 60,none,(.nilCheck (.tmp 41))⟩,[]),oF 4 61 60,oS 1 61 57])))) (oR [oC .add 62 31 1,oM 31 62]))))
def zNp:U0:=(oV (oR [oB .lss 96 95 94]) (oV (oT 96 6) (oV (o5 7 (oV (oR [oI 7 97 93 95,oA 7 98 97,⟨some 14,none,(.alloc [(.int .u8 0),(.int .i64 0),(.int .i64 0),(.int .i64 0),(.int .i64 0),(.slice none 0 0),(.slice none 0 0)])⟩,oS 7 14 98]) (oV (oR [oM 99 5,oA 7 100 14,o2 101 28 99 100]) (oR [oM 102 5,⟨some 103,none,(.nilCheck (.tmp 102))⟩,oF 7 104 103,oL 105 104,oC .add 106 105 1,⟨some 107,none,(.nilCheck (.tmp 102))⟩,oF 7 108 107,oS 1 108 106])))) (oR [oC .add 109 95 1,oM 95 109]))))
def zPK:U0:=(oV (oR [oB .lss 89 88 87]) (oV (oT 89 4) (oV (o5 5 (oV (oR [oI 5 90 86 88,oA 5 91 90,⟨some 12,none,(.alloc [(.slice none 0 0),(.int .u8 0),(.int .i64 0),(.int .i64 0),(.int .i64 0)])⟩,oS 5 12 91]) (oV (oV (oR [oF 0 92 12,oL 93 92,oQ 94 93,oN 95 0]) (o5 6 (.loop zNp))) (oV (oR [oF 1 110 12,oF 0 111 110,oL 112 111,oD .eql 113 112 3,oM 114 113,oG 114 (oM 115 5),oG 114 (oF 0 116 1),oG 114 (oL 117 116),oG 114 (oF 0 118 10),oG 114 (oL 119 118),oG 114 (oI 4 120 117 119),oG 114 (oF 1 121 120),oG 114 (oL 122 121),oG 114 (o2 123 29 115 122),oG 114 (oW 124 123),oP 125 114 124]) (oJ 125 (o6 [oM 126 5,(⟨some 127,none,(.nilCheck (.tmp 126))⟩,[]),oF 8 128 127,oL 129 128,oM 130 5,(⟨some 131,none,(.nilCheck (.tmp 130))⟩,[]),oF 4 132 131,oL 133 132,oM 134 9,oB .add 135 133 134,oM 136 5,oF 1 137 12,oF 1 138 137,oL 139 138,(o2 140 30 136 139,[3,7]),(⟨some 141,none,(.build [(.int .u8 0),(.int .i64 0),(.int .i64 0),(.int .i64 0),(.slice none 0 0)] [(0,1,(.const (.int .u8 2))),(1,1,(.tmp 135)),(2,1,(.tmp 140))])⟩,[]),(⟨some 142,none,(.buildSlice 1 5 [(.int .u8 0),(.int .i64 0),(.int .i64 0),(.int .i64 0),(.slice none 0 0)] [(0,5,(.tmp 141))])⟩,[]),(⟨some 143,none,(.call (.tmp 129) [(.tmp 142)])⟩,[])]) .skip))))) (oR [oC .add 144 88 1,oM 88 144]))))
def zNB:U0:=(oV (oR [oB .lss 67 66 65]) (oV (oT 67 2) (oV (o5 3 (oV (oR [oM 68 66,oI 2 69 64 66,oA 2 70 69,⟨some 10,none,(.alloc [(.int .i64 0),(.slice none 0 0)])⟩,oM 9 68,oS 2 10 70]) (oV (oR [oM 71 5,oM 72 9,o2 73 27 71 72]) (oV (oR [oM 74 5,oF 0 75 1,oL 76 75,oF 0 77 10,oL 78 77,oI 4 79 76 78,oF 3 80 79,oL 81 80,oQ 82 81,⟨some 83,none,(.nilCheck (.tmp 74))⟩,oF 7 84 83,oS 1 84 82]) (oV (oR [oF 1 85 10,oL 86 85,oQ 87 86,oN 88 0]) (o5 4 (.loop zPK))))))) (oR [oC .add 145 66 1,oM 66 145]))))
def zSy:U0:=(oV (oR [oX 1 0,⟨some 2,none,(.alloc [(.slice none 0 0)])⟩,oN 3 0]) (oV (oR [oA 2 16 1,o1 17 25 16,oM 15 17,oE 18 15 0,oE 19 15 1,oM 4 18,oM 3 19]) (oV (oV (oR [oM 20 3,oC .neq 21 20 0]) (oJ 21 (oV (oR [oM 22 3,⟨none,none,(.store 1 (.tmp 2) (.const (.slice none 0 0)))⟩,oM 3 22]) .ret) .skip)) (oV (oR [oA 2 23 1,oM 24 4,⟨some 25,none,(.mkFunc (.func 26) [] [(.tmp 2)])⟩,⟨some 26,none,(.build [(.slice none 0 0),(.slice none 0 0),(.slice none 0 0),(.slice none 0 0),(.int .i64 0),(.slice none 0 0),(.int .i64 0),(.int .i64 0),.nilFunc] [(0,2,(.tmp 23)),(2,1,(.tmp 24)),(8,1,(.tmp 25))])⟩,oX 27 26,oM 5 27]) (oV (oV (oR [oF 1 28 1,oL 29 28,oQ 30 29,oN 31 0]) (o5 0 (.loop zPC))) (oV (oV (oR [oF 1 63 1,oL 64 63,oQ 65 64,oN 66 0]) (o5 2 (.loop zNB))) (oV (oR [oL 146 2,oS 1 2 146,oN 3 0]) .ret)))))))
theorem zT0 (E:Env h vt vf T F):WC Tryz.prog tb 10 [.agg #[vt,vf]] h fun r h'=>(∃ v,r= .tuple #[v,I (yS T F)]/\WR 5 RCn h.n h' v (yZ T F)/\(yZ T F).length<=90000)/\U5 h h':=by
 refine en 147 [(2,some (false,1)),(3,none)] zSy ?_;refine VI ?_;intro p1 h1 e1 o1;replace o1:U3 h h1 p1 [vt,vf]:=o1;have E1:=E.ext e1;refine go ?_;refine WO.al ?_;intro po h2 e2 oo2;have E2:=E1.ext e2;have o12:=o1.ext e2;refine go ?_;refine VA (zO6 h2 vt vf T F E2) ?_;rintro _ h3 ⟨⟨vS,rfl,oS⟩,e3⟩;have o13:=o12.ext e3;have oo3:=oo2.ext e3;have E3:=E2.ext e3;obtain⟨s1,s2,s3,rfl⟩:=zF oS.sl;by_cases hs:yS T F=0;case neg=>
  have hcl:yZ T F=[]:=by unfold yZ;rw[QB hs]
  rw[hcl];refine go ?_;refine VG oo3 (e2.trans e3) ?_;intro h4 e4 oo4 u4;refine go ?_;refine rt ?_ (Vc U7 oo4 rfl (BC.cons U7 BC.nil));exact⟨⟨_,rfl,.inl ⟨rfl,rfl⟩,by simp⟩,e1.trans e4⟩
 rw[QJ hs]at oS;rw[hs];have hp:=(yV hs).1;obtain⟨hc,hF1,hF8,hfn⟩:=yo hp;obtain⟨hrb,hrl,-,-⟩:=zKT hs;replace hfn:=WW.mk hfn;obtain⟨t1,t2,t3,rfl⟩:=zF E.st;obtain⟨f1,f2,f3,rfl⟩:=zF E.sf;refine go ?_;refine VI ?_;intro pu h4 e4 ou4;obtain⟨gu,gu1,gu2,rfl,gu3⟩:=id ou4;obtain⟨go',go1,go2,rfl,go3⟩:=id oo2;replace ou4:U3 h3 h4 (.pointer (some ⟨gu,0,none⟩)) [.slice t1 t2 t3,.slice f1 f2 f3,.slice s1 s2 s3,.slice none 0 0,I 0,.slice none 0 0,I 0,I 0,Zc (.pointer (some ⟨go',0,none⟩))]:=ou4;have e13:=e2.trans e3;have e14:=e13.trans e4;have o14:=o13.ext e4;have oo4:U3 h1 h4 (.pointer (some ⟨go',0,none⟩)) [.slice none 0 0]:=oo3.ext e4;have oS4:=(WR.ext oS e4).base e2.n;have E4:=E3.ext e4;have sf4:=E4.sf;have ou14:=ou4.since e13;have uo:WI (.pointer (some ⟨gu,0,none⟩)) (.pointer (some ⟨go',0,none⟩)):=VF ou4.since' oo3.within;have uS:WI (.pointer (some ⟨gu,0,none⟩)) (.slice s1 s2 s3):=VF ou4.since' oS.within;have oSo:WI (.pointer (some ⟨go',0,none⟩)) (.slice s1 s2 s3):=(VF (zL7 oS) oo2.within).symm;have hbo:∀ g,Be (.pointer (some ⟨go',0,none⟩))=some g->g<h4.n:=oo4.within;have hbu:∀ g,Be (.pointer (some ⟨gu,0,none⟩))=some g->g<h4.n:=ou4.within;have hbS:∀ g,Be (.slice s1 s2 s3)=some g->g<h4.n:=oS4.within;have FR0:FR h1 h4 h4 (.slice t1 t2 t3) (.slice f1 f2 f3) (.pointer (some ⟨gu,0,none⟩)) (.pointer (some ⟨go',0,none⟩)) (.slice s1 s2 s3) (.slice none 0 0) F T 0:=⟨e14,zCY (U5.refl _),by simpa using ou14,.inl ⟨rfl,rfl⟩⟩;have hmB:h1.mark<=h1.n:=E1.hm;clear gu1 gu2 gu3 go1 go2 go3;refine go ?_;refine VD [32,33,6,35,36,37,34,38,39,7,8,40,41,42,43,44,45,46,47,48,49,50,51,52,53,54,55,56,57,58,59,60,61,62,31] (by kernel_rfl) (fun i=>F.length - i) (fun i t h5=>zB t 31=I i/\i<=F.length/\∃ vR,(∃ a n c,vR= .slice a n c)/\FR h1 h4 h5 (.slice t1 t2 t3) (.slice f1 f2 f3) (.pointer (some ⟨gu,0,none⟩)) (.pointer (some ⟨go',0,none⟩)) (.slice s1 s2 s3) vR F T i) 0 ?_ ?_
 ·exact⟨U7,QT _,_,⟨_,_,_,rfl⟩,FR0⟩
 rintro i t h5 hsame ⟨s31,hi,vR,⟨r1,r2,r3,rfl⟩,R5⟩;have o15:=o1.ext R5.e;have ou5:=R5.ou;refine go ?_;refine VE (fun hb=> ?_) (fun hb=> ?_)<;>simp only[DB]at hb
 ·have hi':i<F.length:=by omega
  have E5:=E1.ext R5.e;have hR:=zHG h5 _ _ T F i E5.tt E5.hm E5.sm E5.st E5.sf;rw[zJ2 hp hi']at hR;have hst:=zM8 (l:=yd T F) (i:=i) (by omega);have hgi:(yd T F).getD i 0=((T.getD (F.getD i default).sig.toNat default).parts.length:Int)+zI (F.getD i default).blocks:=by
   unfold yd;rw[zFf hi']
  have hbi:=hrb _ (zq (l:=yd T F) (i:=i) (by omega));have hsb:=zHF (l:=(yd T F).take i) fun x hx=>hrb x (Ge hx);have htl:((yd T F).take i).length<=8:=by rw[GR];omega
  have hrs:((List.range (i+1)).map fun i=>((yd T F).take i).sum)=((List.range i).map fun i=>((yd T F).take i).sum)++[((yd T F).take i).sum]:=by rw[Gp,Qr];rfl
  have hrl':((List.range i).map fun i=>((yd T F).take i).sum).length<=8:=by simp;omega
  have R5R:=R5.oR;rw[<-hgi]at hR;generalize (yd T F).getD i 0=m at *;refine go ?_;refine VA hR ?_;rintro _ h6 ⟨rfl,e6⟩;have ou6:=R5.ou.ext e6;have oR6:=WR.ext R5.oR e6;have u6:=zBu R5.u (zCY e6);have e16:=R5.e.trans e6;refine go ?_;refine V5 (fun k=>h4.n<=k) 1 rfl rfl ?_;have oY:U3 h1 (inC (zC 1 h6)) (.pointer (some ⟨gu,0,none⟩)) [.slice t1 t2 t3,.slice f1 f2 f3,.slice s1 s2 s3,.slice r1 r2 r3,I ((yd T F).take i).sum,.slice none 0 0,I 0,I 0,Zc (.pointer (some ⟨go',0,none⟩))]:=ye 1 (ou6);have hm6:h6.mark<=h1.n:=by rw[e16.mark];exact hmB
  refine goW ?_;refine Xv (hS:=h6) ((yd T F).take i).sum (fun _=>False) oR6 (QO hm6 e14.n) u6.1 (by decide) (by omega) zTY (fun _ h=>h.elim) (fun _ _ _ _ h=>h) (fun _ h=>h) ?_;intro X v' lit nX kX oRX sX wX;obtain⟨w1,w2,w3,rfl⟩:∃ a n c,v'= .slice a n c:=by
   rcases oRX with ⟨rfl,_⟩|⟨_,_,_,_,_,rfl,_⟩
   ·exact⟨_,_,_,rfl⟩
   ·exact⟨_,_,_,rfl⟩
  have hrg:∀ k,k<h4.n->∀ n k',(Value.slice r1 r2 r3)≠ .slice (some ⟨k,0,none⟩) n k':=fun k hk n k' e=>by
   have:=(ZB oR6 k (by rw[e];rfl)).1;omega
  have oX:U3 h1 (inC X) (.pointer (some ⟨gu,0,none⟩)) [.slice t1 t2 t3,.slice f1 f2 f3,.slice s1 s2 s3,.slice r1 r2 r3,I ((yd T F).take i).sum,.slice none 0 0,I 0,I 0,Zc (.pointer (some ⟨go',0,none⟩))]:=by
   obtain⟨q,q1,q2,q3,q4⟩:=ou6;refine⟨q,q1,by show q<X.n;omega,q3,(kX q q2 (hrg q ?_)).trans q4⟩;exact hbu q (by rw[q3];rfl)
  refine goW ?_;refine zVG (fun hh=> ?_) ?_ ?_
  ·have:=hbu gu rfl;have hh:h4.n<=gu:=hh;omega
  ·have:=hbu gu rfl;have:=u6.1;show gu<h6.n+1;omega
  refine UM ?_;have oX':U3 h1 X (.pointer (some ⟨gu,0,none⟩)) [.slice t1 t2 t3,.slice f1 f2 f3,.slice s1 s2 s3,.slice r1 r2 r3,I ((yd T F).take i).sum,.slice none 0 0,I 0,I 0,Zc (.pointer (some ⟨go',0,none⟩))]:=oX;refine WM ?_;refine XB (hB:=h1) (j:=3) (cs:=[.slice w1 w2 w3]) (hl:=by simp) oX' hm6 ?_;intro X1 n1 kp1 o1' wf1 cl1;replace o1':U3 h1 X1 (.pointer (some ⟨gu,0,none⟩)) [.slice t1 t2 t3,.slice f1 f2 f3,.slice s1 s2 s3,.slice w1 w2 w3,I ((yd T F).take i).sum,.slice none 0 0,I 0,I 0,Zc (.pointer (some ⟨go',0,none⟩))]:=o1';have o1i:U3 h1 (inC X1) (.pointer (some ⟨gu,0,none⟩)) [.slice t1 t2 t3,.slice f1 f2 f3,.slice s1 s2 s3,.slice w1 w2 w3,I ((yd T F).take i).sum,.slice none 0 0,I 0,I 0,Zc (.pointer (some ⟨go',0,none⟩))]:=o1';refine WM ?_;refine XA (hB:=h1) (j:=4) (cs:=[I (((yd T F).take i).sum+m)]) (hl:=by simp) o1' hm6 ?_;intro H n2 kp2 o2' wf2 m2 wr2;refine go ?_;have uH6:∀ k,k<h6.n->Value.pointer (some ⟨gu,0,none⟩)≠ .pointer (some ⟨k,0,none⟩)->(∀ n k',(Value.slice r1 r2 r3)≠ .slice (some ⟨k,0,none⟩) n k')->H.get k=h6.get k:=fun k hk hne hv=>by
   rw[kp2 k hne,kp1 k hne];exact kX k hk hv
  have uH:Wb (.pointer (some ⟨gu,0,none⟩)) h4 H:=⟨by have:=u6.1;omega,fun k hk hne=>(uH6 k (QG hk u6.1) hne (hrg k hk)).trans (u6.2 k hk hne)⟩;have hgu1:h1.n<=gu:=by
   obtain⟨q,q1,_,q3,_⟩:=ou14;cases q3;exact q1
  have eH:U5 h1 H:=⟨QO e14.n uH.1,fun k hk=>(uH.2 k (QG hk e14.n) fun e=>by cases e;omega).trans (e14.get k hk),fun w=>wf2 (wf1 (wX (e16.wf w))),m2.trans e16.mark,fun hm=>wr2.trans (e16.wr hm)⟩;refine zA (i+1) (by omega) ⟨Wo,by omega,_,⟨w1,w2,w3,rfl⟩,eH,uH,?_,?_⟩
  ·rw[hst];exact o2'
  ·rw[hrs];refine WR.upd oRX (fun k k1 k2=> ?_) (by omega);have hne:Value.pointer (some ⟨gu,0,none⟩)≠ .pointer (some ⟨k,0,none⟩):=fun e=>by
    have:=hbu k (by rw[e];rfl);omega
   rw[kp2 k hne,kp1 k hne]
 ·have hii:i=F.length:=by omega
  subst hii;have hAn:((yd T F).take F.length).sum=yC T F:=by rw[Q5 (by omega)];rfl
  have oR5:WH h1 h5 (.slice r1 r2 r3) (Bi T F):=zES R5.oR e14.n;have ou5':=R5.ou;rw[hAn]at ou5';have hrg:∀ g,Be (.slice r1 r2 r3)=some g->h4.n<=g/\g<h5.n:=ZB R5.oR;have C:CE h1 h5.n (.slice t1 t2 t3) (.slice f1 f2 f3) (.pointer (some ⟨gu,0,none⟩)) (.pointer (some ⟨go',0,none⟩)) (.slice s1 s2 s3) (.slice r1 r2 r3) T F:=⟨E1,hs,hmB,R5.e.n,fun g hg=>QG (hbu g hg) R5.u.1,fun g hg=>QG (hbo g hg) R5.u.1,fun g hg=>QG (hbS g hg) R5.u.1,fun g hg=>(hrg g hg).2,uo,uS,
   fun g h1 h2=>by have:=hbu g h1;have:=(hrg g h2).1;omega,oSo,fun g h1 h2=>by have:=hbo g h1;have:=(hrg g h2).1;omega⟩
  have M5:CM h1 h5 h5.n (.slice t1 t2 t3) (.slice f1 f2 f3) (.pointer (some ⟨gu,0,none⟩)) (.pointer (some ⟨go',0,none⟩)) (.slice s1 s2 s3) (.slice r1 r2 r3) T F (.slice none 0 0) (.slice none 0 0) [] 0 0 []:=⟨R5.e,QE _,ou5',Yt oo4 R5.u uo,oS4.upB zEz R5.u.upB uS,oR5,.inl ⟨rfl,rfl⟩,.inl ⟨rfl,rfl⟩,fun g hg=>(by cases hg),fun g hg=>(by cases hg)⟩;have o15':=o1.ext R5.e;have sf5:=Wn.ext E1.sf R5.e;have hCF:=zHT hs;have hCB:=zEd hs;clear FR0 hbo hbu hbS oSo uo uS oS4 oo4 ou4 ou14 oo3 oS oo2 ou5 ou5' o15;have hcl:yZ T F=zAW T F F.length:=by unfold yZ;rw[QJ hs]
  rw[hcl];replace hCF:=WW.mk hCF;replace hCB:=WW.mk hCB;refine go ?_;refine VD [67,68,69,70,10,9,71,72,73,74,75,76,77,78,79,80,81,82,83,84,85,86,87,88,89,90,91,12,92,93,94,95,96,97,98,14,99,100,101,102,103,104,105,106,107,108,109,95,110,111,112,113,114,115,116,117,118,119,120,121,122,123,124,125,126,127,128,129,130,131,132,133,134,135,136,137,138,139,140,141,142,143,144,88,145,66] (by kernel_rfl) (fun i=>F.length - i) (fun i t h6=>zB t 66=I i/\i<=F.length/\∃ vK vO ks f r,CM h1 h6 h5.n (.slice t1 t2 t3) (.slice f1 f2 f3) (.pointer (some ⟨gu,0,none⟩)) (.pointer (some ⟨go',0,none⟩)) (.slice s1 s2 s3) (.slice r1 r2 r3) T F vK vO ks f r (zAW T F i)) 0 ?_ ?_
  ·exact⟨U7,QT _,_,_,_,_,_,M5⟩
  rintro i t h6 hsame2 ⟨s66,hi,vK,vO,ks,f,r,M6⟩;have o16:=o1.ext M6.e;have ou6:=M6.ou;have sf6:=Wn.ext E1.sf M6.e;refine go ?_;refine VE (fun hb=> ?_) (fun hb=> ?_)<;>simp only[DB]at hb
  ·have hi':i<F.length:=by omega
   have Z:=zDf hp (f:=(i:Int)) (by omega);have hCFi:=hCF.out i (by omega);have hCBi:=hCB.out i hi';have hcs:zAW T F (i+1)=zAW T F i++consB T F i (zM F i) (zM F i).length:=YC _ i;have hsg:=Z.sig;have hpar:=Z.par4;have hmny:=Z.many;have h16:=Z.n16;have hel:=Z.el;have hkl:(YP T F i).length<=1000:=by rw[zKU];have:=Z.reg;unfold zE6 at this;omega
   have hci:=fun {b:Nat} (hb:b<(zM F i).length) {q:Nat} (hq:q<((zM F i).getD b default).ins.length)=>zSf hs hi' hb hq;have hmt:=fun b=>zFe (zM F i) b;have hone:=fun {b:Nat} (hb:b<(zM F i).length) {q:Nat} (hq:q<((zM F i).getD b default).ins.length) (r:Int)=>zKR hs hi' hb hq r;have hcsn:∀ b,consB T F i (zM F i) (b+1)=consB T F i (zM F i) b++(zF8 T F i ((yE T F i).parts.length+zI ((zM F i).take b)) ((zM F i).getD b default).ins++zID T F i ((zM F i).getD b default)):=fun b=>YC _ b;have hcE:∀ B,zID T F i B=if B.fin.kind=3 then (if BD T (yE T F i).elem then [] else [⟨2,yC T F+i,We T F i B.fin.a,0,[]⟩]) else []:=fun B=>rfl;have hend:∀ b,b<(zM F i).length->((zM F i).getD b default).fin.kind=3->0<=((zM F i).getD b default).fin.a/\((zM F i).getD b default).fin.a<=1000:=fun b hb hk=>by
    have h1:=(Z.U _ (zK hb)).ends ((zM F i).getD b default).fin.a (by unfold yn;rw[QJ (.inr hk)];simp);have h2:=Z.reg;unfold zE6 at h2;omega
   rw[QU]at hsg;have hL:zM F i=(F.getD i default).blocks:=by unfold zM;rw[QU]
   have hP:yE T F i=T.getD (F.getD i default).sig.toNat default:=by unfold yE;rw[QU]
   obtain⟨csF,⟨vb,rfl,sb,hlb⟩,pcF,hsF⟩:=zp (i:=i) E1.sf hi';obtain⟨csT,⟨va,rfl,sa,hla⟩,pcT,hsT⟩:=zp (i:=(F.getD i default).sig.toNat) E1.st (by omega);rw[<-hL]at sb hlb;rw[<-hP]at sa hla pcT;have hbl:=E1.sm.blocks _ (zK hi');have hil:=E1.sm.ins _ (zK hi');rw[<-hL]at hbl hil;generalize hLL:zM F i=L at *;generalize hPP:yE T F i=P0 at *;generalize (F.getD i default).sig=sg at *;obtain⟨b1,b2,b3,rfl⟩:=zF sb;obtain⟨a1,a2,a3,rfl⟩:=WZ.shape sa;obtain⟨k1,k2,k3,rfl⟩:=WZ.shape M6.oK.sl;clear Z hL hP;replace hci:=WW.mk @hci;replace hone:=WW.mk @hone;replace hcsn:=WW.mk hcsn;replace hcE:=WW.mk hcE;replace hend:=WW.mk hend;replace hCBi:=WW.mk hCBi;replace hmt:=WW.mk hmt;replace hil:=WW.mk hil;have pcF6:=(pcF _ M6.e).1;refine go ?_;refine WO.al ?_;intro p10 h7 e7 o10;refine go ?_;refine VG (cs:=[I sg,.slice b1 b2 b3]) o10 e7 ?_;intro h8 e8 o10 _;have M8:=M6.ext e8;have d1:WI (.pointer (some ⟨gu,0,none⟩)) p10:=(VF o10.since' M6.ou.within).symm;have d2:WI (.pointer (some ⟨go',0,none⟩)) p10:=(VF o10.since' M6.oo.within).symm;have d3:WI vO p10:=(VF o10.since' fun g hg=>(ZB M6.oO g hg).2).symm;refine go ?_;refine VA (zRf C M8 i hi') ?_;rintro _ h9 ⟨vK',M9,u9⟩;have o10:=Yt o10 u9 d1;have o19:=o1.ext M9.e;have ou9:=M9.ou;obtain⟨k1',k2',k3',rfl⟩:=WZ.shape M9.oK.sl;have pcT9:=(pcT _ M9.e).1;have st9:=Wr.ext E1.st M9.e;have sa9:=sa.ext M9.e;have sb9:=W6.ext sb M9.e;refine go ?_;refine VZ (j:=7) (cs:=[I P0.parts.length]) (hl:=by simp) ou9 M9.e ?_;intro h11 e11 ou11 u11;have M11:=M9.setR C u11 e11 ou11;have o10:=Yt o10 u11 d1;have sb11:=W6.ext sb M11.e;clear ou11 u11 pcT9 sa9 sb9 st9;refine go ?_;refine VD [89,90,91,12,92,93,94,95,96,97,98,14,99,100,101,102,103,104,105,106,107,108,109,95,110,111,112,113,114,115,116,117,118,119,120,121,122,123,124,125,126,127,128,129,130,131,132,133,134,135,136,137,138,139,140,141,142,143,144,88] (by kernel_rfl) (fun b=>L.length - b) (fun b t h12=>zB t 88=I b/\b<=L.length/\∃ vO',CM h1 h12 h5.n (.slice t1 t2 t3) (.slice f1 f2 f3) (.pointer (some ⟨gu,0,none⟩)) (.pointer (some ⟨go',0,none⟩)) (.slice s1 s2 s3) (.slice r1 r2 r3) T F (.slice k1' k2' k3') vO' (YP T F i) i (P0.parts.length+zI (L.take b)) (zAW T F i++consB T F i L b)/\U3 h6 h12 p10 [I sg,.slice b1 b2 b3]/\WI vO' p10) 0 ?_ ?_
   ·refine⟨U7,QT _,vO,?_,o10,d3⟩;have h0:zI (L.take 0)=0:=by simp[zI]
    have h1:consB T F i L 0=[]:=by simp[consB]
    rw[h0,h1,Gq,Int.add_zero];exact M11
   rintro b t h12 hsame3 ⟨s88,hbb,vO',M12,o10',d3'⟩;have sb12:=W6.ext sb M12.e;refine go ?_;refine VE (fun hb'=> ?_) (fun hb'=> ?_)<;>simp only[DB]at hb'
   ·have hb2:b<L.length:=by omega
    obtain⟨csB,⟨vi,rfl,si,hli⟩,pcB,hsB⟩:=zp (i:=b) sb hb2;have pcB12:=(pcB _ M12.e).1;have hmt1:=hmt.out b;have hmt2:=hmt.out (b+1);have hmB:zI (L.take (b+1))=zI (L.take b)+((L.getD b default).ins.length:Int):=by rw[ZT hb2];unfold zI;simp
    have hsn:=hcsn.out b;have hcb:=hCBi.out b (by omega);have hciB:=fun {q:Nat} (hq:q<(L.getD b default).ins.length)=>hci.out hb2 hq;have honeB:=fun {q:Nat} (hq:q<(L.getD b default).ins.length) (r:Int)=>hone.out hb2 hq r;have hendB:=hend.out b hb2;have hilB:=hil.out _ (zK hb2);rw[hcE.out]at hsn;unfold zF8 at hsn;generalize L.getD b default=B at *;obtain⟨i1,i2,i3,rfl⟩:=zF si;have hlq:∀ q,q<=B.ins.length->((List.range q).flatMap fun (j:Nat)=>Zx T F i (YP T F i) (P0.parts.length+zI (L.take b)+j) (B.ins.getD j default)).length<=41 * q:=fun q hq=>zG6 _ 41 q fun j hj=>honeB (by omega) _;replace hciB:=WW.mk @hciB;replace honeB:=WW.mk @honeB;replace hlq:=WW.mk hlq;refine go ?_;refine WO.al ?_;intro p12 h13 e13 o12;refine go ?_;refine VG (cs:=[.slice i1 i2 i3,.int .u8 B.fin.kind,I B.fin.a,I B.fin.to,I B.fin.els]) o12 e13 ?_;intro h14 e14' o12 _;have M14:=M12.ext e14';have o10b:=o10'.ext e14';have q1:WI (.pointer (some ⟨gu,0,none⟩)) p12:=(VF o12.since' M12.ou.within).symm;have q2:WI (.pointer (some ⟨go',0,none⟩)) p12:=(VF o12.since' M12.oo.within).symm;have q3:WI vO' p12:=(VF o12.since' fun g hg=>(ZB M12.oO g hg).2).symm;have si14:=BS.ext si M14.e;refine go ?_;refine VD [96,97,98,14,99,100,101,102,103,104,105,106,107,108,109,95] (by kernel_rfl) (fun q=>B.ins.length - q) (fun q t h15=>zB t 95=I q/\q<=B.ins.length/\∃ vO2,CM h1 h15 h5.n (.slice t1 t2 t3) (.slice f1 f2 f3) (.pointer (some ⟨gu,0,none⟩)) (.pointer (some ⟨go',0,none⟩)) (.slice s1 s2 s3) (.slice r1 r2 r3) T F (.slice k1' k2' k3') vO2 (YP T F i) i (P0.parts.length+zI (L.take b)+q) (zAW T F i++consB T F i L b++(List.range q).flatMap fun (j:Nat)=>Zx T F i (YP T F i) (P0.parts.length+zI (L.take b)+j) (B.ins.getD j default))/\U3 h6 h15 p10 [I sg,.slice b1 b2 b3]/\WI vO2 p10/\U3 h12 h15 p12 [.slice i1 i2 i3,.int .u8 B.fin.kind,I B.fin.a,I B.fin.to,I B.fin.els]/\WI vO2 p12) 0 ?_ ?_
    ·refine⟨U7,QT _,vO',?_,o10b,d3',o12,q3⟩;rw[show ((0:Nat):Int)=0 from rfl,Int.add_zero];simpa using M14
    rintro q t' h15 hsame4 ⟨s95,hq,vO2,M15,o10q,d10q,o12q,d12q⟩;have si15:=BS.ext si M15.e;have hlqq:=hlq.out q hq;have hol:(zAW T F i++consB T F i L b++(List.range q).flatMap fun (j:Nat)=>Zx T F i (YP T F i) (P0.parts.length+zI (L.take b)+j) (B.ins.getD j default)).length<=80000:=by
     rw[QM,QM];omega
    refine go ?_;refine VE (fun hc'=> ?_) (fun hc'=> ?_)<;>simp only[DB]at hc'
    ·have hq':q<B.ins.length:=by omega
     have I0:=hciB.out hq';obtain⟨csX,⟨xa,xf,rfl,sxa,sxf,hxa,hxf,ho⟩,pcX,hsX⟩:=zp (i:=q) si hq';have pcX15:=(pcX _ M15.e).1;have hsnq:=YC (fun (j:Nat)=>Zx T F i (YP T F i) (P0.parts.length+zI (L.take b)+j) (B.ins.getD j default)) q;generalize B.ins.getD q default=x at *;obtain⟨xa1,xa2,xa3,rfl⟩:=WZ.shape sxa;obtain⟨xf1,xf2,xf3,rfl⟩:=WZ.shape sxf;refine go ?_;refine WO.al ?_;intro p14 h16 e16' o14;refine go ?_;refine VG (cs:=[.int .u8 x.op,I x.ty,I x.a,I x.b,I x.n,.slice xa1 xa2 xa3,.slice xf1 xf2 xf3]) o14 e16' ?_;intro h17 e17 o14 _;have M17:=M15.ext e17;have o10r:=o10q.ext e17;have o12r:=o12q.ext e17;refine go ?_;refine VA (zRF C M17 ⟨by omega,by omega⟩ ⟨by omega,by omega⟩ (by omega) x _ _ _ _ sxa I0 hkl) ?_;rintro _ h18 ⟨vO3,M18,k18⟩;obtain⟨o10s,d10s⟩:=VP o10r k18 d2 d10q;obtain⟨o12s,d12s⟩:=VP o12r k18 q2 d12q;have ou18:=M18.ou;refine go ?_;refine VZ (j:=7) (cs:=[I (P0.parts.length+zI (L.take b)+q+1)]) (hl:=by simp) ou18 M18.e ?_;intro h19 e19 ou19 u19;have M19:=M18.setR C u19 e19 ou19;refine go ?_;refine zA (q+1) (by omega) ⟨Wo,by omega,vO3,?_,Yt o10s u19 d1,d10s,Yt o12s u19 q1,d12s⟩;rw[show (P0.parts.length:Int)+zI (L.take b)+((q+1:Nat):Int)=P0.parts.length+zI (L.take b)+q+1 by omega,hsnq,<-QZ];exact M19
    ·have hqq:q=B.ins.length:=by omega
     subst hqq;have ou15:=M15.ou;have o115:=o1.ext M15.e;by_cases hk3:B.fin.kind=3;case neg=>
      rw[QB hk3,Gq]at hsn;refine go ?_;refine zA (b+1) (by omega) ⟨Wo,by omega,vO2,?_,o10q,d10q⟩;rw[hmB,<-Int.add_assoc,hsn,<-QZ];exact M15
     rw[QJ hk3]at hsn;have hend':=hendB hk3;have hel':0<=P0.elem/\P0.elem<(T.length:Int):=by unfold PlT at hel;omega
     have st15:=Wr.ext E1.st M15.e;have pcT15:=(pcT _ M15.e).1;refine go ?_;refine VA (YL M15.ou st15 P0.elem hel') ?_;rintro _ _ ⟨rfl,rfl⟩;cases hpl:BD T P0.elem with
     |true=>
      rw[hpl,QJ rfl,Gq]at hsn;refine go ?_;refine zA (b+1) (by omega) ⟨Wo,by omega,vO2,?_,o10q,d10q⟩;rw[hmB,<-Int.add_assoc,hsn,<-QZ];exact M15
     |false=>
      rw[hpl,QB Bool.false_ne_true,<-QZ]at hsn;have hAb:=(zEA hs (f:=(i:Int)) ⟨by omega,by omega⟩).2.2.2.2;refine go ?_;refine VC 1 rfl rfl ?_;have oY:U3 h1 (inC (zC 1 h15)) (.pointer (some ⟨gu,0,none⟩)) [.slice t1 t2 t3,.slice f1 f2 f3,.slice s1 s2 s3,.slice r1 r2 r3,I (yC T F),.slice k1' k2' k3',I i,I (P0.parts.length+zI (L.take b)+B.ins.length),Zc (.pointer (some ⟨go',0,none⟩))]:=ye 1 (M15.ou);have sY:WJ (inC (zC 1 h15)) (.slice r1 r2 r3) (Bi T F):=YR 1 (M15.oR.sl);have o12Y:U3 h12 (inC (zC 1 h15)) p12 [.slice i1 i2 i3,.int .u8 B.fin.kind,I B.fin.a,I B.fin.to,I B.fin.els]:=ye 1 (o12q);refine WM ?_;refine VA (yw oY sY C.hs ⟨by omega,by omega⟩ B.fin.a hend') ?_;rintro _ _ ⟨rfl,rfl⟩;refine WO.nil (ZU zw ?_);refine WM ?_;refine WN.add (X:=inC (zC 1 _)) (⟨2,yC T F+i,We T F i B.fin.a,0,[]⟩:WU) (fun _=>False) C M15 (U5.refl _) (by omega) Z7 (fun _ h=>h.elim) ?_;intro H vO4 t'' hsame5 MH kH;obtain⟨o10s,d10s⟩:=VP o10q kH d2 d10q;refine go ?_;refine zA (b+1) (by omega) ⟨Wo,by omega,vO4,?_,o10s,d10s⟩;rw[hmB,<-Int.add_assoc,hsn,<-QZ,<-QZ];exact MH
   ·have hbl':b=L.length:=by omega
    subst hbl';refine go ?_;refine zA (i+1) (by omega) ⟨Wo,by omega,.slice k1' k2' k3',vO',YP T F i,i,P0.parts.length+zI (L.take L.length),?_⟩;rw[hcs];exact M12
  ·have hii:i=F.length:=by omega
   subst hii;have oo6:=M6.oo;have hlen:=hCF.out F.length (QE _);obtain⟨v1,v2,v3,rfl⟩:∃ a n k,vO= .slice a n k:=by
    rcases M6.oO with ⟨rfl,_⟩|⟨g,_,_,_,_,rfl,_⟩
    ·exact⟨_,_,_,rfl⟩
    ·exact⟨_,_,_,rfl⟩
   refine go ?_;refine VG oo6 M6.e ?_;intro h7 e7 o7 u7;refine go ?_;refine rt ?_ (Vc U7 o7 rfl (BC.cons U7 BC.nil));refine⟨⟨_,rfl,?_,by omega⟩,e1.trans e7⟩;refine(M6.oO.upd (fun k k1 k2=>u7.2 k k2 fun e=> ?_) u7.1).base (QO e1.n R5.e.n);have:=C.bo k (by rw[e];rfl);omega
end
section
variable {T:List U2}{F:List WP}
end
section
variable {T:List U2}{F:List WP}
end
section
variable {T:List U2}{F:List WP}
def ZM (k:Int)(l:List WU):Int:=(l.map fun x=>if x.kind=k then (1:Int) else 0).sum
theorem zB9 (k:Int)(a b:List WU):ZM k (a++b)=ZM k a+ZM k b:=by unfold ZM;rw[Qr,Gg]
theorem zC5 {α:Type}(k:Int)(g:α->List WU)(l:List α):ZM k (l.flatMap g)=(l.map fun x=>ZM k (g x)).sum:=by
 induction l with
 |nil=>rfl
 |cons x l ih=>rw[List.flatMap_cons,zB9,ih];rfl
theorem Z3 {k:Int}{l:List WU}(h:∀ x∈l,x.kind≠k):ZM k l=0:=by
 unfold ZM;induction l with
 |nil=>rfl
 |cons x l ih=>
  rw[Qm,G7,ih fun y hy=>h y (Qi _ hy),QB (h x (Qd ..))];rfl
def BQ (k:Int)(x:WY):Int:=if k=6 then (if x.op=19 then 1 else 0) else (if x.op=14\/x.op=15 then 1 else 0)
theorem zVj {f r k:Int}{ks:List Int}{x:WY}(hk:k=3\/k=6):ZM k (Zx T F f ks r x)=BQ k x:=by
 have hz:x.op≠19->x.op≠14->x.op≠15->BQ k x=0:=fun h1 h2 h3=>by
  unfold BQ;rw[QB (show ¬(x.op=14\/x.op=15) by omega),QB h1];simp
 unfold Zx;split
 ·rw[Z3 (fun c hc=>by rw[QW]at hc;subst hc;simp only;omega),hz (by omega) (by omega) (by omega)]
 split
 ·rw[Z3 (fun c hc=>by
   unfold zGE zKC at hc;rcases GL.1 hc with rfl|hc
   ·simp only;omega
   ·obtain⟨j,_,hc⟩:=List.mem_flatMap.1 hc;split at hc
    ·cases hc
    ·rw[QW]at hc;subst hc;simp only;omega),hz (by omega) (by omega) (by omega)]
 split
 ·unfold ZM;rcases hk with rfl|rfl
  ·rename_i h;simp[BQ,h]
  ·simp[BQ];omega
 split
 ·rw[Z3 (fun c hc=>by
   split at hc
   ·cases hc
   ·rw[QW]at hc;subst hc;simp only;omega),hz (by omega) (by omega) (by omega)]
 split
 ·rw[Z3 (fun c hc=>by
   split at hc
   ·cases hc
   ·rw[QW]at hc;subst hc;simp only;omega),hz (by omega) (by omega) (by omega)]
 split
 ·rw[Z3 (fun c hc=>by
   rcases Qj.1 hc with hc|hc
   ·unfold zFY at hc;obtain⟨j,_,hc⟩:=List.mem_flatMap.1 hc;split at hc
    ·cases hc
    ·rw[QW]at hc;subst hc;simp only;omega
   ·split at hc
    ·cases hc
    ·rw[QW]at hc;subst hc;simp only;omega),hz (by omega) (by omega) (by omega)]
 split
 ·rename_i h;unfold ZM;rcases hk with rfl|rfl
  ·simp[BQ,h]
  ·simp[BQ,h]
 split
 ·rw[Z3 (fun c hc=>by
   split at hc
   ·cases hc
   ·unfold zM0 at hc;obtain⟨j,_,hc⟩:=List.mem_flatMap.1 hc;rw[QW]at hc;subst hc;simp only;omega),hz (by omega) (by omega) (by omega)]
 ·rw[Z3 (fun c hc=>by cases hc),hz (by omega) (by omega) (by omega)]
theorem zCd {α:Type}[Inhabited α](l:List α)(g:α->Int):((List.range l.length).map fun i=>g (l.getD i default)).sum=(l.map g).sum:=by
 congr 1;apply JF (by simp);intro i h1 h2;simp at h1;simp[h1,List.getD]
theorem zQz {k:Int}(hs:yS T F=0)(hk:k=3\/k=6):ZM k (yZ T F)=(F.map fun g=>(g.blocks.map fun b=>(b.ins.map (BQ k)).sum).sum).sum:=by
 unfold yZ;rw[QJ hs];unfold zAW;rw[zC5,<-zCd F];congr 1;refine Qu fun f hf=> ?_;unfold consB;rw[zC5];show _=((zM F f).map _).sum;rw[<-zCd (zM F f)];congr 1;refine Qu fun b hb=> ?_;rw[zB9,Z3 (l:=zID T F f _) (fun c hc=>by
  unfold zID at hc;split at hc
  ·split at hc
   ·cases hc
   ·rw[QW]at hc;subst hc;simp only;omega
  ·cases hc),Int.add_zero]
 unfold zF8;rw[zC5];exact(congrArg List.sum (Qu fun i _=>zVj hk)).trans (zCd _ (BQ k))
def zCf (L:List WQ)(k:Int):WY:=(L.getD (zh L k).1.toNat default).ins.getD (zh L k).2.toNat default
theorem zFV (g:WY->Int):∀ L:List WQ,((List.range (zI L).toNat).map fun (i:Nat)=>g (zCf L i)).sum=(L.map fun b=>(b.ins.map g).sum).sum
 |[]=>by simp[zI]
 |b::L=>by
  have h0:=zAz L;have hn:(zI (b::L)).toNat=b.ins.length+(zI L).toNat:=by rw[Zw];omega
  rw[hn,List.range_add,Qr,Gg,Qm,G7,<-zFV g L,List.map_map,<-zCd b.ins g];congr 1
  ·refine congrArg List.sum (Qu fun i hi=> ?_);have:=GJ.1 hi;unfold zCf zh;rw[QB (by omega)];rfl
  ·refine congrArg List.sum (Qu fun i hi=> ?_);simp only[Function.comp];have h1:zh (b::L) ((b.ins.length+i:Nat):Int)=((zh L i).1+1,(zh L i).2):=by
    conv=>lhs;unfold zh
    rw[QJ (by omega),show ((b.ins.length+i:Nat):Int) - b.ins.length=(i:Int) by omega]
   have h2:0<=(zh L i).1:=(zFQ (a:=(i:Int)) (by omega) (by have:=GJ.1 hi;omega)).1;unfold zCf;rw[h1];simp only;rw[show ((zh L i).1+1).toNat=(zh L i).1.toNat+1 by omega];rfl
end
set_option maxRecDepth 100000
def zCG (k:Int)(par:Int)(L:List WQ)(r:Nat):Int:=((List.range r).map fun (i:Nat)=>if (i:Int)<par then 0 else BQ k (zCf L (i - par))).sum
def Bt (T:List U2)(F:List WP)(k:Int)(f:Nat):Int:=((List.range f).map fun (i:Nat)=>zCG k ((yE T F i).parts.length:Int) (zM F i) (((yE T F i).parts.length:Int)+zI (zM F i)).toNat).sum
theorem zTs (k:Int)(x:WY):0<=BQ k x/\BQ k x<=1:=by unfold BQ;split<;>split<;>omega
theorem zAh {k par:Int}{L:List WQ}{r:Nat}:zCG k par L (r+1)=zCG k par L r+if (r:Int)<par then 0 else BQ k (zCf L (r - par)):=by
 unfold zCG;rw[Gp,Qr,Gg];simp
theorem zGi {k par:Int}{L:List WQ}:∀ r:Nat,0<=zCG k par L r/\zCG k par L r<=r
 |0=>by simp[zCG]
 |r+1=>by
  have:=zGi (k:=k) (par:=par) (L:=L) r;have:=zTs k (zCf L (r - par));rw[zAh];split<;>omega
theorem zFg {T:List U2}{F:List WP}{k:Int}{f:Nat}:Bt T F k (f+1)=Bt T F k f+zCG k ((yE T F f).parts.length:Int) (zM F f) (((yE T F f).parts.length:Int)+zI (zM F f)).toNat:=by
 unfold Bt;rw[Gp,Qr,Gg];simp
theorem zO1 {k:Int}(p:Nat)(L:List WQ):zCG k p L ((p:Int)+zI L).toNat=(L.map fun b=>(b.ins.map (BQ k)).sum).sum:=by
 rw[<-zFV];have h0:=zAz L;rw[show ((p:Int)+zI L).toNat=p+(zI L).toNat by omega];unfold zCG;rw[List.range_add,Qr,Gg];have h1:((List.range p).map fun (i:Nat)=>if (i:Int)<(p:Int) then 0 else BQ k (zCf L (i - p))).sum=0:=by
  have:((List.range p).map fun (i:Nat)=>if (i:Int)<(p:Int) then 0 else BQ k (zCf L (i - p)))=(List.range p).map fun _=>(0:Int):=Qu fun i hi=>by
   have:=GJ.1 hi;rw[QJ (by omega)]
  rw[this];generalize List.range p=l;induction l with
  |nil=>rfl
  |cons x l ih=>rw[Qm,G7,ih];rfl
 rw[h1,Int.zero_add,List.map_map];refine congrArg List.sum (Qu fun i hi=> ?_);simp only[Function.comp];rw[QB (by omega),show ((p+i:Nat):Int) - (p:Int)=(i:Int) by omega]
theorem zHM {T:List U2}{F:List WP}{k:Int}(hs:yS T F=0)(hk:k=3\/k=6):Bt T F k F.length=ZM k (yZ T F):=by
 rw[zQz hs hk];unfold Bt;rw[<-zCd F];refine congrArg List.sum (Qu fun i hi=> ?_);rw[zO1];rfl
theorem zGH (k:Int)(l:List WU)(x:WU):ZM k (l++[x])=ZM k l+if x.kind=k then 1 else 0:=by rw[zB9];unfold ZM;simp
theorem zBO (k:Int):∀ l:List WU,0<=ZM k l/\ZM k l<=l.length
 |[]=>by simp[ZM]
 |x::l=>by
  have:=zBO k l;have h:ZM k (x::l)=(if x.kind=k then 1 else 0)+ZM k l:=rfl;rw[h,GF];split<;>omega
theorem zRC (k:Int)(l:List WU)(i:Nat):ZM k (l.take i)<=ZM k l:=by
 have h:ZM k l=ZM k (l.take i)+ZM k (l.drop i):=by
  conv=>lhs;rw[<-GK i l]
  rw[zB9]
 have:=zBO k (l.drop i);omega
def zR8:U0:=(oV (oV (oR [oM 56 11,oM 57 9,oB .lss 58 56 57]) (oT 58 2)) (oV (o5 3 (oV (oR [oA 2 62 1,oM 63 8,oM 64 11,o3 65 18 62 63 64,oM 61 65,oE 66 61 0,oE 67 61 1,oE 68 61 2,oM 12 66,oM 13 67,oM 14 68]) (oV (oV (oR [oM 69 14,oC .neq 70 69 0,oM 71 70,oH 71 (oM 72 12),oH 71 (oF 1 73 1),oH 71 (oL 74 73),oH 71 (oM 75 8),oH 71 (oI 2 76 74 75),oH 71 (oF 1 77 76),oH 71 (oL 78 77),oH 71 (oQ 79 78),oH 71 (oB .geq 80 72 79),oO 81 71 80]) (oJ 81 (oV (oR [oZ 2]) .ret) .skip)) (oV (oV (oR [oM 82 12,oC .lss 83 82 0]) (oJ 83 (.exit 3) .skip)) (oV (oV (oR [oM 84 13,oC .lss 85 84 0,oM 86 85,oH 86 (oM 87 13),oH 86 (oF 1 88 1),oH 86 (oL 89 88),oH 86 (oM 90 8),oH 86 (oI 2 91 89 90),oH 86 (oF 1 92 91),oH 86 (oL 93 92),oH 86 (oM 94 12),oH 86 (oI 5 95 93 94),oH 86 (oF 0 96 95),oH 86 (oL 97 96),oH 86 (oQ 98 97),oH 86 (oB .geq 99 87 98),oO 100 86 99]) (oJ 100 (oV (oR [oZ 2]) .ret) .skip)) (oV (oR [oF 1 101 1,oL 102 101,oM 103 8,oI 2 104 102 103,oF 1 105 104,oL 106 105,oM 107 12,oI 5 108 106 107,oF 0 109 108,oL 110 109,oM 111 13,oI 7 112 110 111,oF 0 113 112,oL 114 113]) (o5 4 (oV (oR [oD .eql 116 114 19,oM 115 116]) (oJ 115 (oR [oM 117 6,oC .add 118 117 1,oM 6 118]) (oV (oV (oR [oD .eql 120 114 14,oM 119 120]) (oJ 119 .skip (oR [oD .eql 121 114 15,oM 119 121]))) (oJ 119 (oR [oM 122 7,oC .add 123 122 1,oM 7 123]) .skip))))))))))) (oR [oM 59 11,oC .add 60 59 1,oM 11 60])))
def zRM:U0:=(oV (oV (oR [oM 43 8,oF 1 44 1,oL 45 44,oQ 46 45,oB .lss 47 43 46]) (oT 47 0)) (oV (o5 1 (oV (oR [oA 2 51 1,oM 52 8,o2 53 17 51 52,oM 50 53,oE 54 50 0,oE 55 50 1,oM 9 54,oM 10 55]) (oV (oR [oN 11 0]) (o5 2 (.loop zR8))))) (oR [oM 48 8,oC .add 49 48 1,oM 8 49])))
def zPz:U0:=(oV (oV (oR [oM 124 15,oM 125 4,oQ 126 125,oB .lss 127 124 126]) (oT 127 5)) (oV (o5 6 (oV (oR [oM 130 4,oM 131 15,oI 5 132 130 131,oF 0 133 132,oL 134 133]) (o5 7 (oV (oR [oD .eql 136 134 6,oM 135 136]) (oJ 135 (oR [oM 137 6,oC .sub 138 137 1,oM 6 138]) (oV (oR [oD .eql 140 134 3,oM 139 140]) (oJ 139 (oR [oM 141 7,oC .sub 142 141 1,oM 7 142]) .skip))))))) (oR [oM 128 15,oC .add 129 128 1,oM 15 129])))
def zUj:U0:=(oV (oR [oX 1 0,oZ 2]) (oV (oR [⟨some 16,none,(.call (.func 15) [])⟩,oM 3 16]) (oV (oV (oR [oA 2 17 1,⟨some 18,none,(.call (.func 8) [(.tmp 17),(.const (.int .i64 100))])⟩,oM 19 18,oH 19 (oM 20 3),oH 19 (oW 21 20),oO 22 19 21]) (oJ 22 (oV (oR [oM 23 3,oM 2 23]) .ret) .skip)) (oV (oR [oA 2 25 1,o1 26 10 25,oM 24 26,oE 27 24 0,oE 28 24 1,oM 4 27,oM 5 28]) (oV (oV (oR [oM 29 5,oC .neq 30 29 0]) (oJ 30 (oV (oR [oM 31 3,oM 32 31,oG 32 (oM 33 4),oG 32 (oQ 34 33),oG 32 (oC .eql 35 34 0),oP 36 32 35,oM 37 36,oG 37 (oM 38 5),oG 37 (oA 2 39 1),oG 37 (o1 40 16 39),oG 37 (oB .eql 41 38 40),oP 42 37 41,oM 2 42]) .ret) .skip)) (oV (oR [oN 6 0,oN 7 0]) (oV (oV (oR [oN 8 0]) (o5 0 (.loop zRM))) (oV (oV (oR [oN 15 0]) (o5 5 (.loop zPz))) (oV (oR [oM 143 3,oM 144 143,oG 144 (oM 145 6),oG 144 (oC .eql 146 145 0),oP 147 144 146,oM 148 147,oG 148 (oM 149 7),oG 148 (oC .eql 150 149 0),oP 151 148 150,oM 2 151]) .ret)))))))))
theorem zHC (h:Uz)(vt vf:Value)(T:List U2)(F:List WP)(tt:Bb h)(hm:h.mark<=h.n)(st:Wr h vt T)(sf:Wn h vf F)(hT:(T.length:Int)<=1152921504606846976)(hF:(F.length:Int)<=1152921504606846976):
  WC Tryz.prog tb 5 [.agg #[vt,vf]] h fun r h'=>r= .bool true:=by
 refine en 152 [(2,none)] zUj ?_;refine VI ?_;intro p h1 e1 o1;refine go ?_;refine VA (zOy h1 (tt.ext e1).1) ?_;rintro _ _ ⟨rfl,rfl⟩;refine go ?_;refine VA (zMI h1 vt vf T F 100 (by omega) (st.ext e1) (Wn.ext sf e1) (by omega) (by omega)) ?_;rintro rr h2 ⟨hr,e2⟩;replace o1:U3 h h1 p [vt,vf]:=o1;have o2:=o1.ext e2;rcases hr with rfl|⟨rfl,sm,si⟩
 ·refine gr ?_;rfl
 have E:Env h2 vt vf T F:=⟨(tt.ext e1).ext e2,yJ e2 (yJ e1 hm),sm,(st.ext e1).ext e2,Wn.ext (Wn.ext sf e1) e2⟩;clear st sf tt hm e1 e2;refine go ?_;refine VA (zT0 E) ?_;rintro _ h3 ⟨⟨vL,rfl,oL,hLl⟩,e3⟩;obtain⟨l1,l2,l3,rfl⟩:=zF oL.sl;have o3:=o2.ext e3;have E3:=E.ext e3;have sL3:=oL.sl;by_cases hs:yS T F=0;case neg=>
  have hs':yS T F≠0:=hs;have hl0:(yZ T F).length=0:=by unfold yZ;rw[QB hs];rfl
  refine go ?_;refine VA (zFn h3 vt vf T F E3) ?_;rintro _ h4 ⟨rfl,e4⟩;refine gr ?_;show Value.bool (decide (yS T F=yS T F))=_;rw[Qg rfl]
 have hc6:=zHM (T:=T) (F:=F) (k:=6) hs (.inr rfl);have hc3:=zHM (T:=T) (F:=F) (k:=3) hs (.inl rfl);have hk6:=zBO 6 (yZ T F);have hk3:=zBO 3 (yZ T F);have htk:=fun k=>zRC k (yZ T F);have hp:=(yV hs).1;obtain⟨hc,hF1,hF8,-⟩:=yo hp;have sf3:=E3.sf;obtain⟨f1,f2,f3,rfl⟩:=zF sf3;obtain⟨t1,t2,t3,rfl⟩:=zF E3.st;replace hc6:=WW.mk hc6;replace hc3:=WW.mk hc3;replace htk:=WW.mk htk;rw[hs];refine go ?_;refine VD [43,44,45,46,47,51,52,53,50,54,55,9,10,11,56,57,58,62,63,64,65,61,66,67,68,12,13,14,69,70,71,72,73,74,75,76,77,78,79,80,81,2,82,83,84,85,86,87,88,89,90,91,92,93,94,95,96,97,98,99,100,2,101,102,103,104,105,106,107,108,109,110,111,112,113,114,116,115,117,118,6,120,119,121,119,122,123,7,59,60,11,48,49,8] (by kernel_rfl) (fun i=>F.length - i) (fun i t h4=>zB t 8=I i/\i<=F.length/\U5 h3 h4/\zB t 6=I (Bt T F 6 i)/\zB t 7=I (Bt T F 3 i)/\(0<=Bt T F 6 i/\Bt T F 6 i<=300 * i)/\0<=Bt T F 3 i/\Bt T F 3 i<=300 * i) 0 ?_ ?_
 ·exact⟨U7,QT _,U5.refl _,U7,U7,by simp[Bt],by simp[Bt]⟩
 rintro i t h4 hsame ⟨s8,hi,e4,s6,s7,b6,b3⟩;have o4:=o3.ext e4;have E4:=E3.ext e4;have sf4:=E4.sf;have sL4:=SlO.ext sL3 e4;refine go ?_;refine VE (fun hb=> ?_) (fun hb=> ?_)<;>simp only[DB]at hb
 ·have hi':i<F.length:=by omega
  have Z:=zDf hp (f:=(i:Int)) (by omega);have hmny:=Z.many;have hpar:=Z.par4;have hm0:=zAz (zM F i);have hR:=zHG h4 _ _ T F i E4.tt E4.hm E4.sm E4.st E4.sf;rw[zJ2 hp hi']at hR;have hsig:((T.getD (F.getD i default).sig.toNat default).parts.length:Int)+zI (F.getD i default).blocks=(yE T F i).parts.length+zI (zM F i):=by unfold yE zM;rw[QU]
  rw[hsig]at hR;have hsn6:=zFg (T:=T) (F:=F) (k:=6) (f:=i);have hsn3:=zFg (T:=T) (F:=F) (k:=3) (f:=i);have hpl:∀ r:Int,0<=r->r<((yE T F i).parts.length:Int)+zI (zM F i)->zAS T F i r=if r<((yE T F i).parts.length:Int) then (-1,r,0) else ((zh (zM F i) (r - ((yE T F i).parts.length:Int))).1,(zh (zM F i) (r - ((yE T F i).parts.length:Int))).2,0):=fun r r0 r1=>by
   rw[zMr hp,QB (by unfold zE6;omega)]
  have hLb:zM F i=(F.getD i default).blocks:=by unfold zM;rw[QU]
  have hwi:= @zFQ (zM F i);obtain⟨csF,⟨vb,rfl,sb,hlb⟩,pcF,hsF⟩:=zp (i:=i) E3.sf hi';rw[<-hLb]at sb hlb;generalize hLL:zM F i=L at *;generalize (yE T F i).parts.length=par at *;generalize Bt T F 6 i=a6 at *;generalize Bt T F 3 i=a3 at *;generalize (F.getD i default).sig=sg at *;obtain⟨b1,b2,b3',rfl⟩:=zF sb;replace hpl:=WW.mk hpl;replace hwi:=WW.mk @hwi;replace hsn6:=WW.mk hsn6;replace hsn3:=WW.mk hsn3;refine go ?_;refine VA hR ?_;rintro _ h5 ⟨rfl,e5⟩;have e35:=e4.trans e5;refine go ?_;refine VD [56,57,58,62,63,64,65,61,66,67,68,12,13,14,69,70,71,72,73,74,75,76,77,78,79,80,81,2,82,83,84,85,86,87,88,89,90,91,92,93,94,95,96,97,98,99,100,2,101,102,103,104,105,106,107,108,109,110,111,112,113,114,116,115,117,118,6,120,119,121,119,122,123,7,59,60,11] (by kernel_rfl) (fun j=>(par+zI L).toNat - j) (fun j t h6=>zB t 11=I j/\j<=(par+zI L).toNat/\U5 h3 h6/\zB t 6=I (a6+zCG 6 par L j)/\zB t 7=I (a3+zCG 3 par L j)) 0 ?_ ?_
  ·exact⟨U7,QT _,e35,by rw[show zCG 6 (par:Int) L 0=0 from rfl,Int.add_zero];exact U7,by rw[show zCG 3 (par:Int) L 0=0 from rfl,Int.add_zero];exact U7⟩
  rintro j t' h6 hsame' ⟨s11,hj,e6,s6',s7'⟩;have o6:=o3.ext e6;have E6:=E3.ext e6;have hr6:=zGi (k:=6) (par:=(par:Int)) (L:=L) j;have hr3:=zGi (k:=3) (par:=(par:Int)) (L:=L) j;refine go ?_;refine VE (fun hb'=> ?_) (fun hb'=> ?_)<;>simp only[DB]at hb'
  ·have hj':(j:Int)<par+zI L:=by omega
   have hpj:=hpl.out j (by omega) hj';refine go ?_;refine VA (zNr h6 _ _ T F i j E6) ?_;rintro _ h7 ⟨rfl,e7⟩;have e37:=e6.trans e7;have o7:=o6.ext e7;have sf7:=(E6.ext e7).sf;have pcF7:=(pcF _ e37).1;have sb7:=W6.ext sb e37;rw[hpj];by_cases hjp:(j:Int)<par
   ·rw[QJ hjp];dsimp only;refine go ?_;refine zA (j+1) (by omega) ⟨Wo,by omega,e37,?_,?_⟩
    ·rw[zAh,QJ hjp,Int.add_zero];exact U7
    ·rw[zAh,QJ hjp,Int.add_zero];exact U7
   ·rw[QB hjp];dsimp only;have hw:=hwi.out (a:=(j:Int) - par) (by omega) (by omega);have hin:zCf L ((j:Int) - par)=(L.getD (zh L ((j:Int) - par)).1.toNat default).ins.getD (zh L ((j:Int) - par)).2.toNat default:=rfl;have hs6:=zAh (k:=6) (par:=(par:Int)) (L:=L) (r:=j);have hs3:=zAh (k:=3) (par:=(par:Int)) (L:=L) (r:=j);rw[QB hjp,hin]at hs6 hs3;generalize (zh L ((j:Int) - par)).1=w1 at *;generalize (zh L ((j:Int) - par)).2=w2 at *;obtain⟨w1,rfl⟩:∃ n:Nat,w1=n:=⟨w1.toNat,by omega⟩;obtain⟨w2,rfl⟩:∃ n:Nat,w2=n:=⟨w2.toNat,by omega⟩;rw[QU]at hw hs6 hs3;rw[QU]at hs6 hs3;obtain⟨csB,⟨vi,rfl,si,hli⟩,pcB,hsB⟩:=zp (i:=w1) (W6.ext sb e37) (by omega);have pcB7:=(pcB _ (U5.refl _)).1;have hil:((L.getD w1 default).ins.length:Int)<=1152921504606846976:=hli;obtain⟨csX,⟨xa,xf,rfl,sxa,sxf,hxa,hxf⟩,pcX,hsX⟩:=zp (i:=w2) si (by omega);have pcX7:=(pcX _ (U5.refl _)).1;generalize (L.getD w1 default).ins.getD w2 default=x at *;generalize (L.getD w1 default).ins=l at *;obtain⟨i1,i2,i3,rfl⟩:=zF si;by_cases c19:x.op=19
    ·have k6:BQ 6 x=1:=by unfold BQ;simp[c19]
     have k3:BQ 3 x=0:=by unfold BQ;simp[c19]
     rw[k6]at hs6;rw[k3,Int.add_zero]at hs3;refine go ?_;refine zA (j+1) (by omega) ⟨Wo,by omega,e37,?_,?_⟩
     ·rw[hs6,<-Int.add_assoc];exact U7
     ·rw[hs3];exact U7
    by_cases c14:x.op=14\/x.op=15
    ·have k6:BQ 6 x=0:=by unfold BQ;simp[c19]
     have k3:BQ 3 x=1:=by unfold BQ;simp[c14]
     rw[k6,Int.add_zero]at hs6;rw[k3]at hs3;rcases c14 with c14|c14;all_goals
      refine go ?_
      refine zA (j+1) (by omega) ⟨Wo,by omega,e37,?_,?_⟩
      ·rw[hs6];exact U7
      ·rw[hs3,<-Int.add_assoc];exact U7
    ·have k6:BQ 6 x=0:=by unfold BQ;simp[c19]
     have k3:BQ 3 x=0:=by unfold BQ;simp[c14]
     rw[k6,Int.add_zero]at hs6;rw[k3,Int.add_zero]at hs3;refine go ?_;refine zA (j+1) (by omega) ⟨Wo,by omega,e37,?_,?_⟩
     ·rw[hs6];exact U7
     ·rw[hs3];exact U7
  ·have hjj:(j:Int)=par+zI L:=by omega
   have hjn:j=(par+zI L).toNat:=by omega
   refine go ?_;refine zA (i+1) (by omega) ⟨Wo,by omega,e6,?_,?_,?_,?_⟩
   ·rw[hsn6.out,<-hjn];exact U7
   ·rw[hsn3.out,<-hjn];exact U7
   ·rw[hsn6.out,<-hjn];omega
   ·rw[hsn3.out,<-hjn];omega
 ·have hii:i=F.length:=by omega
  subst hii;rw[hc6.out]at s6 b6;rw[hc3.out]at s7 b3;refine go ?_;refine VD [124,125,126,127,130,131,132,133,134,136,135,137,138,6,140,139,141,142,7,128,129,15] (by kernel_rfl) (fun q=>(yZ T F).length - q) (fun q t h5=>h4=h5/\zB t 15=I q/\q<=(yZ T F).length/\zB t 6=I (ZM 6 (yZ T F) - ZM 6 ((yZ T F).take q))/\zB t 7=I (ZM 3 (yZ T F) - ZM 3 ((yZ T F).take q))) 0 ?_ ?_
  ·exact⟨rfl,U7,QT _,by rw[GA,show ZM 6 []=0 from rfl,Int.sub_zero];exact U7,by rw[GA,show ZM 3 []=0 from rfl,Int.sub_zero];exact U7⟩
  rintro q t' _ hsame' ⟨rfl,s15,hq,s6',s7'⟩;have t6:=htk.out 6 q;have t3:=htk.out 3 q;have z6:=zBO 6 ((yZ T F).take q);have z3:=zBO 3 ((yZ T F).take q);refine go ?_;refine VE (fun hb'=> ?_) (fun hb'=> ?_)<;>simp only[DB]at hb'
  ·have hq':q<(yZ T F).length:=by omega
   obtain⟨cs,⟨va,rfl,sa,hla⟩,pc,hsl⟩:=ZC (i:=q) sL4 hq';have n6:ZM 6 ((yZ T F).take (q+1))=ZM 6 ((yZ T F).take q)+if ((yZ T F).getD q default).kind=6 then 1 else 0:=by rw[ZT hq',zGH]
   have n3:ZM 3 ((yZ T F).take (q+1))=ZM 3 ((yZ T F).take q)+if ((yZ T F).getD q default).kind=3 then 1 else 0:=by rw[ZT hq',zGH]
   generalize (yZ T F).getD q default=x at *;generalize ZM 6 ((yZ T F).take q)=y6 at *;generalize ZM 3 ((yZ T F).take q)=y3 at *;generalize ZM 6 (yZ T F)=A6 at *;generalize ZM 3 (yZ T F)=A3 at *;by_cases c6:x.kind=6
   ·rw[QJ c6]at n6;rw[QB (by omega),Int.add_zero]at n3;refine go ?_;refine zA (q+1) (by omega) ⟨rfl,Wo,by omega,?_,?_⟩
    ·rw[n6,show A6 - (y6+1)=A6 - y6 - 1 by omega];exact U7
    ·rw[n3];exact U7
   rw[QB c6,Int.add_zero]at n6;by_cases c3:x.kind=3
   ·rw[QJ c3]at n3;refine go ?_;refine zA (q+1) (by omega) ⟨rfl,Wo,by omega,?_,?_⟩
    ·rw[n6];exact U7
    ·rw[n3,show A3 - (y3+1)=A3 - y3 - 1 by omega];exact U7
   ·rw[QB c3,Int.add_zero]at n3;refine go ?_;refine zA (q+1) (by omega) ⟨rfl,Wo,by omega,?_,?_⟩
    ·rw[n6];exact U7
    ·rw[n3];exact U7
  ·have hqq:q=(yZ T F).length:=by omega
   subst hqq;rw[Q8,Int.sub_self]at s6' s7';refine gr ?_;rfl
end
end Go.Proofs.YtmejfcakhpihlaaGreatDoor
