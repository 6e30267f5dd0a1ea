/- What functions of the program come to in the abstract machine, and plain laws about it; no statement of the seat is proved in this text. -/
import Derived.Test.YteekipjpghikkaaGreatDoorJh
import Derived.Test.YteekipjpghikkaaGreatDoorAmV
import Derived.Test.YteekipjpghikkaaGreatDoorJg
import Derived.Test.YteekipjpghikkaaGreatDoorJg
import Derived.Test.YteekipjpghikkaaGreatDoorJg
set_option linter.unusedVariables false
set_option linter.unusedSimpArgs false
set_option maxHeartbeats 1000000
namespace Go.Proofs.YteekipjpghikkaaGreatDoor
noncomputable section
open Go.Am
set_option maxRecDepth 100000
def RPl (_:AHeap) (cs:List Value) (x:Int×Int):Prop:=cs=[I x.1,I x.2]
structure FnM (h:AHeap) (g:Nat) (vt vf:Value) (T:List LType) (F:List LFn) (f:Int) (ks:List Int) (ps:List (Int×Int)) (rs:List Int):Prop where
 own:∃ hB vk vp vr,OwnC hB h (.pointer (some ⟨g,0,none⟩)) [vt,vf,I f,vk,vp,vr]/\SlI h vk ks/\SlR 2 RPl h vp ps/\SlI h vr rs
 st:SlT h vt T
 sf:SlF h vf F
 hm:h.mark<=h.n
theorem FnM.ext {h h':AHeap} {g:Nat} {vt vf:Value} {T:List LType} {F:List LFn} {f:Int} {ks:List Int} {ps:List (Int×Int)} {rs:List Int} (M:FnM h g vt vf T F f ks ps rs) (e:Ext h h'):FnM h' g vt vf T F f ks ps rs:=by
 obtain⟨⟨hB,vk,vp,vr,o,a,b,c⟩,st,sf,hm⟩:=M;exact⟨⟨hB,vk,vp,vr,o.ext e,a.ext e,SlR.ext (h:=h) (h':=h') (fun cs a (r:RPl h cs a)=>(r:RPl h' cs a)) b e,c.ext e⟩,st.ext e,SlF.ext sf e,yA e hm⟩
theorem zLn {A B:List Int} (hl:A.length=B.length) (h:∀ i,i<A.length->A.getD i 0=B.getD i 0):A=B:=by
 refine List.ext_getElem hl fun i h1 h2=> ?_;have:=h i h1;rwa [QE,QE,QB h1,QB h2]at this
def zMH:ACode:=(oV (oR [oB .lss 14 13 12]) (oV (oT 14 0) (oV (o5 1 (oV (oR [oM 15 13,oM 5 15]) (oV (o6 [oM 16 0,oM 17 5,oI 1 18 16 17,oL 19 18,oM 20 1,oM 21 5,oI 1 22 20 21,oL 23 22,oB .neq 24 19 23]) (oJ 24 (oV (oR [oZ 4]) .ret) .skip)))) (oR [oC .add 25 13 1,oM 13 25]))))
def zR4:ACode:=(oV (oR [oZ 4]) (oV (oV (oR [oM 6 0,oQ 7 6,oM 8 1,oQ 9 8,oB .neq 10 7 9]) (oJ 10 (oV (oR [oZ 4]) .ret) .skip)) (oV (oV (oR [oM 11 0,oQ 12 11,oN 13 0]) (o5 0 (.loop zMH))) (oV (oR [oK 4 (.bool true)]) .ret))))
theorem zF0 (h:AHeap) (va vb:Value) (A B:List Int) (ka:SlI h va A) (kb:SlI h vb B) (la:(A.length:Int)<=9223372036854775807):WC Tryz.prog tb 168 [va,vb] h fun r h'=>r= .bool (decide (A=B))/\h=h':=by
 refine en 26 [(4,none)] zR4 ?_;by_cases hl:A.length=B.length;case neg=>
  refine gr ?_;exact⟨by rw[QT (fun e=>hl (by rw[e]))];rfl,rfl⟩
 refine go ?_;refine WX.loopA [14,15,5,16,17,18,19,20,21,22,23,24,4,25,13] (by kernel_rfl) (fun i=>A.length - i) (fun i t h1=>h=h1/\zB t 13=I i/\i<=A.length/\Hid (∀ j,j<i->A.getD j 0=B.getD j 0)) 0 ?_ ?_
 ·exact⟨rfl,sl_,QV _,⟨fun j hj=>absurd hj (GG _)⟩⟩
 rintro i t _ hsame ⟨rfl,s13,hi,hI⟩;refine go ?_;refine WX.br (fun hb=> ?_) (fun hb=> ?_)<;>simp only[DB]at hb
 ·have hia:i<A.length:=by omega
  have hib:i<B.length:=by omega
  refine go ?_;refine WX.br (fun hb=> ?_) (fun hb=> ?_)<;>simp only[DB]at hb<;>refine go ?_
  ·refine rt ?_;refine⟨?_,rfl⟩;rw[QT (fun e=>by subst e;exact hb rfl)];rfl
  ·refine zA (i+1) (by omega) ⟨rfl,sln,by omega,⟨fun j hj=> ?_⟩⟩;by_cases e:j=i
   ·subst e;exact hb
   ·exact hI.out j (by omega)
 ·refine gr ?_;exact⟨by rw[QZ (zLn hl fun j hj=>hI.out j (by omega))];rfl,rfl⟩
section
variable {vt vf:Value} {T:List LType} {F:List LFn} {f:Int} {ks:List Int} {ps:List (Int×Int)} {rs:List Int} {g:Nat}
def zSW:ACode:=(oV (oR [oZ 4]) (oV (o6 [oM 5 0,oC .eql 6 5 (-1),oM 7 6,oH 7 (oL 8 1),(⟨some 9,some (7,false),(.nilCheck (.tmp 8))⟩,[]),oH 7 (oF 0 10 9),oH 7 (oF 0 11 10),oH 7 (oL 12 11),oH 7 (oM 13 0),oH 7 (oI 4 14 12 13),oH 7 (oF 0 15 14),oH 7 (oL 16 15),oH 7 (oL 17 2),oH 7 (oB .neq 18 16 17),oO 19 7 18,oM 4 19]) .ret))
theorem zRj (h h0 h00:AHeap) (p1 p2:Value) (k t:Int) (M:FnM h g vt vf T F f ks ps rs) (o1:OwnC h0 h p1 [.pointer (some ⟨g,0,none⟩)]) (o2:OwnC h00 h p2 [.int .u8 k]) (ht:InT T t):
  WC Tryz.prog tb 110 [I t,p1,p2] h fun r h'=>r= .bool (!isT T k t)/\Ext h h':=by
 obtain⟨⟨hB,vk,vp,vr,o,a,b,c⟩,st,sf,hm⟩:=M;refine en 20 [(4,none)] zSW ?_;by_cases h1:t= -1
 ·refine gr ?_;refine⟨?_,Ext.refl h⟩;subst h1;rfl
 ·obtain⟨t0,t1⟩:=ht.resolve_left h1;obtain⟨cs,⟨va,rfl,sa,hla⟩,pc,hs⟩:=YI (i:=t.toNat) st (by omega);refine gr ?_;refine⟨?_,Ext.refl h⟩;unfold isT;rw[QZ h1];simp[one]
def zS4:ACode:=(oV (oR [oX 3 0,oX 4 1,oZ 6]) (oV (oR [oM 7 2,⟨some 8,none,(.mkFunc (.func 110) [] [(.tmp 3),(.tmp 4)])⟩,o2 9 109 7 8,oW 10 9,oM 6 10]) .ret))
theorem yq (h:AHeap) (k:Int) (v:Value) (l:List Int) (M:FnM h g vt vf T F f ks ps rs) (s:SlI h v l) (hl:l.length<=1000) (hin:∀ t∈l,InT T t):
  WC Tryz.prog tb 67 [.pointer (some ⟨g,0,none⟩),.int .u8 k,v] h fun r h'=>r= .bool (isL T k l)/\Ext h h':=by
 refine en 11 [(6,none)] zS4 ?_;refine WO.bx ?_;intro p1 h1 e1 o1;refine go ?_;refine WO.bx ?_;intro p2 h2 e2 o2;have o1:=o1.ext e2;have e12:=e1.trans e2;have M2:=M.ext e12;have s2:=s.ext e12;refine go ?_;refine WO.con (zAO h2 v _ l (fun t=> !isT T k t) s2 (by omega) ?_) ?_
 ·intro t ht h3 e3;exact WV.func (zRj h3 h h1 p1 p2 k t (M2.ext e3) (o1.ext e3) (o2.ext e3) (hin t ht))
 rintro _ h3 ⟨rfl,e3⟩;refine gr ?_;refine⟨?_,e12.trans e3⟩;show Value.bool _=_;rw[List.not_any_eq_all_not];simp[isL]
theorem yr (T:List LType) (k t:Int):isL T k [t]=isT T k t:=by simp[isL]
def zQ6:ACode:=(oV (oR [oZ 4]) (oV (oR [oM 5 0,oM 6 1,⟨some 7,none,(.buildSlice 1 1 [(.int .i64 0)] [(0,1,(.tmp 6))])⟩,⟨some 8,none,(.call (.func 67) [(.tmp 5),(.const (.int .u8 1)),(.tmp 7)])⟩,oM 9 8,oH 9 (oM 10 0),oH 9 (oM 11 1),⟨some 12,some (9,false),(.buildSlice 1 1 [(.int .i64 0)] [(0,1,(.tmp 11))])⟩,⟨some 13,some (9,false),(.call (.func 67) [(.tmp 10),(.const (.int .u8 2)),(.tmp 12)])⟩,oO 14 9 13,oM 15 14,oH 15 (oM 16 0),oH 15 (oM 17 1),⟨some 18,some (15,false),(.buildSlice 1 1 [(.int .i64 0)] [(0,1,(.tmp 17))])⟩,⟨some 19,some (15,false),(.call (.func 67) [(.tmp 16),(.const (.int .u8 3)),(.tmp 18)])⟩,oO 20 15 19,oM 4 20]) .ret))
theorem zBz (h:AHeap) (t:Int) (M:FnM h g vt vf T F f ks ps rs) (ht:InT T t):
  WC Tryz.prog tb 166 [.pointer (some ⟨g,0,none⟩),I t] h fun r h'=>r= .bool (zIw T t)/\Ext h h':=by
 have hin:∀ x∈[t],InT T x:=fun x hx=>by rw[QQ.1 hx];exact ht
 unfold zIw;refine en 21 [(4,none)] zQ6 ?_;refine WO.bl [t] ?_;intro v1 h1 e1 o1;have M1:=M.ext e1;refine go ?_;refine WO.con (yq h1 1 v1 [t] M1 o1.sl (by simp) hin) ?_;rintro _ h2 ⟨rfl,e2⟩;rw[yr];cases c1:isT T 1 t with
 |true=>
  refine gr ?_;exact⟨rfl,e1.trans e2⟩
 |false=>
  have M2:=M1.ext e2;refine go ?_;refine WO.bl [t] ?_;intro v3 h3 e3 o3;have M3:=M2.ext e3;refine go ?_;refine WO.con (yq h3 2 v3 [t] M3 o3.sl (by simp) hin) ?_;rintro _ h4 ⟨rfl,e4⟩;rw[yr];have e04:=e1.trans (e2.trans (e3.trans e4));cases c2:isT T 2 t with
  |true=>
   refine gr ?_;exact⟨rfl,e04⟩
  |false=>
   have M4:=M3.ext e4;refine go ?_;refine WO.bl [t] ?_;intro v5 h5 e5 o5;have M5:=M4.ext e5;refine go ?_;refine WO.con (yq h5 3 v5 [t] M5 o5.sl (by simp) hin) ?_;rintro _ h6 ⟨rfl,e6⟩;rw[yr];refine gr ?_;exact⟨by cases isT T 3 t<;>rfl,e04.trans (e5.trans e6)⟩
def zQr:ACode:=(oV (oR [oN 4 0]) (oV (oV (oR [oM 5 0,oM 6 1,⟨some 7,none,(.buildSlice 1 1 [(.int .i64 0)] [(0,1,(.tmp 6))])⟩,⟨some 8,none,(.call (.func 67) [(.tmp 5),(.const (.int .u8 2)),(.tmp 7)])⟩,oW 9 8]) (oJ 9 (oV (oR [oN 4 (-1)]) .ret) .skip)) (oV (oR [oM 10 0,⟨some 11,none,(.nilCheck (.tmp 10))⟩,oF 0 12 11,oF 0 13 12,oL 14 13,oM 15 1,oI 4 16 14 15,oF 1 17 16,oL 18 17,oM 4 18]) .ret)))
theorem zAH (h:AHeap) (t:Int) (M:FnM h g vt vf T F f ks ps rs) (ht:InT T t):
  WC Tryz.prog tb 199 [.pointer (some ⟨g,0,none⟩),I t] h fun r h'=>r=I (toT T t)/\Ext h h':=by
 have hin:∀ x∈[t],InT T x:=fun x hx=>by rw[QQ.1 hx];exact ht
 unfold toT;refine en 19 [(4,none)] zQr ?_;refine WO.bl [t] ?_;intro v1 h1 e1 o1;have M1:=M.ext e1;refine go ?_;refine WO.con (yq h1 2 v1 [t] M1 o1.sl (by simp) hin) ?_;rintro _ h2 ⟨rfl,e2⟩;rw[yr];cases c1:isT T 2 t with
 |false=>
  refine gr ?_;exact⟨rfl,e1.trans e2⟩
 |true=>
  obtain⟨⟨hB,vk,vp,vr,o,a,b,c⟩,st,sf,hm⟩:=M1.ext e2;obtain⟨t0,t1⟩:=ht.resolve_left (zPv c1);obtain⟨cs,⟨va,rfl,sa,hla⟩,pc,hs⟩:=YI (i:=t.toNat) st (by omega);refine gr ?_;exact⟨rfl,e1.trans e2⟩
def zLi:ACode:=(oV (oR [oB .lss 10 9 8]) (oV (oT 10 0) (oV (o5 1 (oV (oR [oI 1 11 7 9,oL 12 11,oM 6 12]) (oR [oM 13 4,oM 14 0,⟨some 15,none,(.nilCheck (.tmp 14))⟩,oF 3 16 15,oL 17 16,oM 18 6,oI 1 19 17 18,oL 20 19,⟨some 21,none,(.buildSlice 1 1 [(.int .i64 0)] [(0,1,(.tmp 20))])⟩,oY 1 22 13 21,oM 4 22]))) (oR [oC .add 23 9 1,oM 9 23]))))
def zQ1:ACode:=(oV (oR [oK 4 (.slice none 0 0)]) (oV (oV (oR [oM 7 1,oQ 8 7,oN 9 0]) (o5 0 (.loop zLi))) (oV (oR [oM 24 4,oM 4 24]) .ret)))
theorem zNz (h:AHeap) (v:Value) (l:List Int) (M:FnM h g vt vf T F f ks ps rs) (s:SlI h v l) (hl:l.length<=1000) (hin:∀ r∈l,0<=r/\r<(ks.length:Int)):
  WC Tryz.prog tb 112 [.pointer (some ⟨g,0,none⟩),v] h fun r h'=>OwnN h h' r (l.map fun r=>ks.getD r.toNat 0)/\Ext h h':=by
 refine en 25 [(4,none)] zQ1 ?_;refine WX.loopA [10,11,12,6,13,14,15,16,17,18,19,20,21,22,4,23,9] (by kernel_rfl) (fun i=>l.length - i) (fun i t h1=>Ext h h1/\zB t 9=I i/\i<=l.length/\∃ w,zB t 4=w/\OwnN h h1 w ((l.take i).map fun r=>ks.getD r.toNat 0)) 0 ?_ ?_
 ·exact⟨Ext.refl _,sl_,QV _,_,sl_,.inl ⟨rfl,rfl⟩⟩
 rintro i t h1 hsame ⟨e1,s9,hi,w,s4,ow⟩;obtain⟨⟨hB,vk,vp,vr,o,a,b,c⟩,st,sf,hm⟩:=M.ext e1;have s1:=s.ext e1;refine go ?_;refine WX.br (fun hb=> ?_) (fun hb=> ?_)<;>simp only[DB]at hb
 ·have hi':i<l.length:=by omega
  have hr:=hin _ (yS hi');have hsucc:(l.take (i+1)).map (fun r=>ks.getD r.toNat 0)=(l.take i).map (fun r=>ks.getD r.toNat 0)++[ks.getD (l.getD i 0).toNat 0]:=by
   rw[GI,QB hi',Gg,show l.getD i 0=l[i] by rw[QE,QB hi'];rfl];rfl
  refine go ?_;refine WO.bl [ks.getD (l.getD i 0).toNat 0] ?_;intro v2 h2 e2 o2;refine go ?_;refine WO.apN (ow.ext e2) (OwnI.sl o2) (e1.trans e2) (by simp only[GK,Q1,Qa];omega) ?_;intro v3 h3 e3 o3;refine go ?_;exact zA (i+1) (by omega) ⟨e3,sln,by omega,_,sl_,by rw[hsucc];exact o3⟩
 ·have hii:i=l.length:=by omega
  subst hii;rw[GN]at ow;refine gr ?_;exact⟨ow,e1⟩
def zRK:ACode:=(oV (oR [oZ 8]) (oV (oR [oM 9 0,oM 10 1,⟨some 11,none,(.buildSlice 1 1 [(.int .i64 0)] [(0,1,(.tmp 10))])⟩,⟨some 12,none,(.call (.func 67) [(.tmp 9),(.const (.int .u8 3)),(.tmp 11)])⟩,oM 13 12,oG 13 (oM 14 0),⟨some 15,some (13,true),(.nilCheck (.tmp 14))⟩,oG 13 (oF 0 16 15),oG 13 (oF 0 17 16),oG 13 (oL 18 17),oG 13 (oM 19 1),oG 13 (oI 4 20 18 19),oG 13 (oF 3 21 20),oG 13 (oL 22 21),oG 13 (oM 23 2),oG 13 (o2 24 168 22 23),oP 25 13 24,oM 26 25,oG 26 (oM 27 0),⟨some 28,some (26,true),(.nilCheck (.tmp 27))⟩,oG 26 (oF 0 29 28),oG 26 (oF 0 30 29),oG 26 (oL 31 30),oG 26 (oM 32 1),oG 26 (oI 4 33 31 32),oG 26 (oF 1 34 33),oG 26 (oL 35 34),oG 26 (oM 36 3),oG 26 (oB .eql 37 35 36),oP 38 26 37,oM 8 38]) .ret))
theorem zFi (h:AHeap) (sig t:Int) (v:Value) (l:List Int) (M:FnM h g vt vf T F f ks ps rs) (hsg:InT T sig) (s:SlI h v l) (hl:l.length<=1000):
  WC Tryz.prog tb 165 [.pointer (some ⟨g,0,none⟩),I sig,v,I t] h fun r h'=>r= .bool (zKq T sig l t)/\Ext h h':=by
 have hin:∀ x∈[sig],InT T x:=fun x hx=>by rw[QQ.1 hx];exact hsg
 unfold zKq;refine en 39 [(8,none)] zRK ?_;refine WO.bl [sig] ?_;intro v1 h1 e1 o1;have M1:=M.ext e1;refine go ?_;refine WO.con (yq h1 3 v1 [sig] M1 o1.sl (by simp) hin) ?_;rintro _ h2 ⟨rfl,e2⟩;rw[yr];cases c1:isT T 3 sig with
 |false=>
  refine gr ?_;exact⟨rfl,e1.trans e2⟩
 |true=>
  obtain⟨⟨hB,vk,vp,vr,o,a,b,c⟩,st,sf,hm⟩:=M1.ext e2;obtain⟨t0,t1⟩:=hsg.resolve_left (zPv c1);have s2:=s.ext (e1.trans e2);obtain⟨cs,⟨va,rfl,sa,hla⟩,pc,hs⟩:=YI (i:=sig.toNat) st (by omega);refine go ?_;refine WO.con (zF0 h2 va v _ l sa s2 (by omega)) ?_;rintro _ _ ⟨rfl,rfl⟩;cases c2:decide ((T.getD sig.toNat default).parts=l)with
  |false=>
   refine gr ?_;exact⟨rfl,e1.trans e2⟩
  |true=>
   refine gr ?_;exact⟨rfl,e1.trans e2⟩
def zR3:ACode:=(oV (oR [oZ 8]) (oV (oR [oM 11 0,oM 12 1,o2 13 199 11 12,oM 9 13,oN 10 (-1)]) (oV (o5 0 (oV (oR [oM 15 9,oC .eql 16 15 (-1),oM 14 16]) (oJ 14 .skip (oV (oR [oM 18 0,oM 19 9,⟨some 20,none,(.buildSlice 1 1 [(.int .i64 0)] [(0,1,(.tmp 19))])⟩,⟨some 21,none,(.call (.func 67) [(.tmp 18),(.const (.int .u8 4)),(.tmp 20)])⟩,oM 22 21,oG 22 (oM 23 3),oG 22 (oM 24 0),⟨some 25,some (22,true),(.nilCheck (.tmp 24))⟩,oG 22 (oF 0 26 25),oG 22 (oF 0 27 26),oG 22 (oL 28 27),oG 22 (oM 29 9),oG 22 (oI 4 30 28 29),oG 22 (oF 3 31 30),oG 22 (oL 32 31),oG 22 (oQ 33 32),oG 22 (oB .lss 34 23 33),oP 35 22 34,oM 17 35]) (oJ 17 (oR [oM 36 0,⟨some 37,none,(.nilCheck (.tmp 36))⟩,oF 0 38 37,oF 0 39 38,oL 40 39,oM 41 9,oI 4 42 40 41,oF 3 43 42,oL 44 43,oM 45 3,oI 1 46 44 45,oL 47 46,oM 10 47]) (oV (oR [oM 49 0,oM 50 9,⟨some 51,none,(.buildSlice 1 1 [(.int .i64 0)] [(0,1,(.tmp 50))])⟩,⟨some 52,none,(.call (.func 67) [(.tmp 49),(.const (.int .u8 5)),(.tmp 51)])⟩,oM 48 52]) (oJ 48 (oR [oM 53 0,⟨some 54,none,(.nilCheck (.tmp 53))⟩,oF 0 55 54,oF 0 56 55,oL 57 56,oM 58 9,oI 4 59 57 58,oF 1 60 59,oL 61 60,oM 10 61]) .skip))))))) (oV (oR [oM 62 10,oC .neq 63 62 (-1),oM 64 63,oG 64 (oM 65 0),oG 64 (oM 66 2),oG 64 (o2 67 199 65 66),oG 64 (oM 68 10),oG 64 (oB .eql 69 67 68),oP 70 64 69,oM 8 70]) .ret))))
theorem zHi (h:AHeap) (a t n:Int) (M:FnM h g vt vf T F f ks ps rs) (hc:ZR T=0) (ha:InT T a) (ht:InT T t) (hn:0<=n):
  WC Tryz.prog tb 200 [.pointer (some ⟨g,0,none⟩),I a,I t,I n] h fun r h'=>r= .bool (zKQ T a t n)/\Ext h h':=by
 unfold zKQ;refine en 71 [(8,none)] zR3 ?_;refine WO.con (zAH h a M ha) ?_;rintro _ h1 ⟨rfl,e1⟩;have hs:=zI6 hc ha;have hpn:=zL5 hc hs hn;generalize toT T a=s at *;have M1:=M.ext e1;have htt:=zI6 hc ht;by_cases hs1:s= -1
 ·have hp:zAD T s n= -1:=by unfold zAD;rw[QI hs1]
  rw[hp];refine gr ?_;exact⟨rfl,e1⟩
 have hin:∀ x∈[s],InT T x:=fun x hx=>by rw[QQ.1 hx];exact hs
 obtain⟨s0,sL⟩:=hs.resolve_left hs1;refine go ?_;refine WO.bl [s] ?_;intro v2 h2 e2 o2;have M2:=M1.ext e2;refine go ?_;refine WO.con (yq h2 4 v2 [s] M2 o2.sl (by simp) hin) ?_;rintro _ h3 ⟨rfl,e3⟩;rw[yr];have M3:=M2.ext e3;have e03:=e1.trans (e2.trans e3);obtain⟨⟨hB,vk,vp,vr,o,ka,kb,kc⟩,st,sf,hm⟩:=id M3;obtain⟨cs,⟨va,rfl,sa,hla⟩,pc,hsl⟩:=YI (i:=s.toNat) st (by omega);have other:isT T 4 s=false\/¬n<((T.getD s.toNat default).parts.length:Int)->zAD T s n=if isT T 5 s then (T.getD s.toNat default).elem else -1:=fun h=>by
  unfold zAD;rw[QD hs1,QD];rcases h with h|h
  ·rw[h];simp
  ·rw[QT h];simp
 cases c4:isT T 4 s with
 |true=>
  by_cases hlt:n<((T.getD s.toNat default).parts.length:Int)
  ·have hp:zAD T s n=(T.getD s.toNat default).parts.getD n.toNat 0:=by unfold zAD;rw[QD hs1,c4,QZ hlt];rfl
   rw[hp]at hpn |-;have hlt2:n.toNat<(T.getD s.toNat default).parts.length:=by omega
   obtain⟨pp,hpp⟩:∃ pp,(T.getD s.toNat default).parts.getD n.toNat 0=pp:=⟨_,rfl⟩;rw[hpp]at hpn |-;by_cases hp1:pp= -1
   ·rw[hp1];refine gr ?_;exact⟨rfl,e03⟩
   have hd:decide (pp≠ -1)=true:=QZ hp1;rw[hd];refine go ?_;refine WO.con (zAH h3 t M3 ht) ?_;rintro _ h9 ⟨rfl,e9⟩;refine gr ?_;exact⟨by rw[Qe,<-hpp];rfl,e03.trans e9⟩
  ·have hp:=other (.inr hlt);refine go ?_;refine WO.bl [s] ?_;intro v4 h4 e4 o4;have M4:=M3.ext e4;refine go ?_;refine WO.con (yq h4 5 v4 [s] M4 o4.sl (by simp) hin) ?_;rintro _ h5 ⟨rfl,e5⟩;rw[yr];have M5:=M4.ext e5;have e05:=e03.trans (e4.trans e5);rw[hp]at hpn |-;cases c5:isT T 5 s with
   |false=>
    refine gr ?_;exact⟨rfl,e05⟩
   |true=>
    rw[c5,QI rfl]at hpn;obtain⟨⟨hB',vk',vp',vr',o',ka',kb',kc'⟩,st',sf',hm'⟩:=id M5;obtain⟨cs',⟨va',rfl,sa',hla'⟩,pc',hsl'⟩:=YI (i:=s.toNat) st' (by omega);obtain⟨pp,hpp⟩:∃ pp,(T.getD s.toNat default).elem=pp:=⟨_,rfl⟩;rw[QI rfl];rw[hpp]at hpn |- pc';by_cases hp1:pp= -1
    ·rw[hp1];refine gr ?_;exact⟨rfl,e05⟩
    have hd:decide (pp≠ -1)=true:=QZ hp1;rw[hd];refine go ?_;refine WO.con (zAH h5 t M5 ht) ?_;rintro _ h9 ⟨rfl,e9⟩;refine gr ?_;exact⟨by rw[Qe,show decide (toT T t=pp)=(toT T t == pp) from rfl];rfl,(e05).trans e9⟩
 |false=>
  have hp:=other (.inl c4);refine go ?_;refine WO.bl [s] ?_;intro v4 h4 e4 o4;have M4:=M3.ext e4;refine go ?_;refine WO.con (yq h4 5 v4 [s] M4 o4.sl (by simp) hin) ?_;rintro _ h5 ⟨rfl,e5⟩;rw[yr];have M5:=M4.ext e5;have e05:=e03.trans (e4.trans e5);rw[hp]at hpn |-;cases c5:isT T 5 s with
  |false=>
   refine gr ?_;exact⟨rfl,e05⟩
  |true=>
   rw[c5,QI rfl]at hpn;obtain⟨⟨hB',vk',vp',vr',o',ka',kb',kc'⟩,st',sf',hm'⟩:=id M5;obtain⟨cs',⟨va',rfl,sa',hla'⟩,pc',hsl'⟩:=YI (i:=s.toNat) st' (by omega);obtain⟨pp,hpp⟩:∃ pp,(T.getD s.toNat default).elem=pp:=⟨_,rfl⟩;rw[QI rfl];rw[hpp]at hpn |- pc';by_cases hp1:pp= -1
   ·rw[hp1];refine gr ?_;exact⟨rfl,e05⟩
   have hd:decide (pp≠ -1)=true:=QZ hp1;rw[hd];refine go ?_;refine WO.con (zAH h5 t M5 ht) ?_;rintro _ h9 ⟨rfl,e9⟩;refine gr ?_;exact⟨by rw[Qe,show decide (toT T t=pp)=(toT T t == pp) from rfl];rfl,(e05).trans e9⟩
end
set_option maxRecDepth 100000
theorem zJt {k g:Nat} {hS X X':AHeap} {ob:AObj} (eX:Ext (inC (zC k hS)) X) (hn:X'.n=X.n) (hg:∀ j,X'.get j=if j=g then some ob else X.get j) (h1:hS.n<=g) (h2:g<X.n):Ext hS {X' with mark:=hS.mark,wr:=hS.wr}:=by
 have n1:=eX.n;have n1:hS.n+k<=X.n:=n1;refine⟨by show hS.n<=X'.n;omega,fun j hj=> ?_,fun w j hj=> ?_,rfl,fun _=>rfl⟩
 ·show X'.get j=_;rw[hg,QD (by omega)];exact eX.get j (QG hj (JB _ _))
 ·have hj:X'.n<=j:=hj;show X'.get j=_;rw[hg,QD (by omega)];exact eX.wf (fun i hi=>w i (Nat.le_of_add_right_le hi)) j (by omega)
theorem zDr {g:Nat} {hS X X':AHeap} {ob:AObj} (e:Ext hS (zc hS X)) (hn:X'.n=X.n) (hg:∀ j,X'.get j=if j=g then some ob else X.get j) (h1:hS.n<=g) (h2:g<X.n):Ext hS (zc hS X'):=by
 have n1:hS.n<=X.n:=e.n;refine⟨by show hS.n<=X'.n;omega,fun j hj=> ?_,fun w j hj=> ?_,rfl,fun _=>rfl⟩
 ·show X'.get j=_;rw[hg,QD (by omega)];exact e.get j hj
 ·have hj:X'.n<=j:=hj;show X'.get j=_;rw[hg,QD (by omega)];exact e.wf w j (by show X.n<=j;omega)
theorem zBw {P:Program} {tab:Tab} {m N0 g:Nat} {o:AOper} {l:List (AOper×List Nat)} {x:AOper×List Nat} {fr:AFr} {h h':AHeap} {Q:AFr->AHeap->Prop} {t:Trie Value} (e:Ext (inC h) h') (hx:WU2 P tab m N0 (x::l) g false fr (inC h') Q):uK2 P tab m N0 [] t o (inC h) (x::l) g false Q fr h':=by
 have hw:=e.wrnil;exact⟨⟨fun g hg=>(by rw[hw]at hg;cases hg),e.n,.inl rfl⟩,hx⟩
theorem OwnC.io {h0 h X:AHeap} {p:Value} {cs:List Value} (o:OwnC h0 (zc h X) p cs):OwnC h0 (inC X) p cs:=o
theorem OwnC.ia {h0 X:AHeap} {p:Value} {cs:List Value} (o:OwnC h0 X p cs):OwnC h0 (inC X) p cs:=o
theorem SlI.io {h X:AHeap} {p:Value} {cs:List Int} (o:SlI (zc h X) p cs):SlI (inC X) p cs:=o
theorem SlI.ia {X:AHeap} {p:Value} {cs:List Int} (o:SlI X p cs):SlI (inC X) p cs:=o
theorem ZD {h X Y:AHeap} (e:Ext (inC X) Y):Ext (zc h X) (zc h Y):=by
 have h1:(zc h X).n=X.n:=rfl;refine⟨e.n,e.get,fun w=>e.wf w,rfl,fun _=>rfl⟩
section
variable {vt vf:Value} {T:List LType} {F:List LFn} {f:Int} {ks:List Int} {ps:List (Int×Int)} {rs:List Int} {g:Nat}
theorem FnM.inC' {h:AHeap} {m:Nat} {w:List Nat} (M:FnM {h with mark:=m,wr:=w} g vt vf T F f ks ps rs):FnM (inC h) g vt vf T F f ks ps rs:=⟨M.own,M.st,M.sf,QF _⟩
theorem FnM.inC {h:AHeap} (M:FnM h g vt vf T F f ks ps rs):FnM (inC h) g vt vf T F f ks ps rs:=⟨M.own,M.st,M.sf,QF _⟩
theorem FnM.aside {h:AHeap} (k:Nat) (M:FnM h g vt vf T F f ks ps rs):FnM (Am.inC (zC k h)) g vt vf T F f ks ps rs:=(M.ext (zq k h)).inC
theorem FnM.made {k g':Nat} {hS X X':AHeap} {ob:AObj} (M:FnM hS g vt vf T F f ks ps rs) (eX:Ext (Am.inC (zC k hS)) X) (hn:X'.n=X.n) (hg:∀ j,X'.get j=if j=g' then some ob else X.get j) (h1:hS.n<=g') (h2:g'<X.n):FnM (Am.inC X') g vt vf T F f ks ps rs:=FnM.inC' (M.ext (zJt eX hn hg h1 h2))
theorem zCj {X':AHeap} {g':Nat} {xs:List Int} (h:X'.get g'=some (.row (xs.map I) true 0)) (h2:g'<X'.n):SlI (Am.inC X') (.slice (some ⟨g',0,none⟩) xs.length 1) xs:=SlI.own h2 h
theorem zJw {l:List Int} (h:∀ t∈l,InT T t) {i:Nat} (hi:i<l.length):InT T (l.getD i 0):=h _ (yS hi)
def zRe:ACode:=(oV (oR [oX 4 1,oZ 6]) (oV (oV (oR [oF 0 7 4,oL 8 7]) (o5 0 (oV (oR [oD .eql 10 8 14,oM 9 10]) (oJ 9 (oV (o6 [oM 11 0,oM 12 0,oM 13 2,(⟨some 14,none,(.idx 1 (.tmp 13) (.const (.int .i64 0)))⟩,[]),oL 15 14,o2 16 199 12 15,(⟨some 17,none,(.buildSlice 1 1 [(.int .i64 0)] [(0,1,(.tmp 16))])⟩,[]),(⟨some 18,none,(.call (.func 67) [(.tmp 11),(.const (.int .u8 4)),(.tmp 17)])⟩,[]),oM 19 18,oG 19 (oM 20 0),oG 19 (oM 21 2),(⟨some 22,some (19,true),(.idx 1 (.tmp 21) (.const (.int .i64 0)))⟩,[]),oG 19 (oL 23 22),oG 19 (oF 1 24 4),oG 19 (oL 25 24),oG 19 (oF 4 26 4),oG 19 (oL 27 26),oG 19 (o4 28 200 20 23 25 27),oP 29 19 28,oM 6 29]) .ret) (oV (oR [oD .eql 31 8 15,oM 30 31]) (oJ 30 (oV (o6 [oM 32 0,oM 33 0,oM 34 2,(⟨some 35,none,(.idx 1 (.tmp 34) (.const (.int .i64 0)))⟩,[]),oL 36 35,o2 37 199 33 36,(⟨some 38,none,(.buildSlice 1 1 [(.int .i64 0)] [(0,1,(.tmp 37))])⟩,[]),(⟨some 39,none,(.call (.func 67) [(.tmp 32),(.const (.int .u8 5)),(.tmp 38)])⟩,[]),oM 40 39,oG 40 (oM 41 0),oG 40 (oM 42 2),(⟨some 43,some (40,true),(.idx 1 (.tmp 42) (.const (.int .i64 1)))⟩,[]),oG 40 (oL 44 43),(⟨some 45,some (40,true),(.buildSlice 1 1 [(.int .i64 0)] [(0,1,(.tmp 44))])⟩,[]),(⟨some 46,some (40,true),(.call (.func 67) [(.tmp 41),(.const (.int .u8 1)),(.tmp 45)])⟩,[]),oP 47 40 46,oM 48 47,oG 48 (oM 49 0),oG 48 (oM 50 2),(⟨some 51,some (48,true),(.idx 1 (.tmp 50) (.const (.int .i64 0)))⟩,[]),oG 48 (oL 52 51),oG 48 (oF 1 53 4),oG 48 (oL 54 53),(⟨some 55,some (48,true),(.call (.func 200) [(.tmp 49),(.tmp 52),(.tmp 54),(.const (.int .i64 0))])⟩,[]),oP 56 48 55,oM 6 56]) .ret) (oV (oR [oD .eql 58 8 16,oM 57 58]) (oJ 57 (oV (o6 [oM 59 0,oM 60 0,oM 61 2,(⟨some 62,none,(.idx 1 (.tmp 61) (.const (.int .i64 0)))⟩,[]),oL 63 62,o2 64 199 60 63,o2 65 166 59 64,oM 66 65,oG 66 (oF 1 67 4),oG 66 (oL 68 67),oG 66 (oM 69 0),oG 66 (oM 70 2),(⟨some 71,some (66,true),(.idx 1 (.tmp 70) (.const (.int .i64 0)))⟩,[]),oG 66 (oL 72 71),(oG 66 (o2 73 199 69 72),[9]),oG 66 (oB .eql 74 68 73),oP 75 66 74,oM 6 75]) .ret) .skip)))))))) (oV (o6 [oM 76 0,oM 77 0,oM 78 2,(⟨some 79,none,(.idx 1 (.tmp 78) (.const (.int .i64 0)))⟩,[]),oL 80 79,o2 81 199 77 80,o2 82 166 76 81,oM 83 82,oG 83 (oM 84 2),(⟨some 85,some (83,true),(.idx 1 (.tmp 84) (.const (.int .i64 1)))⟩,[]),oG 83 (oL 86 85),oG 83 (oM 87 0),oG 83 (oM 88 2),(⟨some 89,some (83,true),(.idx 1 (.tmp 88) (.const (.int .i64 0)))⟩,[]),oG 83 (oL 90 89),(oG 83 (o2 91 199 87 90),[10]),oG 83 (oB .eql 92 86 91),oP 93 83 92,oM 6 93]) .ret)))
theorem zJu (h:AHeap) (x:LIns) (cs:List Value) (v:Value) (l:List Int) (M:FnM h g vt vf T F f ks ps rs) (hc:ZR T=0) (hR:RIns h cs x) (s:SlI h v l) (hl:l.length<=1000) (hin:∀ t∈l,InT T t) (hty:InT T x.ty) (hop:x.op=14\/x.op=15\/x.op=16\/x.op=17) (hn:x.op=14->0<=x.n) (h1:1<=l.length) (h2:x.op=15\/x.op=17->2<=l.length):
  WC Tryz.prog tb 164 [.pointer (some ⟨g,0,none⟩),.agg cs.toArray,v] h fun r h'=>r= .bool (zSi T x l)/\Ext h h':=by
 obtain⟨xa,xf,rfl,sxa,sxf,hla,hlf,ho⟩:=hR;obtain⟨a1,a2,a3,rfl⟩:=SlC.shape sxa;obtain⟨f1,f2,f3,rfl⟩:=SlC.shape sxf;obtain⟨b1,b2,b3,rfl⟩:=SlC.shape s;have ht0:=zJw hin (show 0<l.length by omega);have hs0:=zI6 hc ht0;have hin0:∀ y∈[toT T (l.getD 0 0)],InT T y:=fun y hy=>by rw[QQ.1 hy];exact hs0
 refine en 94 [(6,none)] zRe ?_;refine WO.bx ?_;intro p h3 e3 o3;have M3:=M.ext e3;have s3:=s.ext e3;unfold zSi;by_cases c14:x.op=14
 ·rw[QI c14];refine go ?_;refine WX.regionU2 1 rfl rfl ?_;have ea:=zq 1 h3;have sX:=SlI.ia (s3.ext ea);refine goU ?_;refine WO.con (zAH _ _ (M3.aside 1) ht0) ?_;rintro _ X4 ⟨rfl,e4⟩;refine nE e4 ?_;have hlt:h3.n<X4.n:=e4.n;refine goU ?_;refine WU2.mkBl [toT T (l.getD 0 0)] M3.hm ?_;intro X5 n5 g5;have e5:Ext h3 (zc h3 X5):=zJt e4 n5 g5 (QF _) hlt;have sv5:=zCj (xs:=[toT T (l.getD 0 0)]) (by rw[g5,QI rfl]) (by omega:h3.n<X5.n);refine goU ?_;refine WO.con (yq _ 4 _ [toT T (l.getD 0 0)] (M3.made e4 n5 g5 (QF _) hlt) sv5 (by simp) hin0) ?_;rintro _ X6 ⟨rfl,e6⟩;rw[yr];have e6':=e5.trans (ZD (h:=h3) e6);refine WO.nil ?_;refine zBw e6 ?_;cases c4:isT T 4 (toT T (l.getD 0 0))with
  |false=>
   refine gUr ?_;exact⟨rfl,e3.trans e6'⟩
  |true=>
   have s6:=SlI.io (s3.ext e6');have o6:=OwnC.io (o3.ext e6');refine goU ?_;refine WO.con (zHi _ _ _ _ (FnM.inC' (M3.ext e6')) hc ht0 hty (hn c14)) ?_;rintro _ X7 ⟨rfl,e7⟩;refine WO.nil ?_;refine zBw e7 ?_;have e7':=e6'.trans (ZD (h:=h3) e7);refine gUr ?_;exact⟨rfl,e3.trans e7'⟩
 rw[QD c14];refine go ?_;by_cases c15:x.op=15
 ·have h2:=h2 (.inl c15);have ht1:=zJw hin (show 1<l.length by omega);have hin1:∀ y∈[l.getD 1 0],InT T y:=fun y hy=>by rw[QQ.1 hy];exact ht1
  rw[QI c15];refine go ?_;refine WX.regionU2 2 rfl rfl ?_;have ea:=zq 2 h3;have sX:=SlI.ia (s3.ext ea);refine goU ?_;refine WO.con (zAH _ _ (M3.aside 2) ht0) ?_;rintro _ X4 ⟨rfl,e4⟩;refine nE e4 ?_;have hlt:h3.n+1<X4.n:=e4.n;refine goU ?_;refine WU2.mkBl [toT T (l.getD 0 0)] M3.hm ?_;intro X5 n5 g5;have e5:Ext h3 (zc h3 X5):=zJt e4 n5 g5 (QF _) (by omega);have sv5:=zCj (xs:=[toT T (l.getD 0 0)]) (by rw[g5,QI rfl]) (by omega:h3.n<X5.n);refine goU ?_;refine WO.con (yq _ 5 _ [toT T (l.getD 0 0)] (M3.made e4 n5 g5 (QF _) (by omega)) sv5 (by simp) hin0) ?_;rintro _ X6 ⟨rfl,e6⟩;rw[yr];have e6':=e5.trans (ZD (h:=h3) e6);refine WO.nil ?_;refine zBw e6 ?_;cases c5:isT T 5 (toT T (l.getD 0 0))with
  |false=>
   refine goU ?_;refine WU2.no ?_;refine gUr ?_;exact⟨rfl,e3.trans e6'⟩
  |true=>
   have s6:=SlI.io (s3.ext e6');have n6:X5.n<=X6.n:=e6.n;refine goU ?_;refine WU2.mkBl [l.getD 1 0] (by have:=M3.hm;omega) ?_;intro X7 n7 g7;have e7':=zDr e6' n7 g7 (by omega) (by omega);have sv7:=zCj (xs:=[l.getD 1 0]) (by rw[g7,QI rfl]) (by omega:h3.n+1<X7.n);refine goU ?_;refine WO.con (yq _ 1 _ [l.getD 1 0] (FnM.inC' (M3.ext e7')) sv7 (by simp) hin1) ?_;rintro _ X8 ⟨rfl,e8⟩;rw[yr];have e8':=e7'.trans (ZD (h:=h3) e8);refine WO.nil ?_;refine zBw e8 ?_;cases c1:isT T 1 (l.getD 1 0)with
   |false=>
    refine gUr ?_;exact⟨rfl,e3.trans e8'⟩
   |true=>
    have s8:=SlI.io (s3.ext e8');have o8:=OwnC.io (o3.ext e8');refine goU ?_;rw[show Value.int .i64 0=I 0 from rfl];refine WO.con (zHi _ _ _ _ (FnM.inC' (M3.ext e8')) hc ht0 hty (Qi 0)) ?_;rintro _ X9 ⟨rfl,e9⟩;have e9':=e8'.trans (ZD (h:=h3) e9);refine WO.nil ?_;refine zBw e9 ?_;refine gUr ?_;exact⟨rfl,e3.trans e9'⟩
 rw[QD c15];refine go ?_;by_cases c16:x.op=16
 ·rw[QI c16];refine go ?_;refine WX.regionU2 0 rfl rfl ?_;have ea:=zq 0 h3;have sX:=SlI.ia (s3.ext ea);refine goU ?_;refine WO.con (zAH _ _ (M3.aside 0) ht0) ?_;rintro _ X4 ⟨rfl,e4⟩;refine nE e4 ?_;refine goU ?_;have e4':=ea.trans (ZD (h:=h3) e4);refine WO.con (zBz _ _ (FnM.inC' (M3.ext e4')) hs0) ?_;rintro _ X5 ⟨rfl,e5⟩;refine nE e5 ?_;have e5':=e4'.trans (ZD e5);cases c6:zIw T (toT T (l.getD 0 0))with
  |false=>
   refine goU ?_;refine zCK (fun g hg=>by cases hg) ?_;refine gUr ?_;exact⟨rfl,e3.trans e5'⟩
  |true=>
   have s5:=SlI.io (s3.ext e5');have o5:=OwnC.io (o3.ext e5');refine goU ?_;refine WO.con (zAH _ _ (FnM.inC' (M3.ext e5')) ht0) ?_;rintro _ X6 ⟨rfl,e6⟩;refine nE e6 ?_;have e6':=e5'.trans (ZD e6);refine gUr ?_;exact⟨rfl,e3.trans e6'⟩
 ·rw[QD c16];have h2:=h2 (.inr (by omega));refine go ?_;refine WX.regionU2 0 rfl rfl ?_;have ea:=zq 0 h3;have sX:=SlI.ia (s3.ext ea);refine goU ?_;refine WO.con (zAH _ _ (M3.aside 0) ht0) ?_;rintro _ X4 ⟨rfl,e4⟩;refine nE e4 ?_;refine goU ?_;have e4':=ea.trans (ZD (h:=h3) e4);refine WO.con (zBz _ _ (FnM.inC' (M3.ext e4')) hs0) ?_;rintro _ X5 ⟨rfl,e5⟩;refine nE e5 ?_;have e5':=e4'.trans (ZD e5);cases c6:zIw T (toT T (l.getD 0 0))with
  |false=>
   refine goU ?_;refine zCK (fun g hg=>by cases hg) ?_;refine gUr ?_;exact⟨rfl,e3.trans e5'⟩
  |true=>
   have s5:=SlI.io (s3.ext e5');refine goU ?_;refine WO.con (zAH _ _ (FnM.inC' (M3.ext e5')) ht0) ?_;rintro _ X6 ⟨rfl,e6⟩;refine nE e6 ?_;have e6':=e5'.trans (ZD e6);refine gUr ?_;exact⟨rfl,e3.trans e6'⟩
end
set_option maxRecDepth 100000
def zQp:ACode:=(oV (oR [oZ 3]) (oV (oR [oM 4 0,oF 1 5 1,oL 6 5,oB .neq 7 4 6,oM 3 7]) .ret))
theorem zJy (h h0:AHeap) (p u:Value) (c:List Value) (t ty:Int) (o:OwnC h0 h p (u::I ty::c)):WC Tryz.prog tb 167 [I t,p] h fun r h'=>r= .bool (!decide (t=ty))/\h=h':=by
 refine en 8 [(3,none)] zQp ?_;refine rt ?_;exact⟨by simp[one],rfl⟩
theorem zN8 {i:Nat} {h:AHeap} {v:Value} {l:List Int} (s:SlI h v l) (hl:0<l.length) (hi:i<=l.length):∃ r,ZL 1 v (some i) none none=some r/\SlI h r (l.drop i):=by
 obtain⟨h1,⟨h2,_⟩|⟨g,off,row,rfl,h3,h4,h5⟩⟩:=s
 ·omega
 have hlen:(l.drop i).length=l.length - i:=GO ..;refine⟨.slice (some ⟨g,off+i,none⟩) (l.length - i) 1,?_,by simp,.inr ⟨g,off+i,row,by rw[hlen],h3,?_,h5⟩⟩
 ·have b1:Nat.ble i l.length=true:=QH hi;have b2:Nat.ble l.length l.length=true:=QH (QF _);simp only[ZL,Gn,Q7,b1,b2,Qs,Qu,cond_true,Ge,G9]
 ·obtain⟨c1,c2⟩:=zC7 h4;rw[yo (by rw[hlen];omega),List.map_drop,c2,List.drop_take,JA,hlen];congr 2;omega
section
variable {vt vf:Value} {T:List LType} {F:List LFn} {f:Int} {ks:List Int} {ps:List (Int×Int)} {rs:List Int} {g:Nat}
def zQa:ACode:=(oV (oR [oX 4 1,oZ 6]) (oV (oV (oR [oF 0 7 4,oL 8 7]) (o5 0 (oV (oR [oD .eql 10 8 2,oM 9 10]) (oJ 9 (oV (oR [oM 11 0,oF 1 12 4,oL 13 12,⟨some 14,none,(.buildSlice 1 1 [(.int .i64 0)] [(0,1,(.tmp 13))])⟩,⟨some 15,none,(.call (.func 67) [(.tmp 11),(.const (.int .u8 2)),(.tmp 14)])⟩,oM 16 15,oH 16 (oM 17 0),oH 16 (oF 1 18 4),oH 16 (oL 19 18),⟨some 20,some (16,false),(.buildSlice 1 1 [(.int .i64 0)] [(0,1,(.tmp 19))])⟩,⟨some 21,some (16,false),(.call (.func 67) [(.tmp 17),(.const (.int .u8 3)),(.tmp 20)])⟩,oO 22 16 21,oM 6 22]) .ret) (oV (oR [oD .eql 24 8 3,oM 23 24]) (oJ 23 (oV (o6 [oF 1 25 4,oL 26 25,oM 27 0,(⟨some 28,none,(.nilCheck (.tmp 27))⟩,[]),oF 0 29 28,oF 1 30 29,oL 31 30,oF 4 32 4,oL 33 32,oI 2 34 31 33,oF 0 35 34,oL 36 35,oB .eql 37 26 36,oM 6 37]) .ret) (oV (oR [oD .eql 39 8 10,oM 38 39]) (oJ 38 (oV (o6 [oM 40 0,oM 41 2,(⟨some 42,none,(.call (.func 67) [(.tmp 40),(.const (.int .u8 2)),(.tmp 41)])⟩,[]),oM 43 42,oG 43 (oM 44 2),(⟨some 45,some (43,true),(.idx 1 (.tmp 44) (.const (.int .i64 0)))⟩,[]),oG 43 (oL 46 45),oG 43 (oM 47 2),(⟨some 48,some (43,true),(.idx 1 (.tmp 47) (.const (.int .i64 1)))⟩,[]),oG 43 (oL 49 48),oG 43 (oB .eql 50 46 49),oP 51 43 50,oM 52 51,oG 52 (oM 53 0),oG 52 (oF 1 54 4),oG 52 (oL 55 54),(⟨some 56,some (52,true),(.buildSlice 1 1 [(.int .i64 0)] [(0,1,(.tmp 55))])⟩,[]),(⟨some 57,some (52,true),(.call (.func 67) [(.tmp 53),(.const (.int .u8 1)),(.tmp 56)])⟩,[]),oP 58 52 57,oM 6 58]) .ret) (oV (oV (oR [oD .eql 60 8 11,oM 59 60]) (oJ 59 .skip (oR [oD .eql 61 8 12,oM 59 61]))) (oJ 59 (oV (oR [oM 62 0,oF 1 63 4,oL 64 63,⟨some 65,none,(.buildSlice 1 1 [(.int .i64 0)] [(0,1,(.tmp 64))])⟩,⟨some 66,none,(.call (.func 67) [(.tmp 62),(.const (.int .u8 2)),(.tmp 65)])⟩,oM 6 66]) .ret) (oV (oR [oD .eql 68 8 13,oM 67 68]) (oJ 67 (oV (oR [oM 69 0,oM 70 2,⟨some 71,none,(.call (.func 67) [(.tmp 69),(.const (.int .u8 2)),(.tmp 70)])⟩,oM 6 71]) .ret) (oV (oV (oR [oD .eql 73 8 14,oM 72 73]) (oJ 72 .skip (oV (oR [oD .eql 74 8 15,oM 72 74]) (oJ 72 .skip (oV (oR [oD .eql 75 8 16,oM 72 75]) (oJ 72 .skip (oR [oD .eql 76 8 17,oM 72 76]))))))) (oJ 72 (oV (oR [oM 77 0,oA 7 78 4,oM 79 2,o3 80 164 77 78 79,oM 6 80]) .ret) (oV (oR [oD .eql 82 8 18,oM 81 82]) (oJ 81 (oV (o6 [oM 83 0,oM 84 0,(⟨some 85,none,(.nilCheck (.tmp 84))⟩,[]),oF 0 86 85,oF 1 87 86,oL 88 87,oF 4 89 4,oL 90 89,oI 2 91 88 90,oF 0 92 91,oL 93 92,oM 94 2,oF 1 95 4,oL 96 95,o4 97 165 83 93 94 96,oM 6 97]) .ret) (oV (oR [oD .eql 99 8 19,oM 98 99]) (oJ 98 (oV (o6 [oM 100 0,oM 101 2,(⟨some 102,none,(.idx 1 (.tmp 101) (.const (.int .i64 0)))⟩,[]),oL 103 102,oM 104 2,(⟨some 105,none,(.slice 1 (.tmp 104) (some (.const (.int .i64 1))) none none)⟩,[]),oF 1 106 4,oL 107 106,o4 108 165 100 103 105 107,oM 6 108]) .ret) (oV (oR [oD .eql 110 8 22,oM 109 110]) (oJ 109 (oV (oR [oM 111 0,oF 1 112 4,oL 113 112,o2 114 166 111 113,oM 115 114,oG 115 (oM 116 2),⟨some 117,some (115,true),(.mkFunc (.func 167) [] [(.tmp 4)])⟩,oG 115 (o2 118 109 116 117),oG 115 (oW 119 118),oP 120 115 119,oM 6 120]) .ret) (oV (oR [oD .eql 122 8 21,oM 121 122]) (oJ 121 (oV (oR [oM 123 0,oM 124 2,⟨some 125,none,(.call (.func 67) [(.tmp 123),(.const (.int .u8 1)),(.tmp 124)])⟩,oM 6 125]) .ret) .skip)))))))))))))))))))))) (oV (oR [oM 126 0,oM 127 2,⟨some 128,none,(.call (.func 67) [(.tmp 126),(.const (.int .u8 1)),(.tmp 127)])⟩,oM 129 128,oG 129 (oM 130 0),oG 129 (oF 1 131 4),oG 129 (oL 132 131),⟨some 133,some (129,true),(.buildSlice 1 1 [(.int .i64 0)] [(0,1,(.tmp 132))])⟩,⟨some 134,some (129,true),(.call (.func 67) [(.tmp 130),(.const (.int .u8 1)),(.tmp 133)])⟩,oP 135 129 134,oM 6 135]) .ret)))
theorem zNJ (h:AHeap) (x:LIns) (cs:List Value) (v:Value) (l:List Int) (M:FnM h g vt vf T F f ks ps rs) (hc:ZR T=0) (hR:RIns h cs x) (s:SlI h v l) (hl:l.length<=1000) (hin:∀ t∈l,InT T t) (hty:InT T x.ty)
  (hF:∀ f∈F,InT T f.sig) (hn:x.op=14->0<=x.n) (hn2:x.op=3\/x.op=18->0<=x.n/\x.n<(F.length:Int)) (h1:(x.op=14\/x.op=15\/x.op=16\/x.op=17\/x.op=19)->1<=l.length) (h2:x.op=15\/x.op=17\/x.op=10->2<=l.length):
  WC Tryz.prog tb 113 [.pointer (some ⟨g,0,none⟩),.agg cs.toArray,v] h fun r h'=>r= .bool (zGc T F x l)/\Ext h h':=by
 obtain⟨xa,xf,rfl,sxa,sxf,hla,hlf,ho⟩:=id hR;obtain⟨a1,a2,a3,rfl⟩:=SlC.shape sxa;obtain⟨f1,f2,f3,rfl⟩:=SlC.shape sxf;obtain⟨b1,b2,b3,rfl⟩:=SlC.shape s;have hiny:∀ y∈[x.ty],InT T y:=fun y hy=>by rw[QQ.1 hy];exact hty
 refine en 136 [(6,none)] zQa ?_;refine WO.bx ?_;intro p h3 e3 o3;have M3:=M.ext e3;have s3:=s.ext e3;have ea:=zq 0 h3;have sX:=SlI.ia (s3.ext ea);have oX:=OwnC.ia (o3.ext ea);unfold zGc;by_cases c2:x.op=2
 ·rw[QI c2];refine go ?_;refine WO.bl [x.ty] ?_;intro v4 h4 e4 o4;have M4:=M3.ext e4;have o34:=o3.ext e4;refine go ?_;refine WO.con (yq h4 2 v4 [x.ty] M4 o4.sl (by simp) hiny) ?_;rintro _ h5 ⟨rfl,e5⟩;rw[yr];have e35:=e3.trans (e4.trans e5);cases k2:isT T 2 x.ty with
  |true=>
   refine gr ?_;exact⟨rfl,e35⟩
  |false=>
   have M5:=M4.ext e5;have o35:=o34.ext e5;refine go ?_;refine WO.bl [x.ty] ?_;intro v6 h6 e6 o6;have M6:=M5.ext e6;refine go ?_;refine WO.con (yq h6 3 v6 [x.ty] M6 o6.sl (by simp) hiny) ?_;rintro _ h7 ⟨rfl,e7⟩;rw[yr];refine gr ?_;exact⟨rfl,e35.trans (e6.trans e7)⟩
 rw[QD c2];refine go ?_;by_cases c3:x.op=3
 ·rw[QI c3];refine go ?_;obtain⟨⟨hB,vk,vp,vr,o,a,b,c⟩,st,sf,hm⟩:=M3;obtain⟨n0,n1⟩:=hn2 (.inl c3);obtain⟨cs,⟨vb,rfl,sb,hlb⟩,pc,hsl⟩:=yB (i:=x.n.toNat) sf (by omega);have pc1:=(pc h3 (Ext.refl _)).1;refine gr ?_;exact⟨rfl,e3⟩
 rw[QD c3];refine go ?_;by_cases c10:x.op=10
 ·rw[QI c10];have hl2:=h2 (.inr (.inr c10));refine go ?_;refine WX.regionU2 1 rfl rfl ?_;have ea1:=zq 1 h3;have sX1:=SlI.ia (s3.ext ea1);refine goU ?_;refine WO.con (yq _ 2 _ l (M3.aside 1) sX1 hl hin) ?_;rintro _ X4 ⟨rfl,e4⟩;refine nE e4 ?_;have hlt:h3.n<X4.n:=e4.n;have e4':=ea1.trans (ZD (h:=h3) e4);have o4:=OwnC.io (o3.ext e4');have s4:=SlI.io (s3.ext e4');cases k2:isL T 2 l with
  |false=>
   refine goU ?_;refine WU2.no ?_;refine gUr ?_;exact⟨rfl,e3.trans e4'⟩
  |true=>
   cases k3:decide (l.getD 0 0=l.getD 1 0)with
   |false=>
    refine goU ?_;rw[k3];refine WU2.no ?_;refine gUr ?_;exact⟨rfl,e3.trans e4'⟩
   |true=>
   refine goU ?_;rw[k3];refine WU2.mkBl [x.ty] M3.hm ?_;intro X5 n5 g5;have e5':=zDr e4' n5 g5 (QF _) hlt;have sv5:=zCj (xs:=[x.ty]) (by rw[g5,QI rfl]) (by omega:h3.n<X5.n);refine goU ?_;refine WO.con (yq _ 1 _ [x.ty] (FnM.inC' (M3.ext e5')) sv5 (by simp) hiny) ?_;rintro _ X6 ⟨rfl,e6⟩;rw[yr];have e6':=e5'.trans (ZD (h:=h3) e6);refine WO.nil ?_;refine zBw e6 ?_;refine gUr ?_;exact⟨rfl,e3.trans e6'⟩
 rw[QD c10];by_cases c11:x.op=11\/x.op=12
 ·rw[QI c11];have fin:∀ (w:Value) (h4:AHeap) (e4:Ext h3 h4),OwnI h3 h4 w [x.ty]->WC Tryz.prog tb 67 [.pointer (some ⟨g,0,none⟩),.int .u8 2,w] h4 fun r h'=>r= .bool (isT T 2 x.ty)/\Ext h h':=fun w h4 e4 o4=>WC.mono (yq h4 2 w [x.ty] (M3.ext e4) o4.sl (by simp) hiny) fun r h5 ⟨hr,e5⟩=>⟨by rw[hr,yr],e3.trans (e4.trans e5)⟩;rcases c11 with c11|c12
  ·refine go ?_;refine WO.bl [x.ty] ?_;intro v4 h4 e4 o4;refine go ?_;refine WO.con (fin v4 h4 e4 o4) ?_;rintro _ h5 ⟨rfl,e5⟩;refine gr ?_;exact⟨rfl,e5⟩
  ·have c11:¬x.op=11:=by omega
   refine go ?_;refine WO.bl [x.ty] ?_;intro v4 h4 e4 o4;refine go ?_;refine WO.con (fin v4 h4 e4 o4) ?_;rintro _ h5 ⟨rfl,e5⟩;refine gr ?_;exact⟨rfl,e5⟩
 rw[QD c11];obtain⟨c11,c12⟩:¬x.op=11/\¬x.op=12:=by omega
 refine go ?_;by_cases c13:x.op=13
 ·rw[QI c13];refine go ?_;refine WO.con (yq h3 2 _ l M3 s3 hl hin) ?_;rintro _ h5 ⟨rfl,e5⟩;refine gr ?_;exact⟨rfl,e3.trans e5⟩
 rw[QD c13];refine go ?_;by_cases c14:x.op=14\/x.op=15\/x.op=16\/x.op=17
 ·rw[QI c14];have fin:=zJu h3 x _ _ l M3 hc (hR.ext e3) s3 hl hin hty c14 hn (h1 (by omega)) (fun c=>h2 (by omega));have fin:=WC.mono (Q':=fun r h'=>r= .bool (zSi T x l)/\Ext h h') fin fun r h' ⟨hr,e⟩=>⟨hr,e3.trans e⟩;rcases c14 with c14|c15|c16|c17
  ·refine go ?_;refine WO.con fin ?_;rintro _ h5 ⟨rfl,e5⟩;refine gr ?_;exact⟨rfl,e5⟩
  ·have k14:¬x.op=14:=by omega
   refine go ?_;refine WO.con fin ?_;rintro _ h5 ⟨rfl,e5⟩;refine gr ?_;exact⟨rfl,e5⟩
  ·have k14:¬x.op=14:=by omega
   have k15:¬x.op=15:=by omega
   refine go ?_;refine WO.con fin ?_;rintro _ h5 ⟨rfl,e5⟩;refine gr ?_;exact⟨rfl,e5⟩
  ·have k14:¬x.op=14:=by omega
   have k15:¬x.op=15:=by omega
   have k16:¬x.op=16:=by omega
   refine go ?_;refine WO.con fin ?_;rintro _ h5 ⟨rfl,e5⟩;refine gr ?_;exact⟨rfl,e5⟩
 rw[QD c14];obtain⟨c14,c15,c16,c17⟩:¬x.op=14/\¬x.op=15/\¬x.op=16/\¬x.op=17:=by omega
 refine go ?_;by_cases c18:x.op=18
 ·rw[QI c18];refine go ?_;refine WX.regionU2 0 rfl rfl ?_;obtain⟨⟨hB,vk,vp,vr,o,a,b,c⟩,st,sf,hm⟩:=M3.aside 0;obtain⟨n0,n1⟩:=hn2 (.inr c18);obtain⟨cs,⟨vb,rfl,sb,hlb⟩,pc,hsl⟩:=yB (i:=x.n.toNat) sf (by omega);have pc1:=(pc _ (Ext.refl _)).1;refine goU ?_;refine WO.con (zFi _ (F.getD x.n.toNat default).sig x.ty _ l (M3.aside 0) ((by refine hF _ ?_;rw[QE,QB (show x.n.toNat<F.length by omega)];exact JC _)) sX hl) ?_;rintro _ X4 ⟨rfl,e4⟩;refine nE e4 ?_;have e4':=ea.trans (ZD (h:=h3) e4);refine gUr ?_;exact⟨rfl,e3.trans e4'⟩
 rw[QD c18];refine go ?_;by_cases c19:x.op=19
 ·rw[QI c19];have hl1:=h1 (by omega);refine go ?_;refine WX.regionU2 0 rfl rfl ?_;obtain⟨r,hsl,sr⟩:=zN8 (i:=1) sX (by omega) hl1;refine goU ?_;refine WO.slLo (i:=1) (hy:=rfl) hsl ?_;refine goU ?_;refine WO.con (zFi _ (l.getD 0 0) x.ty _ (l.drop 1) (M3.aside 0) (zJw hin (by omega)) sr (by simp;omega)) ?_;rintro _ X4 ⟨rfl,e4⟩;refine nE e4 ?_;have e4':=ea.trans (ZD (h:=h3) e4);refine gUr ?_;exact⟨rfl,e3.trans e4'⟩
 rw[QD c19];refine go ?_;by_cases c22:x.op=22
 ·rw[QI c22];refine go ?_;refine WO.con (zBz h3 x.ty M3 hty) ?_;rintro _ h4 ⟨rfl,e4⟩;have e04:=e3.trans e4;cases k1:zIw T x.ty with
  |false=>
   refine gr ?_;exact⟨rfl,e04⟩
  |true=>
   have s4:=s3.ext e4;have o4:=o3.ext e4;refine go ?_;refine WO.con (zAO h4 _ _ l (fun t=> !decide (t=x.ty)) s4 (by omega) ?_) ?_
   ·intro t ht h5 e5;exact WV.func (WC.mono (zJy h5 _ p _ _ t x.ty (o4.ext e5)) fun r h6 ⟨hr,he⟩=>⟨hr,he▸Ext.refl _⟩)
   rintro _ h5 ⟨rfl,e5⟩;refine gr ?_;refine⟨?_,e04.trans e5⟩;show Value.bool _=_;rw[List.not_any_eq_all_not];simp
 rw[QD c22];refine go ?_;by_cases c21:x.op=21
 ·rw[QI c21];refine go ?_;refine WO.con (yq h3 1 _ l M3 s3 hl hin) ?_;rintro _ h5 ⟨rfl,e5⟩;refine gr ?_;exact⟨rfl,e3.trans e5⟩
 rw[QD c21];refine go ?_;refine WO.con (yq h3 1 _ l M3 s3 hl hin) ?_;rintro _ h5 ⟨rfl,e5⟩;have e05:=e3.trans e5;cases k1:isL T 1 l with
 |false=>
  refine gr ?_;exact⟨rfl,e05⟩
 |true=>
  have M5:=M3.ext e5;have o5:=o3.ext e5;refine go ?_;refine WO.bl [x.ty] ?_;intro v6 h6 e6 o6;refine go ?_;refine WO.con (yq h6 1 v6 [x.ty] (M5.ext e6) o6.sl (by simp) hiny) ?_;rintro _ h7 ⟨rfl,e7⟩;rw[yr];refine gr ?_;exact⟨rfl,e05.trans (e6.trans e7)⟩
end
set_option maxRecDepth 100000
theorem zUY {xs:List Int} {n:Nat} {c:Int} (h0:0<=c) (h1:c<(n:Int)):(Z7 xs n).getD c.toNat 0=upL xs c:=by
 unfold Z7;rw[QE,GR,List.getElem?_range (by omega)];show upL xs ((c.toNat:Nat):Int)=_;rw[show ((c.toNat:Nat):Int)=c by omega]
section
variable {vt vf:Value} {T:List LType} {F:List LFn} {f:Int} {ks:List Int} {ps:List (Int×Int)} {xs:List Int} {n:Nat} {g:Nat} {nx:Int->List Int}
def zLs:ACode:=(oV (oV (oR [oM 7 2,oM 8 1,oB .neq 9 7 8,oM 10 9,oG 10 (oM 11 2),oG 10 (oC .neq 12 11 (-1)),oP 13 10 12]) (oT 13 0)) (o5 1 (oR [oM 14 0,⟨some 15,none,(.nilCheck (.tmp 14))⟩,oF 5 16 15,oL 17 16,oM 18 2,oI 1 19 17 18,oL 20 19,oM 2 20])))
def zRr:ACode:=(oV (oR [oZ 6]) (oV (o5 0 (.loop zLs)) (oV (oR [oM 21 1,oM 22 2,oB .eql 23 21 22,oM 6 23]) .ret)))
theorem zMi (h:AHeap) (a b:Int) (M:FnM h g vt vf T F f ks ps (Z7 xs n)) (r:Rul nx xs) (w:Way nx 0 b) (hb:0<=b/\b<16) (hin:∀ c,Way nx 0 c->0<=c/\c<(n:Int)) (ha:0<=a):
  WC Tryz.prog tb 170 [.pointer (some ⟨g,0,none⟩),I a,I b] h fun q h'=>(∃ bb,q= .bool bb/\(bb=true↔Dom nx a b))/\h=h':=by
 obtain⟨⟨hB,vk,vp,vr,o,ka,kb,kc⟩,st,sf,hm⟩:=M;have hin:=Hid.mk hin;refine en 24 [(6,none)] zRr ?_;refine WX.loopA [7,8,9,10,11,12,13,14,15,16,17,18,19,20,2] (by kernel_rfl) (fun i=>16 - i) (fun i t h1=>h=h1/\∃ c,zB t 2=I c/\Hid (Chn nx a b i c false)) 0 ?_ ?_
 ·exact⟨rfl,b,sl_,⟨.inr ⟨w,hb,by have:=zR6 nx b;omega,by simp⟩⟩⟩
 rintro i t _ hsame ⟨rfl,c,s2,hC⟩;by_cases hca:c=a
 ·subst hca;have hd:Dom nx c b:=by
   rcases hC.out with ⟨h1,_⟩|⟨_,_,_,h2⟩
   ·omega
   ·exact h2.2 (.inr (Dom.self nx c))
  refine gr ?_;exact⟨⟨true,by simp[one],by simp[hd]⟩,rfl⟩
 by_cases hc1:c= -1
 ·have hd:¬Dom nx a b:=by
   rcases hC.out with ⟨_,h2⟩|⟨_,h1,_⟩
   ·rw[h2];simp
   ·omega
  have hac:(a == c)=false:=by simp;exact fun e=>hca e.symm
  refine gr ?_;exact⟨⟨false,by simp[one];exact fun e=>hca e.symm,by simp[hd]⟩,rfl⟩
 have hc0:0<=c:=by
  rcases hC.out with ⟨h1,_⟩|⟨_,h1,_⟩
  ·exact absurd h1 hc1
  ·exact h1.1
 obtain⟨wc,hc16,hi15⟩:=hC.out.way hc0;have hcn:=hin.out c wc;have hul:=zLJ xs n;have hat:=zUY (xs:=xs) hcn.1 hcn.2;have hnext:Chn nx a b (i+1) (upL xs c) false:=by
  by_cases hz:c=0
  ·subst hz;have:=hC.out.last;rw[show (false||decide ((0:Int)=a))=false by simp;exact fun e=>hca e]at this;unfold upL;rw[QI rfl];exact this
  ·have:=(hC.out.next r (show 0<c by omega)).1;rw[show (false||decide (c=a))=false by simp;exact hca]at this;unfold upL;rw[QD hz];exact this
 refine go ?_;exact zA (i+1) (by omega) ⟨rfl,upL xs c,by rw[<-hat];exact sl_,⟨hnext⟩⟩
def zBl (nx:Int->List Int) (p:Int×Int) (block at':Int):Prop:=if p.1=block then p.2<at' else p.1= -1\/Dom nx p.1 block
def zSh:ACode:=(oV (oR [oZ 5]) (oV (oR [oL 7 1,⟨some 8,none,(.nilCheck (.tmp 7))⟩,oF 4 9 8,oL 10 9,oM 11 0,oI 2 12 10 11,oA 2 13 12,⟨some 6,none,(.alloc [(.int .i64 0),(.int .i64 0)])⟩,oS 2 6 13]) (oV (oV (oR [⟨some 14,none,(.idxArr 2 1 (.tmp 6) (.const (.int .i64 0)))⟩,oL 15 14,oL 16 2,oB .eql 17 15 16]) (oJ 17 (oV (oR [⟨some 18,none,(.idxArr 2 1 (.tmp 6) (.const (.int .i64 1)))⟩,oL 19 18,oL 20 3,oB .geq 21 19 20,oM 5 21]) .ret) .skip)) (oV (oR [⟨some 22,none,(.idxArr 2 1 (.tmp 6) (.const (.int .i64 0)))⟩,oL 23 22,oC .neq 24 23 (-1),oM 25 24,oG 25 (oL 26 1),⟨some 27,some (25,true),(.idxArr 2 1 (.tmp 6) (.const (.int .i64 0)))⟩,oG 25 (oL 28 27),oG 25 (oL 29 2),oG 25 (o3 30 170 26 28 29),oG 25 (oW 31 30),oP 32 25 31,oM 5 32]) .ret))))
theorem zOT (h h1 h2 h3:AHeap) (p1 p2 p3:Value) (x block at':Int) (M:FnM h g vt vf T F f ks ps (Z7 xs n)) (r:Rul nx xs) (w:Way nx 0 block) (hb:0<=block/\block<16) (hin:∀ c,Way nx 0 c->0<=c/\c<(n:Int))
  (o1:OwnC h1 h p1 [.pointer (some ⟨g,0,none⟩)]) (o2:OwnC h2 h p2 [I block]) (o3:OwnC h3 h p3 [I at']) (hx:0<=x/\x<(ps.length:Int)) (hp:(ps.getD x.toNat default).1= -1\/0<=(ps.getD x.toNat default).1):
  WC Tryz.prog tb 169 [I x,p1,p2,p3] h fun q h'=>(∃ bb,q= .bool bb/\(bb=true↔¬zBl nx (ps.getD x.toNat default) block at'))/\Ext h h':=by
 obtain⟨⟨hB,vk,vp,vr,o,ka,kb,kc⟩,st,sf,hm⟩:=id M;obtain⟨cs,rfl,pc,hs⟩:=yB (i:=x.toNat) kb (by omega);have pc1:=(pc h (Ext.refl _)).1;obtain⟨_,_,_,rfl⟩:=zM kb;generalize hq:ps.getD x.toNat default=q at *;obtain⟨q1,q2⟩:=q;unfold zBl;refine en 33 [(5,none)] zSh ?_;refine WO.al ?_;intro p4 h4 e4 o4;refine go ?_;refine WO.stC0 (cs:=[I q1,I q2]) o4 e4 ?_;intro h5 e5 o5 u5;have o1:=o1.ext e5;have o2:=o2.ext e5;have o3:=o3.ext e5;have M5:=M.ext e5;by_cases c1:q1=block
 ·subst c1;refine gr ?_;refine⟨⟨_,rfl,?_⟩,e5⟩;simp
 ·have hc1:(q1 == block)=false:=by simp;exact c1
  by_cases c2:q1= -1
  ·refine gr ?_;exact⟨⟨_,rfl,by rw[QD c1];simp[c2]⟩,e5⟩
  ·refine go ?_;refine WO.con (zMi h5 q1 block M5 r w hb hin (by rcases hp with h|h;exact absurd h c2;exact h)) ?_;rintro _ _ ⟨⟨bb,rfl,hbb⟩,rfl⟩;refine gr ?_;refine⟨⟨!bb,rfl,?_⟩,e5⟩;rw[QD c1];cases bb
   ·simp at hbb;simp[hbb,c2]
   ·simp at hbb;simp[hbb]
def zR2:ACode:=(oV (oR [oX 4 0,oX 5 1,oX 6 2,oZ 8]) (oV (oR [oM 9 3,⟨some 10,none,(.mkFunc (.func 169) [] [(.tmp 4),(.tmp 5),(.tmp 6)])⟩,o2 11 109 9 10,oW 12 11,oM 8 12]) .ret))
theorem zGf (h:AHeap) (v:Value) (l:List Int) (block at':Int) (M:FnM h g vt vf T F f ks ps (Z7 xs n)) (r:Rul nx xs) (w:Way nx 0 block) (hb:0<=block/\block<16) (hin:∀ c,Way nx 0 c->0<=c/\c<(n:Int))
  (s:SlI h v l) (hl:l.length<=1000) (hx:∀ x∈l,0<=x/\x<(ps.length:Int)) (hp:∀ i,i<ps.length->(ps.getD i default).1= -1\/0<=(ps.getD i default).1):
  WC Tryz.prog tb 115 [.pointer (some ⟨g,0,none⟩),I block,I at',v] h fun q h'=>(∃ bb,q= .bool bb/\(bb=true↔∀ x∈l,zBl nx (ps.getD x.toNat default) block at'))/\Ext h h':=by
 refine en 13 [(8,none)] zR2 ?_;refine WO.bx ?_;intro p1 h1 e1 o1;refine go ?_;refine WO.bx ?_;intro p2 h2 e2 o2;refine go ?_;refine WO.bx ?_;intro p3 h3 e3 o3;have e03:=e1.trans (e2.trans e3);have o1:=o1.ext (e2.trans e3);have o2:=o2.ext e3;have M3:=M.ext e03;have s3:=s.ext e03;refine go ?_;refine WO.con (zAO h3 v _ l (fun x=>open Classical in decide (¬zBl nx (ps.getD x.toNat default) block at')) s3 (by omega) ?_) ?_
 ·intro x hxl h4 e4;refine WV.func (WC.mono (zOT h4 h h1 h2 p1 p2 p3 x block at' (M3.ext e4) r w hb hin (o1.ext e4) (o2.ext e4) (o3.ext e4) (hx x hxl) (hp _ (by have:=hx x hxl;omega))) ?_);rintro _ h5 ⟨⟨bb,rfl,hbb⟩,e5⟩;refine⟨?_,e5⟩;congr 1;cases bb<;>simp_all
 rintro _ h4 ⟨rfl,e4⟩;refine gr ?_;refine⟨⟨_,rfl,?_⟩,e03.trans e4⟩;simp
end
set_option maxRecDepth 100000
structure Gr (F:List LFn) (f:Int) (nx:Int->List Int) (xs:List Int) (ps:List (Int×Int)) (L:List LBlk):Prop where
 hf:0<=f/\f<(F.length:Int)
 hL:(F.getD f.toNat default).blocks=L
 n:L.length<=16
 r:Rul nx xs
 way:∀ c,0<=c->c<(L.length:Int)->Way nx 0 c
 inn:∀ c,Way nx 0 c->0<=c/\c<(L.length:Int)
 pl:∀ i,i<ps.length->(ps.getD i default).1= -1\/0<=(ps.getD i default).1
def zVG (nx:Int->List Int) (ps:List (Int×Int)) (L:List LBlk) (frm args:List Int):Prop:=∀ i,i<frm.length->zBl nx (ps.getD (args.getD i 0).toNat default) (frm.getD i 0) ((L.getD (frm.getD i 0).toNat default).ins.length)
section
variable {vt vf:Value} {T:List LType} {F:List LFn} {f:Int} {ks:List Int} {ps:List (Int×Int)} {xs:List Int} {g:Nat} {nx:Int->List Int} {L:List LBlk}
def zMK:ACode:=(oV (oR [oB .lss 18 17 16]) (oV (oT 18 0) (oV (o5 1 (oV (oR [oM 19 17,oI 1 20 15 17,oL 21 20,oM 7 19,oM 8 21]) (oV (o6 [oM 22 0,oM 23 8,oM 24 0,(⟨some 25,none,(.nilCheck (.tmp 24))⟩,[]),oF 0 26 25,oF 1 27 26,oL 28 27,oM 29 0,(⟨some 30,none,(.nilCheck (.tmp 29))⟩,[]),oF 2 31 30,oL 32 31,oI 2 33 28 32,oF 1 34 33,oL 35 34,oM 36 8,oI 5 37 35 36,oF 0 38 37,oL 39 38,oQ 40 39,oF 5 41 4,oL 42 41,oM 43 7,oI 1 44 42 43,oL 45 44,(⟨some 46,none,(.buildSlice 1 1 [(.int .i64 0)] [(0,1,(.tmp 45))])⟩,[]),o4 47 115 22 23 40 46,oW 48 47]) (oJ 48 (oV (oR [oZ 6]) .ret) .skip)))) (oR [oC .add 49 17 1,oM 17 49]))))
def zQ3:ACode:=(oV (oR [oX 4 1,oZ 6]) (oV (oV (oR [oF 6 9 4,oL 10 9,oM 11 2,o2 12 168 10 11,oW 13 12]) (oJ 13 (oV (oR [oZ 6]) .ret) .skip)) (oV (oV (oR [oF 6 14 4,oL 15 14,oQ 16 15,oN 17 0]) (o5 0 (.loop zMK))) (oV (oR [oK 6 (.bool true)]) .ret))))
theorem zQT (h:AHeap) (x:LIns) (cs:List Value) (v:Value) (l:List Int) (M:FnM h g vt vf T F f ks ps (Z7 xs L.length)) (G:Gr F f nx xs ps L) (hR:RIns h cs x) (s:SlI h v l)
  (hfr:∀ i,i<x.frm.length->0<=x.frm.getD i 0/\x.frm.getD i 0<(L.length:Int)) (hlen:x.frm.length<=x.args.length) (hx:∀ i,i<x.args.length->0<=x.args.getD i 0/\x.args.getD i 0<(ps.length:Int)):
  WC Tryz.prog tb 114 [.pointer (some ⟨g,0,none⟩),.agg cs.toArray,v] h fun q h'=>(∃ bb,q= .bool bb/\(bb=true↔x.frm=l/\zVG nx ps L x.frm x.args))/\Ext h h':=by
 have hfr:=Hid.mk hfr;have hx:=Hid.mk hx;obtain⟨xa,xf,rfl,sxa,sxf,hla,hlf,ho⟩:=id hR;obtain⟨a1,a2,a3,rfl⟩:=SlC.shape sxa;obtain⟨f1,f2,f3,rfl⟩:=SlC.shape sxf;refine en 50 [(6,none)] zQ3 ?_;refine WO.bx ?_;intro p h3 e3 o3;have sf3:=sxf.ext e3;have s3:=s.ext e3;refine go ?_;refine WO.con (zF0 h3 _ _ x.frm l sf3 s3 (by omega)) ?_;rintro _ _ ⟨rfl,rfl⟩;by_cases hfl:x.frm=l;case neg=>
  rw[QT hfl];refine gr ?_;exact⟨⟨false,rfl,by simp[hfl]⟩,e3⟩
 rw[QZ hfl];refine go ?_;refine WX.loopA [18,19,20,21,7,8,22,23,24,25,26,27,28,29,30,31,32,33,34,35,36,37,38,39,40,41,42,43,44,45,46,47,48,6,49,17] (by kernel_rfl) (fun i=>x.frm.length - i) (fun i t h1=>Ext h3 h1/\zB t 17=I i/\i<=x.frm.length/\Hid (∀ j,j<i->zBl nx (ps.getD (x.args.getD j 0).toNat default) (x.frm.getD j 0) ((L.getD (x.frm.getD j 0).toNat default).ins.length))) 0 ?_ ?_
 ·exact⟨Ext.refl _,sl_,QV _,⟨fun j hj=>absurd hj (GG _)⟩⟩
 rintro i t h4 hsame ⟨e4,s17,hi,hI⟩;have e34:=e3.trans e4;have sf4:=sf3.ext e4;have o4:=o3.ext e4;refine go ?_;refine WX.br (fun hb=> ?_) (fun hb=> ?_)<;>simp only[DB]at hb
 ·have hif:i<x.frm.length:=by omega
  have hia:i<x.args.length:=by omega
  have hfr1:=hfr.out i hif;have hx1:=hx.out i hia;have hG:=G.hf;have hGL:=G.hL;have M4:=M.ext e34;refine go ?_;refine WX.regionU2 1 rfl rfl ?_;have ea:=zq 1 h4;have sa4:=SlI.ia (sxa.ext (e34.trans ea));have o4':=OwnC.ia (o4.ext ea);obtain⟨⟨hB,vk,vp,vr,o,a,b,c⟩,st,sf,hm⟩:=M4.aside 1;obtain⟨cs,⟨vb,rfl,sb,hlb⟩,pc,hsl⟩:=yB (i:=f.toNat) sf (by omega);have pc1:=(pc _ (Ext.refl _)).1;rw[hGL]at sb;obtain⟨cs2,⟨vi,rfl,si,hli⟩,pc',hsl'⟩:=yB (i:=(x.frm.getD i 0).toNat) sb (by omega);have pc2:=(pc' _ (Ext.refl _)).1;refine goU ?_;refine WU2.mkBl [x.args.getD i 0] M4.hm ?_;intro X5 n5 g5;have n5':X5.n=h4.n+1:=n5;have e5:Ext h4 (zc h4 X5):=zDr (X:=zC 1 h4) ea n5 g5 (QF _) (JP _);have sv5:=zCj (xs:=[x.args.getD i 0]) (by rw[g5,QI rfl]) (by omega:h4.n<X5.n);have M5:=FnM.inC' (M4.ext e5);clear o st sf hm c b a;refine goU ?_;refine WO.con (zGf _ _ [x.args.getD i 0] (x.frm.getD i 0) ((L.getD (x.frm.getD i 0).toNat default).ins.length) M5 G.r (G.way _ hfr1.1 hfr1.2) (by have:=G.n;omega) G.inn sv5 (by simp) (fun y hy=>by rw[QQ.1 hy];exact hx1) G.pl) ?_;rintro _ X6 ⟨⟨bb,rfl,hbb⟩,e6⟩;simp only[QQ,forall_eq]at hbb;have e6':=e5.trans (ZD (h:=h4) e6);refine WO.nil ?_;refine zBw e6 ?_;refine goU ?_;cases bb with
  |false=>
   refine gr ?_;refine⟨⟨false,rfl,?_⟩,e34.trans e6'⟩;simp only[Qk,JL,not_and];intro _ hall;exact absurd (hbb.2 (hall i hif)) Bool.noConfusion
  |true=>
   refine go ?_;refine zA (i+1) (by omega) ⟨e4.trans e6',sln,by omega,⟨fun j hj=> ?_⟩⟩;by_cases e:j=i
   ·subst e;exact hbb.1 rfl
   ·exact hI.out j (by omega)
 ·have hii:i=x.frm.length:=by omega
  subst hii;refine gr ?_;exact⟨⟨true,rfl,by simp only[true_iff];exact⟨hfl,hI.out⟩⟩,e34⟩
end
end
end Go.Proofs.YteekipjpghikkaaGreatDoor
