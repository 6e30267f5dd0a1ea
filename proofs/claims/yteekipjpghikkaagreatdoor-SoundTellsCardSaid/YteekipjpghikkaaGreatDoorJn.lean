/- What functions of the program come to in the abstract machine, and plain laws about it; no statement of the seat is proved in this text. -/
import Derived.Test.YteekipjpghikkaaGreatDoorJj
import Derived.Test.YteekipjpghikkaaGreatDoorJi
import Derived.Test.YteekipjpghikkaaGreatDoorJm
import Derived.Test.YteekipjpghikkaaGreatDoorJl
import Derived.Test.YteekipjpghikkaaGreatDoorJk
set_option linter.unusedVariables false
set_option linter.unusedSimpArgs false
set_option maxHeartbeats 4000000
namespace Go.Proofs.YteekipjpghikkaaGreatDoor
noncomputable section
open Go.Am
set_option maxRecDepth 100000
theorem zCB {T:List LType} {k t:Int} (h:t≠ -1):isT T k t=decide ((T.getD t.toNat default).kind=k):=by unfold isT;rw[decide_eq_true h,Bool.true_and]
section
variable {vt vf:Value} {T:List LType} {F:List LFn}
theorem En.go {h X:AHeap} (E:En h vt vf T F) (e:Ext h X):En (Am.inC X) vt vf T F:=let E':=E.ext e;⟨E'.tt,Nat.le_refl _,E'.sm,E'.si,E'.st,E'.sf⟩
theorem En.lenT {h:AHeap} (E:En h vt vf T F):(T.length:Int)≤1000:=by have:=E.sm.types;omega
def zSS:ACode:=(oV (oR [oX 3 0,oZ 6]) (oV (oR [oM 7 1,oC .geq 8 7 0,oM 9 8,oG 9 (oF 0 10 3),oG 9 (oL 11 10),oG 9 (oM 12 1),oG 9 (oI 4 13 11 12),oG 9 (oF 0 14 13),oG 9 (oL 15 14),oG 9 (oM 16 2),oG 9 (oB .eql 17 15 16),oP 18 9 17,oM 6 18]) .ret))
theorem yl (h:AHeap) (t k:Int) (E:En h vt vf T F) (ht:InT T t):WC Tryz.prog tb 35 [.agg #[vt,vf],I t,.int .u8 k] h fun r h'=>r= .bool (isT T k t)∧Ext h h':=by
 refine en 19 [(6,none)] zSS ?_;refine WO.bx ?_;intro p h1 e1 o1;replace o1:OwnC h h1 p [vt,vf]:=o1;have st:=(E.ext e1).st;by_cases h1:t= -1
 ·subst h1;refine gr ?_;exact⟨rfl,e1⟩
 ·obtain⟨t0,t1⟩:=ht.resolve_left h1;obtain⟨cs,⟨va,rfl,sa,hla⟩,pc,hs⟩:=yQ (i:=t.toNat) st (by omega);rw[zCB h1];refine gr ?_;exact⟨rfl,e1⟩
def zOK:ACode:=(oV (oR [oX 2 0,oN 4 0]) (oV (oV (oR [oA 2 5 2,oM 6 1,⟨some 7,none,(.call (.func 35) [(.tmp 5),(.tmp 6),(.const (.int .u8 2))])⟩,oW 8 7]) (oJ 8 (oV (oR [oN 4 (-1)]) .ret) .skip)) (oV (oR [oF 0 9 2,oL 10 9,oM 11 1,oI 4 12 10 11,oF 1 13 12,oL 14 13,oM 4 14]) .ret)))
theorem zI6 (h:AHeap) (t:Int) (E:En h vt vf T F) (ht:InT T t):WC Tryz.prog tb 202 [.agg #[vt,vf],I t] h fun r h'=>r=I (toT T t)∧Ext h h':=by
 unfold toT;refine en 15 [(4,none)] zOK ?_;refine WO.bx ?_;intro p h1 e1 o1;replace o1:OwnC h h1 p [vt,vf]:=o1;have E1:=E.ext e1;refine go ?_;refine WO.con (yl h1 t 2 E1 ht) ?_;rintro _ h2 ⟨rfl,e2⟩;have o2:=o1.ext e2;have st:=(E1.ext e2).st;cases c:isT T 2 t with
 |false=>
  refine gr ?_;exact⟨rfl,e1.trans e2⟩
 |true=>
  obtain⟨t0,t1⟩:=ht.resolve_left (Y6 c);obtain⟨cs,⟨va,rfl,sa,hla⟩,pc,hs⟩:=yQ (i:=t.toNat) st (by omega);refine gr ?_;exact⟨rfl,e1.trans e2⟩
def zOu:ACode:=(oV (oR [oX 3 0,oZ 6]) (oV (oR [oM 7 2,oC .geq 8 7 0,oM 9 8,oG 9 (oA 2 10 3),oG 9 (oM 11 1),oG 9 (o2 12 202 10 11),oG 9 (oM 13 2),oG 9 (oB .eql 14 12 13),oP 15 9 14,oM 6 15]) .ret))
theorem zE8 (h:AHeap) (t to:Int) (E:En h vt vf T F) (ht:InT T t) (hto:InT T to):WC Tryz.prog tb 203 [.agg #[vt,vf],I t,I to] h fun r h'=>r= .bool (decide (to≠ -1)&&decide (toT T t=to))∧Ext h h':=by
 refine en 16 [(6,none)] zOu ?_;refine WO.bx ?_;intro p h1 e1 o1;replace o1:OwnC h h1 p [vt,vf]:=o1;have E1:=E.ext e1;by_cases c:to= -1
 ·subst c;refine gr ?_;exact⟨rfl,e1⟩
 ·have c0:=(hto.resolve_left c).1;refine go ?_;refine WO.con (zI6 h1 t E1 ht) ?_;rintro _ h2 ⟨rfl,e2⟩;refine gr ?_;exact⟨by rw[decide_eq_true c,Bool.true_and];rfl,e1.trans e2⟩
def zOT:ACode:=(oV (oR [oX 2 0,oZ 4]) (oV (oR [oM 5 1,oC .geq 6 5 0,oM 7 6,oG 7 (oF 0 8 2),oG 7 (oL 9 8),oG 7 (oM 10 1),oG 7 (o2 11 201 9 10),oP 12 7 11,oM 4 12]) .ret))
theorem zDl (h:AHeap) (t:Int) (E:En h vt vf T F) (ht:InT T t):WC Tryz.prog tb 180 [.agg #[vt,vf],I t] h fun r h'=>r= .bool (zA9 T t)∧Ext h h':=by
 refine en 13 [(4,none)] zOT ?_;refine WO.bx ?_;intro p h1 e1 o1;replace o1:OwnC h h1 p [vt,vf]:=o1;have E1:=E.ext e1;by_cases c:t= -1
 ·subst c;refine gr ?_;exact⟨rfl,e1⟩
 ·have c0:=(ht.resolve_left c).1;refine go ?_;refine WO.con (zCN h1 vt T t E1.st E1.lenT) ?_;rintro _ h2 ⟨⟨b,rfl,hb⟩,rfl⟩;refine gr ?_;refine⟨?_,e1⟩;have:=zN0 ht;show Value.bool _=_;congr 1;cases b<;>cases hs:zA9 T t<;>simp_all
def zOf:ACode:=(oV (oR [oX 4 0,oZ 8]) (oV (oR [oA 2 9 4,oM 10 1,⟨some 11,none,(.call (.func 35) [(.tmp 9),(.tmp 10),(.const (.int .u8 3))])⟩,oM 12 11,oG 12 (oF 0 13 4),oG 12 (oL 14 13),oG 12 (oM 15 1),oG 12 (oI 4 16 14 15),oG 12 (oF 3 17 16),oG 12 (oL 18 17),oG 12 (oM 19 2),oG 12 (o2 20 129 18 19),oP 21 12 20,oM 22 21,oG 22 (oF 0 23 4),oG 22 (oL 24 23),oG 22 (oM 25 1),oG 22 (oI 4 26 24 25),oG 22 (oF 1 27 26),oG 22 (oL 28 27),oG 22 (oM 29 3),oG 22 (oB .eql 30 28 29),oP 31 22 30,oM 8 31]) .ret))
theorem zCi (h:AHeap) (sig t:Int) (v:Value) (l:List Int) (E:En h vt vf T F) (hs:InT T sig) (s:SlI h v l) (hl:l.length≤1000):WC Tryz.prog tb 179 [.agg #[vt,vf],I sig,v,I t] h fun r h'=>r= .bool (zCf T sig l t)∧Ext h h':=by
 unfold zCf;refine en 32 [(8,none)] zOf ?_;refine WO.bx ?_;intro p h1 e1 o1;replace o1:OwnC h h1 p [vt,vf]:=o1;have E1:=E.ext e1;refine go ?_;refine WO.con (yl h1 sig 3 E1 hs) ?_;rintro _ h2 ⟨rfl,e2⟩;have o2:=o1.ext e2;have E2:=E1.ext e2;have st:=E2.st;cases c:isT T 3 sig with
 |false=>
  refine gr ?_;exact⟨rfl,e1.trans e2⟩
 |true=>
  obtain⟨t0,t1⟩:=hs.resolve_left (Y6 c);obtain⟨cs,⟨va,rfl,sa,hla⟩,pc,hs⟩:=yQ (i:=sig.toNat) st (by omega);have hpl:=E.sm.parts _ (zH (l:=T) (i:=sig.toNat) (by omega));refine go ?_;refine WO.con (YZ h2 va v _ l sa (s.ext (e1.trans e2)) (by omega)) ?_;rintro _ _ ⟨rfl,rfl⟩;cases c2:decide ((T.getD sig.toNat default).parts=l)with
  |false=>
   refine gr ?_;exact⟨rfl,e1.trans e2⟩
  |true=>
   refine gr ?_;exact⟨rfl,e1.trans e2⟩
def zO6:ACode:=(oV (oR [oX 2 0,oN 4 0]) (oV (oV (oR [oF 0 5 2,oL 6 5,oD .eql 7 6 4,oM 8 7,oG 8 (oM 9 1),oG 8 (oC .geq 10 9 0),oP 11 8 10,oM 12 11,oG 12 (oM 13 1),oG 12 (oF 3 14 2),oG 12 (oL 15 14),oG 12 (oQ 16 15),oG 12 (oB .lss 17 13 16),oP 18 12 17]) (oJ 18 (oV (oR [oF 3 19 2,oL 20 19,oM 21 1,oI 1 22 20 21,oL 23 22,oM 4 23]) .ret) .skip)) (oV (oV (oR [oF 0 24 2,oL 25 24,oD .eql 26 25 5,oM 27 26,oG 27 (oM 28 1),oG 27 (oC .geq 29 28 0),oP 30 27 29,oM 31 30,oG 31 (oM 32 1),oG 31 (oF 2 33 2),oG 31 (oL 34 33),oG 31 (oB .lss 35 32 34),oP 36 31 35]) (oJ 36 (oV (oR [oF 1 37 2,oL 38 37,oM 4 38]) .ret) .skip)) (oV (oR [oN 4 (-1)]) .ret))))
theorem zJW (h:AHeap) (x:LType) (cs:List Value) (n:Int) (r:RTy h cs x) (hk:x.kind=4) (hn:0≤n):WC Tryz.prog tb 204 [.agg cs.toArray,I n] h fun r h'=>r=I (if n<(x.parts.length:Int) then x.parts.getD n.toNat 0 else -1)∧Ext h h':=by
 obtain⟨va,rfl,sa,hla⟩:=r;obtain⟨a1,a2,a3,rfl⟩:=SlC.shape sa;refine en 39 [(4,none)] zO6 ?_;refine WO.bx ?_;intro p h1 e1 o1;replace o1:OwnC h h1 p [.int .u8 x.kind,I x.elem,I x.many,.slice a1 a2 a3]:=o1;have sa1:=SlI.ext sa e1;by_cases c:n<(x.parts.length:Int)
 ·rw[if_pos c];refine gr ?_;exact⟨rfl,e1⟩
 ·rw[if_neg c];have k5:¬x.kind=5:=by omega
  refine gr ?_;exact⟨rfl,e1⟩
end
set_option maxRecDepth 100000
theorem zQn {T:List LType} {s n:Int} (h:isT T 4 s=true):Zc T s n=if n<((T.getD s.toNat default).parts.length:Int) then (T.getD s.toNat default).parts.getD n.toNat 0 else -1:=by
 have h1:=Y6 h;have hk:(T.getD s.toNat default).kind=4:=by rw[zCB h1]at h;simpa using h
 have h5:isT T 5 s=false:=by rw[zCB h1,hk];rfl
 unfold Zc;rw[if_neg h1,h,h5,Bool.true_and];simp only[decide_eq_true_eq,Bool.false_eq_true,if_false]
theorem zSY {T:List LType} {s n:Int} (h:isT T 5 s=true):Zc T s n=(T.getD s.toNat default).elem:=by
 have h1:=Y6 h;have hk:(T.getD s.toNat default).kind=5:=by rw[zCB h1]at h;simpa using h
 have h4:isT T 4 s=false:=by rw[zCB h1,hk];rfl
 unfold Zc;rw[if_neg h1,h4,h,Bool.false_and];rfl
section
variable {vt vf:Value} {T:List LType} {F:List LFn}
def zPC:ACode:=(oV (oR [oX 3 0,oX 4 1,oZ 6]) (oV (o6 [oA 2 8 3,oM 9 2,(⟨some 10,none,(.idx 1 (.tmp 9) (.const (.int .i64 0)))⟩,[]),oL 11 10,o2 12 202 8 11,oM 7 12]) (oV (oV (oR [oF 0 13 4,oL 14 13]) (o5 0 (oV (oR [oD .eql 16 14 14,oM 15 16]) (oJ 15 (oV (o6 [oA 2 17 3,oM 18 7,(⟨some 19,none,(.call (.func 35) [(.tmp 17),(.tmp 18),(.const (.int .u8 4))])⟩,[]),oM 20 19,oG 20 (oA 2 21 3),oG 20 (oF 1 22 4),oG 20 (oL 23 22),oG 20 (oF 0 24 3),oG 20 (oL 25 24),oG 20 (oM 26 7),oG 20 (oI 4 27 25 26),oG 20 (oA 4 28 27),oG 20 (oF 4 29 4),oG 20 (oL 30 29),(oG 20 (o2 31 204 28 30),[4,6]),oG 20 (o3 32 203 21 23 31),oP 33 20 32,oM 6 33]) .ret) (oV (oR [oD .eql 35 14 15,oM 34 35]) (oJ 34 (oV (o6 [oA 2 36 3,oM 37 7,(⟨some 38,none,(.call (.func 35) [(.tmp 36),(.tmp 37),(.const (.int .u8 5))])⟩,[]),oM 39 38,oG 39 (oA 2 40 3),oG 39 (oM 41 2),(⟨some 42,some (39,true),(.idx 1 (.tmp 41) (.const (.int .i64 1)))⟩,[]),oG 39 (oL 43 42),(⟨some 44,some (39,true),(.call (.func 35) [(.tmp 40),(.tmp 43),(.const (.int .u8 1))])⟩,[]),oP 45 39 44,oM 46 45,oG 46 (oA 2 47 3),oG 46 (oF 1 48 4),oG 46 (oL 49 48),oG 46 (oF 0 50 3),oG 46 (oL 51 50),oG 46 (oM 52 7),oG 46 (oI 4 53 51 52),oG 46 (oF 1 54 53),oG 46 (oL 55 54),oG 46 (o3 56 203 47 49 55),oP 57 46 56,oM 6 57]) .ret) (oV (oR [oD .eql 59 14 16,oM 58 59]) (oJ 58 (oV (oR [oA 2 60 3,oM 61 7,o2 62 180 60 61,oM 63 62,oG 63 (oF 1 64 4),oG 63 (oL 65 64),oG 63 (oM 66 7),oG 63 (oB .eql 67 65 66),oP 68 63 67,oM 6 68]) .ret) .skip)))))))) (oV (oR [oA 2 69 3,oM 70 7,o2 71 180 69 70,oM 72 71,oG 72 (oM 73 2),⟨some 74,some (72,true),(.idx 1 (.tmp 73) (.const (.int .i64 1)))⟩,oG 72 (oL 75 74),oG 72 (oM 76 7),oG 72 (oB .eql 77 75 76),oP 78 72 77,oM 6 78]) .ret))))
theorem zGK (h:AHeap) (x:LIns) (cs:List Value) (v:Value) (l:List Int) (E:En h vt vf T F) (hc:yb T=0) (hR:RIns h cs x) (s:SlI h v l) (hl:l.length≤1000) (hin:∀ t∈l,InT T t) (hty:InT T x.ty) (hop:x.op=14∨x.op=15∨x.op=16∨x.op=17) (hn:x.op=14→0≤x.n) (h1:1≤l.length) (h2:x.op=15∨x.op=17→2≤l.length):
  WC Tryz.prog tb 178 [.agg #[vt,vf],.agg cs.toArray,v] h fun r h'=>r= .bool (zID T x l)∧Ext h h':=by
 obtain⟨xa,xf,rfl,sxa,sxf,hla,hlf,ho⟩:=hR;obtain⟨a1,a2,a3,rfl⟩:=SlC.shape sxa;obtain⟨f1,f2,f3,rfl⟩:=SlC.shape sxf;obtain⟨b1,b2,b3,rfl⟩:=SlC.shape s;have ht0:=Z3 hin (show 0<l.length by omega);have hs0:=zFN hc ht0;have hpc:∀ n,0≤n→InT T (Zc T (toT T (l.getD 0 0)) n):=fun n hn=>zE5 hc hs0 hn;unfold zID zGi;generalize hsd:toT T (l.getD 0 0)=sd at *;refine en 79 [(6,none)] zPC ?_;refine WO.bx ?_;intro p3 h3 e3 o3;replace o3:OwnC h h3 p3 [vt,vf]:=o3;refine go ?_;refine WO.bx ?_;intro p4 h4 e4 o4;replace o4:OwnC h3 h4 p4 [.int .u8 x.op,I x.ty,I x.a,I x.b,I x.n,.slice a1 a2 a3,.slice f1 f2 f3]:=o4;have E4:=E.ext (e3.trans e4);have o34:=o3.ext e4;have s4:=s.ext (e3.trans e4);refine go ?_;refine WX.regionU2 0 rfl rfl ?_;have o34X:=OwnC.ia (o34.ext (zI 0 h4));have s4X:=SlI.ia (s4.ext (zI 0 h4));refine goU ?_;refine WO.con (zI6 _ _ E4.inC ht0) ?_;rintro _ X5 ⟨rfl,e5⟩;rw[hsd];refine nE e5 ?_;have e5'0:=(zI 0 h4).trans (zb (h:=h4) e5);have e5':Ext h4 (outC h4 (inC X5)):=e5'0;refine goU ?_;generalize outC h4 (inC X5)=h5 at *;have E5:=E4.ext e5';have o35:=o34.ext e5';have o45:=o4.ext e5';have s5:=s4.ext e5';have e05:=(e3.trans e4).trans e5';clear o34X s4X;have o35X:=OwnC.ia (o35.ext (zI 0 h5));have o45X:=OwnC.ia (o45.ext (zI 0 h5));have s5X:=SlI.ia (s5.ext (zI 0 h5));have ea:=zI 0 h5;by_cases c14:x.op=14
 ·rw[if_pos c14];refine go ?_;refine WX.regionU2 0 rfl rfl ?_;refine goU ?_;refine WO.con (yl _ sd 4 E5.inC hs0) ?_;rintro _ X6 ⟨rfl,e6⟩;refine nE e6 ?_;have e6':=ea.trans (zb (h:=h5) e6);cases c4:isT T 4 sd with
  |false=>
   refine goU ?_;refine zHR Y4 ?_;refine gUr ?_;exact⟨rfl,e05.trans e6'⟩
  |true=>
   obtain⟨t0,t1⟩:=hs0.resolve_left (Y6 c4);have E6:=E5.inC.go e6;have o36:=OwnC.ia (o35X.ext e6);have o46:=OwnC.ia (o45X.ext e6);have st6:=E6.st;obtain⟨ct,rT,pc,hs⟩:=yQ (i:=sd.toNat) st6 (by omega);have hk4:(T.getD sd.toNat default).kind=4:=by rw[zCB (Y6 c4)]at c4;simpa using c4
   have hP:=zJW (inC X6) _ ct x.n rT hk4 (hn c14);obtain⟨va,rfl,sa,hla⟩:=rT;obtain⟨va1,va2,va3,rfl⟩:=SlC.shape sa;have hp0:=hpc x.n (hn c14);rw[zQn c4]at hp0 ⊢;refine goU ?_;refine WO.con hP ?_;rintro _ X7 ⟨rfl,e7⟩;refine nE e7 ?_;have e7':=e6'.trans (zb (h:=h5) e7);generalize (if x.n<((T.getD sd.toNat default).parts.length:Int) then (T.getD sd.toNat default).parts.getD x.n.toNat 0 else -1)=to at *;refine goU ?_;refine WO.con (zE8 _ x.ty to (E6.go e7) hty hp0) ?_;rintro _ X8 ⟨rfl,e8⟩;refine nE e8 ?_;have e8':=e7'.trans (zb (h:=h5) e8);refine gUr ?_;exact⟨rfl,e05.trans e8'⟩
 rw[if_neg c14];refine go ?_;by_cases c15:x.op=15
 ·have h2:=h2 (.inl c15);have ht1:=Z3 hin (show 1<l.length by omega);rw[if_pos c15];refine go ?_;refine WX.regionU2 0 rfl rfl ?_;refine goU ?_;refine WO.con (yl _ sd 5 E5.inC hs0) ?_;rintro _ X6 ⟨rfl,e6⟩;refine nE e6 ?_;have e6':=ea.trans (zb (h:=h5) e6);cases c5:isT T 5 sd with
  |false=>
   refine gUr ?_;exact⟨rfl,e05.trans e6'⟩
  |true=>
   obtain⟨t0,t1⟩:=hs0.resolve_left (Y6 c5);have E6:=E5.inC.go e6;have o36:=OwnC.ia (o35X.ext e6);have s6:=SlI.ia (s5X.ext e6);refine goU ?_;refine WO.con (yl _ (l.getD 1 0) 1 E6 ht1) ?_;rintro _ X7 ⟨rfl,e7⟩;refine nE e7 ?_;have e7':=e6'.trans (zb (h:=h5) e7);cases c1:isT T 1 (l.getD 1 0)with
   |false=>
    refine gUr ?_;exact⟨rfl,e05.trans e7'⟩
   |true=>
    have E7:=E6.go e7;have o37:=OwnC.ia (OwnC.ext o36 e7);have o47:=OwnC.ia (OwnC.ext (OwnC.ia (o45X.ext e6)) e7);have st7:=E7.st;obtain⟨ct,⟨va,rfl,sa,hla⟩,pc,hs⟩:=yQ (i:=sd.toNat) st7 (by omega);have hp0:=hpc 0 (Int.le_refl 0);rw[zSY c5]at hp0 ⊢;refine goU ?_;refine WO.con (zE8 _ x.ty (T.getD sd.toNat default).elem E7 hty hp0) ?_;rintro _ X8 ⟨rfl,e8⟩;refine nE e8 ?_;have e8':=e7'.trans (zb (h:=h5) e8);refine gUr ?_;exact⟨rfl,e05.trans e8'⟩
 rw[if_neg c15];refine go ?_;by_cases c16:x.op=16
 ·rw[if_pos c16];refine go ?_;refine WO.con (zDl h5 sd E5 hs0) ?_;rintro _ h6 ⟨rfl,e6⟩;have o46:=o45.ext e6;cases c6:zA9 T sd with
  |false=>
   refine gr ?_;exact⟨rfl,e05.trans e6⟩
  |true=>
   refine gr ?_;exact⟨rfl,e05.trans e6⟩
 ·rw[if_neg c16];have h2:=h2 (.inr (by omega));refine go ?_;refine WO.con (zDl h5 sd E5 hs0) ?_;rintro _ h6 ⟨rfl,e6⟩;have s6:=s5.ext e6;cases c6:zA9 T sd with
  |false=>
   refine gr ?_;exact⟨rfl,e05.trans e6⟩
  |true=>
   refine gr ?_;exact⟨rfl,e05.trans e6⟩
end
set_option maxRecDepth 100000
theorem zQs {T:List LType} {F:List LFn} {f:LFn} {x:LIns} (h:Y3 x (szL T F.length f)=true):((x.op=1∨x.op=20)→(yI x).length=0)∧((4≤x.op∧x.op≤10)→(yI x).length=2)∧((x.op=13∨x.op=21)→(yI x).length=1):=by
 have ho:=zII h;have m:=(zAY (by omega)).1 h;have ha:=Z5 (op:=x.op) (by omega);obtain⟨h2,h1,hg,_⟩:=ha;have b1:∀ {b:Bool} {p:Prop},(b=true↔p)→¬p→b=false:=fun {b p} h hn=>by cases b;rfl;exact absurd (h.1 rfl) hn
 unfold yI;refine⟨fun e=> ?_,fun e=> ?_,fun e=> ?_⟩
 ·rw[b1 h1 (by unfold zAx zAu;omega),b1 h2 (by unfold zAu;omega),b1 hg (by unfold zAy;omega)];rfl
 ·rw[h1.2 (by unfold zAx zAu;omega),h2.2 (by unfold zAu;omega),b1 hg (by unfold zAy;omega)];rfl
 ·rw[h1.2 (by unfold zAx zAu;omega),b1 h2 (by unfold zAu;omega),b1 hg (by unfold zAy;omega)];rfl
theorem zNT {T:List LType} {k:Int} {l:List Int} (h:l.length=0):isL T k l=true:=by rw[List.eq_nil_of_length_eq_zero h];rfl
theorem zMx {T:List LType} {k:Int} {l:List Int} (h:l.length=1):isL T k l=isT T k (l.getD 0 0):=by
 match l,h with
 |[a],_=>simp[isL]
theorem zQk {T:List LType} {k:Int} {l:List Int} (h:l.length=2):isL T k l=(isT T k (l.getD 0 0)&&isT T k (l.getD 1 0)):=by
 match l,h with
 |[a,b],_=>simp[isL]
section
variable {vt vf:Value} {T:List LType} {F:List LFn}
def zKi:ACode:=(oV (oV (oR [oM 143 7,oM 144 2,oQ 145 144,oB .lss 146 143 145]) (oT 146 1)) (oV (o5 2 (oV (o6 [oM 149 2,oM 150 7,oI 1 151 149 150,oL 152 151,oF 1 153 4,oL 154 153,oB .neq 155 152 154]) (oJ 155 (oV (oR [oZ 6]) .ret) .skip))) (oR [oM 147 7,oC .add 148 147 1,oM 7 148])))
def zFa:ACode:=(oV (oR [oX 3 0,oX 4 1,oZ 6]) (oV (oV (oR [oF 0 8 4,oL 9 8]) (o5 0 (oV (oV (oR [oD .eql 11 9 1,oM 10 11]) (oJ 10 .skip (oR [oD .eql 12 9 20,oM 10 12]))) (oJ 10 (oV (oR [oA 2 13 3,oF 1 14 4,oL 15 14,⟨some 16,none,(.call (.func 35) [(.tmp 13),(.tmp 15),(.const (.int .u8 1))])⟩,oM 6 16]) .ret) (oV (oR [oD .eql 18 9 2,oM 17 18]) (oJ 17 (oV (oR [oA 2 19 3,oF 1 20 4,oL 21 20,⟨some 22,none,(.call (.func 35) [(.tmp 19),(.tmp 21),(.const (.int .u8 2))])⟩,oM 23 22,oH 23 (oA 2 24 3),oH 23 (oF 1 25 4),oH 23 (oL 26 25),⟨some 27,some (23,false),(.call (.func 35) [(.tmp 24),(.tmp 26),(.const (.int .u8 3))])⟩,oO 28 23 27,oM 6 28]) .ret) (oV (oR [oD .eql 30 9 3,oM 29 30]) (oJ 29 (oV (o6 [oF 1 31 4,oL 32 31,oF 1 33 3,oL 34 33,oF 4 35 4,oL 36 35,oI 2 37 34 36,oF 0 38 37,oL 39 38,oB .eql 40 32 39,oM 6 40]) .ret) (oV (oV (oR [oD .eql 42 9 4,oM 41 42]) (oJ 41 .skip (oV (oR [oD .eql 43 9 5,oM 41 43]) (oJ 41 .skip (oV (oR [oD .eql 44 9 6,oM 41 44]) (oJ 41 .skip (oV (oR [oD .eql 45 9 7,oM 41 45]) (oJ 41 .skip (oV (oR [oD .eql 46 9 8,oM 41 46]) (oJ 41 .skip (oR [oD .eql 47 9 9,oM 41 47]))))))))))) (oJ 41 (oV (o6 [oA 2 48 3,oM 49 2,(⟨some 50,none,(.idx 1 (.tmp 49) (.const (.int .i64 0)))⟩,[]),oL 51 50,(⟨some 52,none,(.call (.func 35) [(.tmp 48),(.tmp 51),(.const (.int .u8 1))])⟩,[]),oM 53 52,oG 53 (oA 2 54 3),oG 53 (oM 55 2),(⟨some 56,some (53,true),(.idx 1 (.tmp 55) (.const (.int .i64 1)))⟩,[]),oG 53 (oL 57 56),(⟨some 58,some (53,true),(.call (.func 35) [(.tmp 54),(.tmp 57),(.const (.int .u8 1))])⟩,[]),oP 59 53 58,oM 60 59,oG 60 (oA 2 61 3),oG 60 (oF 1 62 4),oG 60 (oL 63 62),(⟨some 64,some (60,true),(.call (.func 35) [(.tmp 61),(.tmp 63),(.const (.int .u8 1))])⟩,[]),oP 65 60 64,oM 6 65]) .ret) (oV (oR [oD .eql 67 9 10,oM 66 67]) (oJ 66 (oV (o6 [oA 2 68 3,oM 69 2,(⟨some 70,none,(.idx 1 (.tmp 69) (.const (.int .i64 0)))⟩,[]),oL 71 70,(⟨some 72,none,(.call (.func 35) [(.tmp 68),(.tmp 71),(.const (.int .u8 2))])⟩,[]),oM 73 72,oG 73 (oM 74 2),(⟨some 75,some (73,true),(.idx 1 (.tmp 74) (.const (.int .i64 0)))⟩,[]),oG 73 (oL 76 75),oG 73 (oM 77 2),(⟨some 78,some (73,true),(.idx 1 (.tmp 77) (.const (.int .i64 1)))⟩,[]),oG 73 (oL 79 78),oG 73 (oB .eql 80 76 79),oP 81 73 80,oM 82 81,oG 82 (oA 2 83 3),oG 82 (oF 1 84 4),oG 82 (oL 85 84),(⟨some 86,some (82,true),(.call (.func 35) [(.tmp 83),(.tmp 85),(.const (.int .u8 1))])⟩,[]),oP 87 82 86,oM 6 87]) .ret) (oV (oV (oR [oD .eql 89 9 11,oM 88 89]) (oJ 88 .skip (oR [oD .eql 90 9 12,oM 88 90]))) (oJ 88 (oV (oR [oA 2 91 3,oF 1 92 4,oL 93 92,⟨some 94,none,(.call (.func 35) [(.tmp 91),(.tmp 93),(.const (.int .u8 2))])⟩,oM 6 94]) .ret) (oV (oR [oD .eql 96 9 13,oM 95 96]) (oJ 95 (oV (o6 [oA 2 97 3,oM 98 2,(⟨some 99,none,(.idx 1 (.tmp 98) (.const (.int .i64 0)))⟩,[]),oL 100 99,(⟨some 101,none,(.call (.func 35) [(.tmp 97),(.tmp 100),(.const (.int .u8 2))])⟩,[]),oM 6 101]) .ret) (oV (oR [oD .eql 103 9 21,oM 102 103]) (oJ 102 (oV (o6 [oA 2 104 3,oM 105 2,(⟨some 106,none,(.idx 1 (.tmp 105) (.const (.int .i64 0)))⟩,[]),oL 107 106,(⟨some 108,none,(.call (.func 35) [(.tmp 104),(.tmp 107),(.const (.int .u8 1))])⟩,[]),oM 6 108]) .ret) (oV (oV (oR [oD .eql 110 9 14,oM 109 110]) (oJ 109 .skip (oV (oR [oD .eql 111 9 15,oM 109 111]) (oJ 109 .skip (oV (oR [oD .eql 112 9 16,oM 109 112]) (oJ 109 .skip (oR [oD .eql 113 9 17,oM 109 113]))))))) (oJ 109 (oV (oR [oA 2 114 3,oA 7 115 4,oM 116 2,o3 117 178 114 115 116,oM 6 117]) .ret) (oV (oR [oD .eql 119 9 18,oM 118 119]) (oJ 118 (oV (o6 [oA 2 120 3,oF 1 121 3,oL 122 121,oF 4 123 4,oL 124 123,oI 2 125 122 124,oF 0 126 125,oL 127 126,oM 128 2,oF 1 129 4,oL 130 129,o4 131 179 120 127 128 130,oM 6 131]) .ret) (oV (oR [oD .eql 133 9 19,oM 132 133]) (oJ 132 (oV (o6 [oA 2 134 3,oM 135 2,(⟨some 136,none,(.idx 1 (.tmp 135) (.const (.int .i64 0)))⟩,[]),oL 137 136,oM 138 2,(⟨some 139,none,(.slice 1 (.tmp 138) (some (.const (.int .i64 1))) none none)⟩,[]),oF 1 140 4,oL 141 140,o4 142 179 134 137 139 141,oM 6 142]) .ret) .skip)))))))))))))))))))))))) (oV (oV (oR [oN 7 0]) (o5 1 (.loop zKi))) (oV (oR [oA 2 156 3,oF 1 157 4,oL 158 157,o2 159 180 156 158,oM 6 159]) .ret))))
theorem zNc (h:AHeap) (x:LIns) (cs:List Value) (v:Value) (l:List Int) (E:En h vt vf T F) (hc:yb T=0) (hR:RIns h cs x) (s:SlI h v l) (hl:l.length≤1000) (hin:∀ t∈l,InT T t) (hty:InT T x.ty) (hop:1≤x.op∧x.op≤22)
  (hF:∀ f∈F,InT T f.sig) (hn:x.op=14→0≤x.n) (hn2:x.op=3∨x.op=18→0≤x.n∧x.n<(F.length:Int)) (h1:(x.op=14∨x.op=15∨x.op=16∨x.op=17∨x.op=19)→1≤l.length) (h2:x.op=15∨x.op=17→2≤l.length)
  (l0:x.op=1∨x.op=20→l.length=0) (l2:4≤x.op∧x.op≤10→l.length=2) (l1:x.op=13∨x.op=21→l.length=1) (hg:(x.op=1∨x.op=20)∨x.op=2∨x.op=3∨x.op=10∨x.op=19∨x.op=22):
  WC Tryz.prog tb 123 [.agg #[vt,vf],.agg cs.toArray,v] h fun r h'=>r= .bool (yA T F x l)∧Ext h h':=by
 replace hin:=Hid.mk hin;replace hF:=Hid.mk hF;replace hn2:=Hid.mk hn2;replace hn:=Hid.mk hn;replace h1:=Hid.mk h1;replace h2:=Hid.mk h2;replace l0:=Hid.mk l0;replace l2:=Hid.mk l2;replace l1:=Hid.mk l1;obtain⟨xa,xf,rfl,sxa,sxf,hla,hlf,ho⟩:=id hR;obtain⟨a1,a2,a3,rfl⟩:=SlC.shape sxa;obtain⟨f1,f2,f3,rfl⟩:=SlC.shape sxf;obtain⟨b1,b2,b3,rfl⟩:=SlC.shape s;refine en 160 [(6,none)] zFa ?_;refine WO.bx ?_;intro p3 h3 e3 o3;replace o3:OwnC h h3 p3 [vt,vf]:=o3;refine go ?_;refine WO.bx ?_;intro p4 h4 e4 o4;replace o4:OwnC h3 h4 p4 [.int .u8 x.op,I x.ty,I x.a,I x.b,I x.n,.slice a1 a2 a3,.slice f1 f2 f3]:=o4;have E4:=E.ext (e3.trans e4);have o34:=o3.ext e4;have e04:=e3.trans e4;have s4:=s.ext e04;have R4:=hR.ext e04;have ea:=zI 0 h4;have o34X:=OwnC.ia (o34.ext ea);have o4X:=OwnC.ia (o4.ext ea);have s4X:=SlI.ia (s4.ext ea);have sf4X:=E4.inC.sf;rcases hg with cA|c2|c3|c10|c19|c22
 ·have hr:yA T F x l=isT T 1 x.ty:=by unfold yA;rcases cA with c|c<;>simp[c,zNT (l0.out (by omega))]
  rw[hr];rcases cA with c|c;all_goals
   refine go ?_
   refine WO.con (yl h4 x.ty 1 E4 hty) ?_
   rintro _ h5 ⟨rfl,e5⟩
   refine gr ?_
   exact⟨rfl,e04.trans e5⟩
 ·have hr:yA T F x l=(isT T 2 x.ty||isT T 3 x.ty):=by unfold yA;simp[c2]
  rw[hr];refine go ?_;refine WO.con (yl h4 x.ty 2 E4 hty) ?_;rintro _ h5 ⟨rfl,e5⟩;have o35:=o34.ext e5;have o45:=o4.ext e5;cases k:isT T 2 x.ty with
  |true=>
   refine gr ?_;exact⟨rfl,e04.trans e5⟩
  |false=>
   refine go ?_;refine WO.con (yl h5 x.ty 3 (E4.ext e5) hty) ?_;rintro _ h6 ⟨rfl,e6⟩;refine gr ?_;exact⟨rfl,e04.trans (e5.trans e6)⟩
 ·have hr:yA T F x l=decide (x.ty=sigF F x.n):=by unfold yA;simp[c3]
  rw[hr];obtain⟨n0,n1⟩:=hn2.out (.inl c3);have sf4:=E4.sf;obtain⟨csF,⟨vb,rfl,sb,hlb⟩,pcF,hsF⟩:=zd (i:=x.n.toNat) sf4 (by omega);refine gr ?_;exact⟨rfl,e04⟩
 ·have hll:=l2.out (by omega);have ht0:=Z3 hin.out (show 0<l.length by omega);have ht1:=Z3 hin.out (show 1<l.length by omega);have hr:yA T F x l=(isT T 2 (l.getD 0 0)&&decide (l.getD 0 0=l.getD 1 0)&&isT T 1 x.ty):=by
   unfold yA;by_cases q:l.getD 0 0=l.getD 1 0
   ·rw[if_neg (by omega),if_neg (by omega),if_pos c10,zQk hll,←q,Bool.and_self]
   ·rw[if_neg (by omega),if_neg (by omega),if_pos c10,decide_eq_false q];simp
  rw[hr];refine go ?_;refine WX.regionU2 0 rfl rfl ?_;refine goU ?_;refine WO.con (yl _ (l.getD 0 0) 2 E4.inC ht0) ?_;rintro _ X5 ⟨rfl,e5⟩;refine nE e5 ?_;have e5':=ea.trans (zb (h:=h4) e5);cases k0:isT T 2 (l.getD 0 0)with
  |false=>
   refine gUr ?_;exact⟨rfl,e04.trans e5'⟩
  |true=>
   have E5:=E4.inC.go e5;have o35:=OwnC.ia (o34X.ext e5);have o45:=OwnC.ia (o4X.ext e5);have s5:=SlI.ia (s4X.ext e5);by_cases q:l.getD 0 0=l.getD 1 0
   ·rw[decide_eq_true q];refine goU ?_;refine WO.con (yl _ x.ty 1 E5 hty) ?_;rintro _ X6 ⟨rfl,e6⟩;refine nE e6 ?_;have e6':=e5'.trans (zb (h:=h4) e6);refine gUr ?_;exact⟨rfl,e04.trans e6'⟩
   ·rw[decide_eq_false q];refine gUr ?_;exact⟨rfl,e04.trans e5'⟩
 ·have hr:yA T F x l=zCf T (l.getD 0 0) (l.drop 1) x.ty:=by unfold yA;simp[c19]
  rw[hr];have hl1:=h1.out (by omega);refine go ?_;refine WX.regionU2 0 rfl rfl ?_;obtain⟨r,hsl,sr⟩:=zGV (i:=1) s4X (by omega) hl1;refine goU ?_;refine WO.slLo (i:=1) (hy:=rfl) hsl ?_;refine goU ?_;refine WO.con (zCi _ (l.getD 0 0) x.ty _ (l.drop 1) E4.inC (Z3 hin.out (by omega)) sr (by simp;omega)) ?_;rintro _ X5 ⟨rfl,e5⟩;refine nE e5 ?_;have e5':=ea.trans (zb (h:=h4) e5);refine gUr ?_;exact⟨rfl,e04.trans e5'⟩
 ·have hr:yA T F x l=(zA9 T x.ty&&l.all fun t=>decide (t=x.ty)):=by unfold yA;simp[c22]
  rw[hr];refine go ?_;refine WX.loopA [143,144,145,146,149,150,151,152,153,154,155,6,147,148,7] (by kernel_rfl) (fun i=>l.length - i) (fun i t h'=>h4=h'∧zB t 7=I i∧i≤l.length∧Hid (∀ j,j<i→l.getD j 0=x.ty)) 0 ?_ ?_
  ·exact⟨rfl,sl_,Nat.zero_le _,⟨fun j hj=>absurd hj (Nat.not_lt_zero _)⟩⟩
  rintro i t h5 hsame ⟨rfl,s7,hi,hI⟩;refine go ?_;refine WX.br (fun hb=> ?_) (fun hb=> ?_)<;>simp only[DB]at hb
  ·have hi':i<l.length:=by omega
   refine go ?_;refine WX.br (fun hb=> ?_) (fun hb=> ?_)<;>simp only[DB]at hb
   ·refine gr ?_;refine⟨?_,e04⟩;have:l.all (fun t=>decide (t=x.ty))=false:=by
     rw[List.all_eq_false];exact⟨l.getD i 0,zS hi',by simpa using hb⟩
    rw[this,Bool.and_false];rfl
   ·refine go ?_;refine zA (i+1) (by omega) ⟨rfl,sln,by omega,⟨fun j hj=> ?_⟩⟩;by_cases e:j=i
    ·subst e;exact hb
    ·exact hI.out j (by omega)
  ·have hii:i=l.length:=by omega
   subst hii;have:l.all (fun t=>decide (t=x.ty))=true:=by
    rw[List.all_eq_true];intro t ht;obtain⟨j,hj,rfl⟩:=List.getElem_of_mem ht;have:=hI.out j hj;rw[List.getD_eq_getElem?_getD,List.getElem?_eq_getElem hj]at this;simpa using this
   rw[this,Bool.and_true];refine go ?_;refine WO.con (zDl h4 x.ty E4 hty) ?_;rintro _ h6 ⟨rfl,e6⟩;refine gr ?_;exact⟨rfl,e04.trans e6⟩
theorem zMO (h:AHeap) (x:LIns) (cs:List Value) (v:Value) (l:List Int) (E:En h vt vf T F) (hc:yb T=0) (hR:RIns h cs x) (s:SlI h v l) (hl:l.length≤1000) (hin:∀ t∈l,InT T t) (hty:InT T x.ty) (hop:1≤x.op∧x.op≤22)
  (hF:∀ f∈F,InT T f.sig) (hn:x.op=14→0≤x.n) (hn2:x.op=3∨x.op=18→0≤x.n∧x.n<(F.length:Int)) (h1:(x.op=14∨x.op=15∨x.op=16∨x.op=17∨x.op=19)→1≤l.length) (h2:x.op=15∨x.op=17→2≤l.length)
  (l0:x.op=1∨x.op=20→l.length=0) (l2:4≤x.op∧x.op≤10→l.length=2) (l1:x.op=13∨x.op=21→l.length=1) (hg:(x.op=4∨x.op=5∨x.op=6∨x.op=7∨x.op=8∨x.op=9)):
  WC Tryz.prog tb 123 [.agg #[vt,vf],.agg cs.toArray,v] h fun r h'=>r= .bool (yA T F x l)∧Ext h h':=by
 replace hin:=Hid.mk hin;replace hF:=Hid.mk hF;replace hn2:=Hid.mk hn2;replace hn:=Hid.mk hn;replace h1:=Hid.mk h1;replace h2:=Hid.mk h2;replace l0:=Hid.mk l0;replace l2:=Hid.mk l2;replace l1:=Hid.mk l1;obtain⟨xa,xf,rfl,sxa,sxf,hla,hlf,ho⟩:=id hR;obtain⟨a1,a2,a3,rfl⟩:=SlC.shape sxa;obtain⟨f1,f2,f3,rfl⟩:=SlC.shape sxf;obtain⟨b1,b2,b3,rfl⟩:=SlC.shape s;refine en 160 [(6,none)] zFa ?_;refine WO.bx ?_;intro p3 h3 e3 o3;replace o3:OwnC h h3 p3 [vt,vf]:=o3;refine go ?_;refine WO.bx ?_;intro p4 h4 e4 o4;replace o4:OwnC h3 h4 p4 [.int .u8 x.op,I x.ty,I x.a,I x.b,I x.n,.slice a1 a2 a3,.slice f1 f2 f3]:=o4;have E4:=E.ext (e3.trans e4);have o34:=o3.ext e4;have e04:=e3.trans e4;have s4:=s.ext e04;have R4:=hR.ext e04;have ea:=zI 0 h4;have o34X:=OwnC.ia (o34.ext ea);have o4X:=OwnC.ia (o4.ext ea);have s4X:=SlI.ia (s4.ext ea);have sf4X:=E4.inC.sf;have hx:=hg;have hll:=l2.out (by omega);have ht0:=Z3 hin.out (show 0<l.length by omega);have ht1:=Z3 hin.out (show 1<l.length by omega);have hr:yA T F x l=(isT T 1 (l.getD 0 0)&&isT T 1 (l.getD 1 0)&&isT T 1 x.ty):=by
  unfold yA;rcases hx with c|c|c|c|c|c<;>simp[c,zQk hll]
 rw[hr];rcases hx with c|c|c|c|c|c;all_goals
  refine go ?_
  refine WX.regionU2 0 rfl rfl ?_
  refine goU ?_
  refine WO.con (yl _ (l.getD 0 0) 1 E4.inC ht0) ?_
  rintro _ X5 ⟨rfl,e5⟩
  refine nE e5 ?_
  have e5':=ea.trans (zb (h:=h4) e5)
  cases k0:isT T 1 (l.getD 0 0)with
  |false=>
   refine gUr ?_;exact⟨rfl,e04.trans e5'⟩
  |true=>
   have E5:=E4.inC.go e5;have o35:=OwnC.ia (o34X.ext e5);have o45:=OwnC.ia (o4X.ext e5);have s5:=SlI.ia (s4X.ext e5);refine goU ?_;refine WO.con (yl _ (l.getD 1 0) 1 E5 ht1) ?_;rintro _ X6 ⟨rfl,e6⟩;refine nE e6 ?_;have e6':=e5'.trans (zb (h:=h4) e6);cases k1:isT T 1 (l.getD 1 0)with
   |false=>
    refine gUr ?_;exact⟨rfl,e04.trans e6'⟩
   |true=>
    have E6:=E5.go e6;have o36:=OwnC.ia (o35.ext e6);have o46:=OwnC.ia (o45.ext e6);refine goU ?_;refine WO.con (yl _ x.ty 1 E6 hty) ?_;rintro _ X7 ⟨rfl,e7⟩;refine nE e7 ?_;have e7':=e6'.trans (zb (h:=h4) e7);refine gUr ?_;exact⟨rfl,e04.trans e7'⟩
theorem zMS (h:AHeap) (x:LIns) (cs:List Value) (v:Value) (l:List Int) (E:En h vt vf T F) (hc:yb T=0) (hR:RIns h cs x) (s:SlI h v l) (hl:l.length≤1000) (hin:∀ t∈l,InT T t) (hty:InT T x.ty) (hop:1≤x.op∧x.op≤22)
  (hF:∀ f∈F,InT T f.sig) (hn:x.op=14→0≤x.n) (hn2:x.op=3∨x.op=18→0≤x.n∧x.n<(F.length:Int)) (h1:(x.op=14∨x.op=15∨x.op=16∨x.op=17∨x.op=19)→1≤l.length) (h2:x.op=15∨x.op=17→2≤l.length)
  (l0:x.op=1∨x.op=20→l.length=0) (l2:4≤x.op∧x.op≤10→l.length=2) (l1:x.op=13∨x.op=21→l.length=1) (hg:(x.op=11∨x.op=12)∨x.op=13∨x.op=21∨(x.op=14∨x.op=15∨x.op=16∨x.op=17)∨x.op=18):
  WC Tryz.prog tb 123 [.agg #[vt,vf],.agg cs.toArray,v] h fun r h'=>r= .bool (yA T F x l)∧Ext h h':=by
 replace hin:=Hid.mk hin;replace hF:=Hid.mk hF;replace hn2:=Hid.mk hn2;replace hn:=Hid.mk hn;replace h1:=Hid.mk h1;replace h2:=Hid.mk h2;replace l0:=Hid.mk l0;replace l2:=Hid.mk l2;replace l1:=Hid.mk l1;obtain⟨xa,xf,rfl,sxa,sxf,hla,hlf,ho⟩:=id hR;obtain⟨a1,a2,a3,rfl⟩:=SlC.shape sxa;obtain⟨f1,f2,f3,rfl⟩:=SlC.shape sxf;obtain⟨b1,b2,b3,rfl⟩:=SlC.shape s;refine en 160 [(6,none)] zFa ?_;refine WO.bx ?_;intro p3 h3 e3 o3;replace o3:OwnC h h3 p3 [vt,vf]:=o3;refine go ?_;refine WO.bx ?_;intro p4 h4 e4 o4;replace o4:OwnC h3 h4 p4 [.int .u8 x.op,I x.ty,I x.a,I x.b,I x.n,.slice a1 a2 a3,.slice f1 f2 f3]:=o4;have E4:=E.ext (e3.trans e4);have o34:=o3.ext e4;have e04:=e3.trans e4;have s4:=s.ext e04;have R4:=hR.ext e04;have ea:=zI 0 h4;have o34X:=OwnC.ia (o34.ext ea);have o4X:=OwnC.ia (o4.ext ea);have s4X:=SlI.ia (s4.ext ea);have sf4X:=E4.inC.sf;rcases hg with c11|c13|c21|c14|c18
 ·have hr:yA T F x l=isT T 2 x.ty:=by unfold yA;rcases c11 with c|c<;>simp[c]
  rw[hr];rcases c11 with c|c;all_goals
   refine go ?_
   refine WO.con (yl h4 x.ty 2 E4 hty) ?_
   rintro _ h5 ⟨rfl,e5⟩
   refine gr ?_
   exact⟨rfl,e04.trans e5⟩
 ·have hll:=l1.out (.inl c13);have ht0:=Z3 hin.out (show 0<l.length by omega);have hr:yA T F x l=isT T 2 (l.getD 0 0):=by unfold yA;simp[c13,zMx hll]
  rw[hr];refine go ?_;refine WX.regionU2 0 rfl rfl ?_;refine goU ?_;refine WO.con (yl _ (l.getD 0 0) 2 E4.inC ht0) ?_;rintro _ X5 ⟨rfl,e5⟩;refine nE e5 ?_;have e5':=ea.trans (zb (h:=h4) e5);refine gUr ?_;exact⟨rfl,e04.trans e5'⟩
 ·have hll:=l1.out (.inr c21);have ht0:=Z3 hin.out (show 0<l.length by omega);have hr:yA T F x l=isT T 1 (l.getD 0 0):=by unfold yA;simp[c21,zMx hll]
  rw[hr];refine go ?_;refine WX.regionU2 0 rfl rfl ?_;refine goU ?_;refine WO.con (yl _ (l.getD 0 0) 1 E4.inC ht0) ?_;rintro _ X5 ⟨rfl,e5⟩;refine nE e5 ?_;have e5':=ea.trans (zb (h:=h4) e5);refine gUr ?_;exact⟨rfl,e04.trans e5'⟩
 ·have hr:yA T F x l=zID T x l:=by unfold yA;rcases c14 with c|c|c|c<;>simp[c]
  rw[hr];have hm:=zGK h4 x _ _ l E4 hc R4 s4 hl hin.out hty c14 hn.out (h1.out (by omega)) h2.out;rcases c14 with c|c|c|c;all_goals
   refine go ?_
   refine WO.con hm ?_
   rintro _ h5 ⟨rfl,e5⟩
   refine gr ?_
   exact⟨rfl,e04.trans e5⟩
 ·have hr:yA T F x l=zCf T (sigF F x.n) l x.ty:=by unfold yA;simp[c18]
  rw[hr];obtain⟨n0,n1⟩:=hn2.out (.inr c18);obtain⟨csF,⟨vb,rfl,sb,hlb⟩,pcF,hsF⟩:=zd (i:=x.n.toNat) sf4X (by omega);refine go ?_;refine WX.regionU2 0 rfl rfl ?_;refine goU ?_;refine WO.con (zCi _ (F.getD x.n.toNat default).sig x.ty _ l E4.inC (hF.out _ (zH (by omega))) s4X hl) ?_;rintro _ X5 ⟨rfl,e5⟩;refine nE e5 ?_;have e5':=ea.trans (zb (h:=h4) e5);refine gUr ?_;exact⟨rfl,e04.trans e5'⟩
theorem zIK (h:AHeap) (x:LIns) (cs:List Value) (v:Value) (l:List Int) (E:En h vt vf T F) (hc:yb T=0) (hR:RIns h cs x) (s:SlI h v l) (hl:l.length≤1000) (hin:∀ t∈l,InT T t) (hty:InT T x.ty) (hop:1≤x.op∧x.op≤22)
  (hF:∀ f∈F,InT T f.sig) (hn:x.op=14→0≤x.n) (hn2:x.op=3∨x.op=18→0≤x.n∧x.n<(F.length:Int)) (h1:(x.op=14∨x.op=15∨x.op=16∨x.op=17∨x.op=19)→1≤l.length) (h2:x.op=15∨x.op=17→2≤l.length)
  (l0:x.op=1∨x.op=20→l.length=0) (l2:4≤x.op∧x.op≤10→l.length=2) (l1:x.op=13∨x.op=21→l.length=1):
  WC Tryz.prog tb 123 [.agg #[vt,vf],.agg cs.toArray,v] h fun r h'=>r= .bool (yA T F x l)∧Ext h h':=by
 rcases(show ((x.op=1∨x.op=20)∨x.op=2∨x.op=3∨x.op=10∨x.op=19∨x.op=22)∨((x.op=4∨x.op=5∨x.op=6∨x.op=7∨x.op=8∨x.op=9))∨((x.op=11∨x.op=12)∨x.op=13∨x.op=21∨(x.op=14∨x.op=15∨x.op=16∨x.op=17)∨x.op=18) from by omega)with c|c|c
 ·exact zNc h x cs v l E hc hR s hl hin hty hop hF hn hn2 h1 h2 l0 l2 l1 c
 ·exact zMO h x cs v l E hc hR s hl hin hty hop hF hn hn2 h1 h2 l0 l2 l1 c
 ·exact zMS h x cs v l E hc hR s hl hin hty hop hF hn hn2 h1 h2 l0 l2 l1 c
end
set_option maxRecDepth 100000
section
variable {vt vf:Value} {T:List LType} {F:List LFn}
def zSJ:ACode:=(oV (oR [oX 3 0,oN 6 0]) (oV (oR [oA 2 11 3,oM 12 1,oM 13 2,o3 14 60 11 12 13,oM 10 14,oE 15 10 0,oE 16 10 1,oM 7 15,oM 8 16]) (oV (oV (oR [oM 17 7,oC .lss 18 17 0]) (oJ 18 (oV (o6 [oF 0 19 3,oL 20 19,oF 1 21 3,oL 22 21,oM 23 1,oI 2 24 22 23,oF 0 25 24,oL 26 25,oI 4 27 20 26,oF 3 28 27,oL 29 28,oM 30 8,oI 1 31 29 30,oL 32 31,oM 6 32]) .ret) .skip)) (oV (oR [oF 1 33 3,oL 34 33,oM 35 1,oI 2 36 34 35,oF 1 37 36,oL 38 37,oM 39 7,oI 5 40 38 39,oF 0 41 40,oL 42 41,oM 43 8,oI 7 44 42 43,oA 7 45 44,⟨some 9,none,(.alloc [(.int .u8 0),(.int .i64 0),(.int .i64 0),(.int .i64 0),(.int .i64 0),(.slice none 0 0),(.slice none 0 0)])⟩,oS 7 9 45]) (oV (oV (oR [oF 0 46 9,oL 47 46,o1 48 61 47,oW 49 48]) (oJ 49 (oV (oR [oN 6 (-1)]) .ret) .skip)) (oV (oR [oF 1 50 9,oL 51 50,oM 6 51]) .ret))))))
theorem zCF (h:AHeap) (f r:Int) (E:En h vt vf T F) (Z:FnIn T F f) (h0:0≤r) (h1:r<zAc ((yB T F f).parts.length:Int) (zJ F f)):WC Tryz.prog tb 29 [.agg #[vt,vf],I f,I r] h fun q h'=>q=I ((ksF T F f).getD r.toNat 0)∧Ext h h':=by
 have hf:=Z.hf;have hsg:=Z.sig;have hF:=E.sm.funcs;have hT:=E.lenT;rw[zRU h0 h1];refine en 52 [(6,none)] zSJ ?_;refine WO.bx ?_;intro p h2 e2 o2;replace o2:OwnC h h2 p [vt,vf]:=o2;have E2:=E.ext e2;refine go ?_;refine WO.con (zDo h2 vt vf T F f r E2 hf hsg) ?_;rintro _ h3 ⟨rfl,e3⟩;have o3:=o2.ext e3;have E3:=E2.ext e3;have e03:=e2.trans e3;have sf3:=E3.sf;have st3:=E3.st;obtain⟨cs,⟨vb,rfl,sb,hlb⟩,pc,hs⟩:=zd (i:=f.toNat) sf3 (by omega);obtain⟨cst,⟨vat,rfl,sat,hlat⟩,pct,hst⟩:=yQ (i:=(F.getD f.toNat default).sig.toNat) st3 (by omega);unfold Zi;by_cases c:r<((yB T F f).parts.length:Int)
 ·have c':r<((T.getD (F.getD f.toNat default).sig.toNat default).parts.length:Int):=c;rw[if_pos c,if_neg (by omega)];refine gr ?_;exact⟨rfl,e03⟩
 ·have c':¬r<((T.getD (F.getD f.toNat default).sig.toNat default).parts.length:Int):=c;unfold zAc at h1;have h1':r<((T.getD (F.getD f.toNat default).sig.toNat default).parts.length:Int)+zW (F.getD f.toNat default).blocks:=h1;rw[if_neg c,if_pos (by omega)];have hw:=zAd (l:=zJ F f) (a:=r - ((yB T F f).parts.length:Int)) (by omega) (by omega);have sb:SlB h3 vb (zJ F f):=sb;have hwb:ze (F.getD f.toNat default).blocks (r - ((T.getD (F.getD f.toNat default).sig.toNat default).parts.length:Int))=ze (zJ F f) (r - ((yB T F f).parts.length:Int)):=rfl;rw[hwb];generalize ze (zJ F f) (r - ((yB T F f).parts.length:Int))=w at *;obtain⟨wb,wi⟩:=w;simp only at hw ⊢;obtain⟨csb,⟨vi,rfl,si,hli⟩,pcb,hsb⟩:=zd (i:=wb.toNat) sb (by omega);obtain⟨csi,⟨xa,xf,rfl,sxa,sxf,hla,hlf,ho⟩,pci,hsi⟩:=zd (i:=wi.toNat) si (by omega);obtain⟨a1,a2,a3,rfl⟩:=SlC.shape sxa;obtain⟨f1,f2,f3,rfl⟩:=SlC.shape sxf;generalize ((zJ F f).getD wb.toNat default).ins.getD wi.toNat default=x at *;refine go ?_;refine WO.al ?_;intro p4 h4 e4 o4;refine go ?_;refine WO.stC0 (cs:=[.int .u8 x.op,I x.ty,I x.a,I x.b,I x.n,.slice a1 a2 a3,.slice f1 f2 f3]) o4 e4 ?_;intro h5 e5 o5 u5;refine go ?_;refine WO.con (zAK h5 x.op ho.1) ?_;rintro _ _ ⟨rfl,rfl⟩;have hk:YQ x=if (zU x.op).2.2.2.2.2 then x.ty else -1:=rfl;rw[hk];cases hb2:(zU x.op).2.2.2.2.2 with
  |true=>
   refine gr ?_;exact⟨rfl,e03.trans e5⟩
  |false=>
   refine gr ?_;exact⟨rfl,e03.trans e5⟩
def zJK:ACode:=(oV (oV (oR [oM 11 9,oM 12 2,oQ 13 12,oB .lss 14 11 13]) (oT 14 0)) (oV (o5 1 (oV (o6 [oA 2 17 3,oM 18 1,oM 19 2,oM 20 9,oI 1 21 19 20,oL 22 21,o3 23 29 17 18 22,oM 10 23]) (oV (oV (oR [oM 24 10,oC .lss 25 24 0]) (oJ 25 (oV (oR [oK 6 (.slice none 0 0),oZ 7]) .ret) .skip)) (oR [oM 26 8,oM 27 10,⟨some 28,none,(.buildSlice 1 1 [(.int .i64 0)] [(0,1,(.tmp 27))])⟩,oY 1 29 26 28,oM 8 29])))) (oR [oM 15 9,oC .add 16 15 1,oM 9 16])))
def zPw:ACode:=(oV (oR [oX 3 0,oK 6 (.slice none 0 0),oZ 7]) (oV (oR [oK 8 (.slice none 0 0)]) (oV (oV (oR [oN 9 0]) (o5 0 (.loop zJK))) (oV (oR [oM 30 8,oM 6 30,oK 7 (.bool true)]) .ret))))
theorem zEE (h:AHeap) (f:Int) (v:Value) (l:List Int) (E:En h vt vf T F) (Z:FnIn T F f) (s:SlI h v l) (hl:l.length≤1000) (hin:∀ r∈l,0≤r∧r<((ksF T F f).length:Int)):
  WC Tryz.prog tb 121 [.agg #[vt,vf],I f,v] h fun q h'=>(∃ w,q= .tuple #[w,.bool (!decide ((-1:Int)∈yg (ksF T F f) l))]∧(¬(-1:Int)∈yg (ksF T F f) l→OwnN h h' w (yg (ksF T F f) l))∧∃ a n k,w= .slice a n k)∧Ext h h':=by
 have hks:=Hid.mk Z.ks;have hreg:=Z.reg;have hin:=Hid.mk hin;refine en 31 [(6,none),(7,none)] zPw ?_;refine WO.bx ?_;intro p h2 e2 o2;replace o2:OwnC h h2 p [vt,vf]:=o2;have E2:=E.ext e2;have s2:=s.ext e2;refine go ?_;refine WX.loopA [11,12,13,14,17,18,19,20,21,22,23,10,24,25,6,7,26,27,28,29,8,15,16,9] (by kernel_rfl) (fun i=>l.length - i) (fun i t h'=>Ext h2 h'∧zB t 9=I i∧i≤l.length∧Hid (¬(-1:Int)∈(l.take i).map fun r=>(ksF T F f).getD r.toNat 0)∧∃ w,zB t 8=w∧OwnN h2 h' w ((l.take i).map fun r=>(ksF T F f).getD r.toNat 0)) 0 ?_ ?_
 ·exact⟨Ext.refl _,sl_,Nat.zero_le _,⟨by simp⟩,_,sl_,.inl ⟨rfl,rfl⟩⟩
 rintro i t h3 hsame ⟨e3,s9,hi,hI,w,s8,ow⟩;have E3:=E2.ext e3;have o3:=o2.ext e3;have s3:=s2.ext e3;refine go ?_;refine WX.br (fun hb=> ?_) (fun hb=> ?_)<;>simp only[DB]at hb
 ·have hi':i<l.length:=by omega
  have hr:=hin.out _ (zS hi');have hsucc:(l.take (i+1)).map (fun r=>(ksF T F f).getD r.toNat 0)=(l.take i).map (fun r=>(ksF T F f).getD r.toNat 0)++[(ksF T F f).getD (l.getD i 0).toNat 0]:=by
   rw[List.take_add_one,List.getElem?_eq_getElem hi',List.map_append,show l.getD i 0=l[i] by rw[List.getD_eq_getElem?_getD,List.getElem?_eq_getElem hi'];rfl];rfl
  have o3X:=OwnC.ia (o3.ext (zI 0 h3));have s3X:=SlI.ia (s3.ext (zI 0 h3));have hkin:=hks.out _ (zS (l:=ksF T F f) (i:=(l.getD i 0).toNat) (by omega));refine go ?_;refine WX.regionU2 0 rfl rfl ?_;refine goU ?_;refine WO.con (zCF _ f (l.getD i 0) E3.inC Z hr.1 (by omega)) ?_;rintro _ X4 ⟨rfl,e4⟩;refine nE e4 ?_;have e4':=(zI 0 h3).trans (zb (h:=h3) e4);have e4'':Ext h3 (outC h3 (inC X4)):=e4';obtain⟨k,hk⟩:∃ k,(ksF T F f).getD (l.getD i 0).toNat 0=k:=⟨_,rfl⟩;rw[hk]at hsucc hkin ⊢;refine goU ?_;generalize outC h3 (inC X4)=h5 at *;have e5:=e3.trans e4'';by_cases hk1:k= -1
  ·subst hk1;have hm:(-1:Int)∈yg (ksF T F f) l:=by
    unfold yg;have:(-1:Int)∈(l.take (i+1)).map fun r=>(ksF T F f).getD r.toNat 0:=by rw[hsucc];simp
    obtain⟨r,hr,e⟩:=List.mem_map.1 this;exact List.mem_map.2 ⟨r,List.mem_of_mem_take hr,e⟩
   refine gr ?_;refine⟨⟨_,by rw[decide_eq_true hm];rfl,fun hn=>absurd hm hn,⟨_,_,_,rfl⟩⟩,e2.trans e5⟩
  ·have hk0:=(hkin.resolve_left hk1).1;refine go ?_;refine WO.bl [k] ?_;intro v6 h6 e6 o6;refine go ?_;refine WO.apN ((ow.ext e4'').ext e6) o6.sl (e5.trans e6) (by simp;omega) ?_;intro v7 h7 e7 o7;refine go ?_;refine zA (i+1) (by omega) ⟨e7,sln,by omega,⟨?_⟩,v7,sl_,by rw[hsucc];exact o7⟩;rw[hsucc];intro hm;rcases List.mem_append.1 hm with hm|hm
   ·exact hI.out hm
   ·rw[List.mem_singleton]at hm;exact hk1 hm.symm
 ·have hii:i=l.length:=by omega
  subst hii;rw[List.take_length]at ow hI;have hn:¬(-1:Int)∈yg (ksF T F f) l:=hI.out;refine gr ?_;refine⟨⟨w,by rw[decide_eq_false hn];rfl,fun _=>ow.since e2,SlC.shape ow.sl⟩,e2.trans e3⟩
def zJu:ACode:=(oV (oV (oR [oM 12 11,oM 13 2,oQ 14 13,oB .lss 15 12 14]) (oT 15 0)) (oV (o5 1 (oV (o6 [oA 2 18 5,oM 19 1,oM 20 2,oM 21 11,oI 1 22 20 21,oL 23 22,oM 24 3,oM 25 4,(⟨some 26,none,(.call (.func 182) [(.tmp 18),(.tmp 19),(.tmp 23),(.tmp 24),(.tmp 25)])⟩,[]),oW 27 26]) (oJ 27 (oV (oR [oZ 10]) .ret) .skip))) (oR [oM 16 11,oC .add 17 16 1,oM 11 17])))
def zPu:ACode:=(oV (oR [oX 5 0,oZ 10]) (oV (oV (oR [oN 11 0]) (o5 0 (.loop zJu))) (oV (oR [oK 10 (.bool true)]) .ret)))
theorem zCX (h:AHeap) (f:Int) (v:Value) (l:List Int) (block at':Int) (E:En h vt vf T F) (hp:yX T F=0) (Z:FnIn T F f) (hw:Way (nxL (zJ F f)) 0 block) (hb:0≤block∧block<((zJ F f).length:Int)) (s:SlI h v l) (hl:l.length≤1000) (hin:∀ r∈l,0≤r∧r<((ksF T F f).length:Int)):
  WC Tryz.prog tb 125 [.agg #[vt,vf],I f,v,I block,I at'] h fun q h'=>(∃ bb,q= .bool bb∧(bb=true↔∀ r∈l,zBD (nxL (zJ F f)) ((psF T F f).getD r.toNat default) block at'))∧Ext h h':=by
 have hreg:=Z.reg;have hin:=Hid.mk hin;have hb0:=Z.bl 0 (Int.le_refl 0) (by have:=Z.n1;omega);have hbe:(zD T F f 0).2=0:=by rw[hb0]
 have hask:Zp T F f block=0:=by
  unfold Zp;rw[if_neg (fun e=>e hbe),if_neg (by rw[hb0];show ¬(_∨((zJ F f).length:Int)≤_);omega),if_pos ((ZH hbe).2 (by rw[hb0];exact hw))]
 refine en 28 [(10,none)] zPu ?_;refine WO.bx ?_;intro p h2 e2 o2;replace o2:OwnC h h2 p [vt,vf]:=o2;have E2:=E.ext e2;have s2:=s.ext e2;refine go ?_;refine WX.loopA [12,13,14,15,18,19,20,21,22,23,24,25,26,27,10,16,17,11] (by kernel_rfl) (fun i=>l.length - i) (fun i t h'=>Ext h2 h'∧zB t 11=I i∧i≤l.length∧Hid (∀ j,j<i→zBD (nxL (zJ F f)) ((psF T F f).getD (l.getD j 0).toNat default) block at')) 0 ?_ ?_
 ·exact⟨Ext.refl _,sl_,Nat.zero_le _,⟨fun j hj=>absurd hj (Nat.not_lt_zero _)⟩⟩
 rintro i t h3 hsame ⟨e3,s11,hi,hI⟩;have E3:=E2.ext e3;have o3:=o2.ext e3;have s3:=s2.ext e3;refine go ?_;refine WX.br (fun hb=> ?_) (fun hb=> ?_)<;>simp only[DB]at hb
 ·have hi':i<l.length:=by omega
  have hr:=hin.out _ (zS hi');have o3X:=OwnC.ia (o3.ext (zI 0 h3));have s3X:=SlI.ia (s3.ext (zI 0 h3));obtain⟨hpl,hSB⟩:=zM8 (at':=at') hp Z hr.1 (by omega) (by assumption);refine go ?_;refine WX.regionU2 0 rfl rfl ?_;refine goU ?_;refine WO.con (zF3 _ vt vf T F f (l.getD i 0) block at' E3.inC hpl hask) ?_;rintro _ X4 ⟨⟨bb,rfl,hbb⟩,e4⟩;rw[hSB]at hbb;refine nE e4 ?_;have e4':=(zI 0 h3).trans (zb (h:=h3) e4);have e4'':Ext h3 (outC h3 (inC X4)):=e4';refine goU ?_;cases bb with
  |false=>
   refine gr ?_;refine⟨⟨false,rfl,?_⟩,e2.trans (e3.trans e4'')⟩;simp only[Bool.false_eq_true,false_iff];exact fun hall=>absurd (hbb.2 (hall _ (zS hi'))) Bool.noConfusion
  |true=>
   refine go ?_;refine zA (i+1) (by omega) ⟨e3.trans e4'',sln,by omega,⟨fun j hj=> ?_⟩⟩;by_cases e:j=i
   ·subst e;exact hbb.1 rfl
   ·exact hI.out j (by omega)
 ·have hii:i=l.length:=by omega
  refine gr ?_;refine⟨⟨true,rfl,?_⟩,e2.trans e3⟩;simp only[true_iff];intro r hr;obtain⟨j,hj,rfl⟩:=List.getElem_of_mem hr;have:=hI.out j (by omega);rw[show l.getD j 0=l[j] by rw[List.getD_eq_getElem?_getD,List.getElem?_eq_getElem hj];rfl]at this;exact this
end
set_option maxRecDepth 100000
def zDd (B:LBlk) (i:Nat):Prop:=0<i→(B.ins.getD (i - 1) default).op=22
theorem zLw {T:List LType} {F:List LFn} {ks:List Int} {ps:List (Int×Int)} {nx:Int→List Int} {L:List LBlk} {P:List Int} {b:Int} {B:LBlk}:
  (∀ i,i<B.ins.length→zAW T F ks ps nx L P b i (∀ j,j<i→(B.ins.getD j default).op=22) (B.ins.getD i default))↔(∀ i,i<B.ins.length→zAW T F ks ps nx L P b i (zDd B i) (B.ins.getD i default)):=by
 constructor
 ·intro h i hi;obtain⟨a,b,c,d⟩:=h i hi;exact⟨a,b,fun e=>⟨fun h0=>(c e).1 _ (by omega),(c e).2⟩,d⟩
 ·intro h i hi;have key:∀ k,k<B.ins.length→(B.ins.getD k default).op=22→∀ j,j≤k→(B.ins.getD j default).op=22:=fun k=>by
   induction k with
   |zero=>intro _ e j hj;rw[show j=0 by omega];exact e
   |succ k ih=>
    intro hk e j hj;by_cases hjk:j=k+1
    ·rw[hjk];exact e
    ·exact ih (by omega) (((h (k+1) hk).2.2.1 e).1 (by omega)) j (by omega)
  obtain⟨a,b,c,d⟩:=h i hi;exact⟨a,b,fun e=>⟨fun j hj=>key i hi e j (by omega),(c e).2⟩,d⟩
section
variable {vt vf:Value} {T:List LType} {F:List LFn}
def zKF:ACode:=(oV (oV (oR [oM 52 11,oF 6 53 10,oL 54 53,oQ 55 54,oB .lss 56 52 55]) (oT 56 0)) (oV (o5 1 (oV (o6 [oA 2 59 4,oM 60 1,oF 5 61 10,oL 62 61,oM 63 11,oI 1 64 62 63,oL 65 64,oF 6 66 10,oL 67 66,oM 68 11,oI 1 69 67 68,oL 70 69,oF 1 71 4,oL 72 71,oM 73 1,oI 2 74 72 73,oF 1 75 74,oL 76 75,oF 6 77 10,oL 78 77,oM 79 11,oI 1 80 78 79,oL 81 80,oI 5 82 76 81,oF 0 83 82,oL 84 83,oQ 85 84,(⟨some 86,none,(.call (.func 182) [(.tmp 59),(.tmp 60),(.tmp 65),(.tmp 70),(.tmp 85)])⟩,[]),oW 87 86]) (oJ 87 (oV (oR [oZ 8]) .ret) .skip))) (oR [oM 57 11,oC .add 58 57 1,oM 11 58])))
def zPG:ACode:=(oV (oR [oX 4 0,oZ 8]) (oV (oR [oF 1 12 4,oL 13 12,oM 14 1,oI 2 15 13 14,oF 1 16 15,oL 17 16,oM 18 2,oI 5 19 17 18,oA 5 20 19,⟨some 9,none,(.alloc [(.slice none 0 0),(.int .u8 0),(.int .i64 0),(.int .i64 0),(.int .i64 0)])⟩,oS 5 9 20]) (oV (oR [oF 0 21 9,oL 22 21,oM 23 3,oI 7 24 22 23,oA 7 25 24,⟨some 10,none,(.alloc [(.int .u8 0),(.int .i64 0),(.int .i64 0),(.int .i64 0),(.int .i64 0),(.slice none 0 0),(.slice none 0 0)])⟩,oS 7 10 25]) (oV (oV (o6 [oF 6 26 10,oL 27 26,oF 1 28 4,oL 29 28,oM 30 1,oI 2 31 29 30,oF 1 32 31,oL 33 32,oM 34 2,(o2 35 181 33 34,[1]),o2 36 129 27 35,oW 37 36,oM 38 37,oH 38 (oM 39 3),oH 38 (oC .gtr 40 39 0),oH 38 (oM 41 40),oG 41 (oF 0 42 9),oG 41 (oL 43 42),oG 41 (oM 44 3),oG 41 (oC .sub 45 44 1),oG 41 (oI 7 46 43 45),oG 41 (oF 0 47 46),oG 41 (oL 48 47),oG 41 (oD .neq 49 48 22),oH 38 (oP 50 41 49),oO 51 38 50]) (oJ 51 (oV (oR [oZ 8]) .ret) .skip)) (oV (oV (oR [oN 11 0]) (o5 0 (.loop zKF))) (oV (oR [oK 8 (.bool true)]) .ret))))))
theorem zMs (h:AHeap) (f b:Int) (i:Nat) (E:En h vt vf T F) (hp:yX T F=0) (Z:FnIn T F f) (hway:∀ c,0≤c→c<((zJ F f).length:Int)→Way (nxL (zJ F f)) 0 c) (hb:0≤b∧b<((zJ F f).length:Int)) (hi:i<((zJ F f).getD b.toNat default).ins.length) (hop:(((zJ F f).getD b.toNat default).ins.getD i default).op=22):
  WC Tryz.prog tb 124 [.agg #[vt,vf],I f,I b,I i] h fun q h'=>(∃ bb,q= .bool bb∧(bb=true↔zDd ((zJ F f).getD b.toNat default) i∧(((zJ F f).getD b.toNat default).ins.getD i default).frm=zP (zJ F f) b (zJ F f).length∧
   zRq (nxL (zJ F f)) (psF T F f) (zJ F f) (((zJ F f).getD b.toNat default).ins.getD i default).frm (((zJ F f).getD b.toNat default).ins.getD i default).args))∧Ext h h':=by
 have hf:=Z.hf;have hF:=E.sm.funcs;have hreg:=Z.reg;have hn16:=Z.n16;have hb0:=Z.bl 0 (Int.le_refl 0) (by have:=Z.n1;omega);have hbe:(zD T F f 0).2=0:=by rw[hb0]
 have hask:∀ c,0≤c→c<((zJ F f).length:Int)→Zp T F f c=0:=fun c c0 c1=>by
  unfold Zp;rw[if_neg (fun e=>e hbe),if_neg (by rw[hb0];show ¬(_∨((zJ F f).length:Int)≤_);omega),if_pos ((ZH hbe).2 (by rw[hb0];exact hway c c0 c1))]
 have hU:=(Z.U _ (zH (l:=zJ F f) (i:=b.toNat) (by omega))).ins _ (zH hi);obtain⟨hfl,hargs,hfrm⟩:=hU.phi hop;have ha20:=hU.args;have hset:∀ (k:Nat),k<(((zJ F f).getD b.toNat default).ins.getD i default).frm.length→_:=fun k hk=>zM8 (f:=f) (r:=(((zJ F f).getD b.toNat default).ins.getD i default).args.getD k 0) (block:=(((zJ F f).getD b.toNat default).ins.getD i default).frm.getD k 0) (at':=(((zJ F f).getD ((((zJ F f).getD b.toNat default).ins.getD i default).frm.getD k 0).toNat default).ins.length:Int)) hp Z (hargs _ (zS (by omega))).1 (by have:=(hargs _ (zS (l:=(((zJ F f).getD b.toNat default).ins.getD i default).args) (i:=k) (by omega))).2;omega) (hfrm _ (zS hk));have hil:∀ B∈zJ F f,B.ins.length≤1000:=E.sm.ins _ (zH (l:=F) (i:=f.toNat) (by omega));replace hset:=Hid.mk @hset;replace hargs:=Hid.mk hargs;replace hfrm:=Hid.mk hfrm;replace hask:=Hid.mk hask;replace hway:=Hid.mk hway;replace hil:=Hid.mk hil;refine en 88 [(8,none)] zPG ?_;refine WO.bx ?_;intro p4 h4 e4 o4;replace o4:OwnC h h4 p4 [vt,vf]:=o4;have E4:=E.ext e4;have sf4:=E4.sf;obtain⟨cs,⟨vb,rfl,sb,hlb⟩,pc,hs⟩:=zo (i:=f.toNat) sf4 (by omega);have sb:SlB h4 vb (zJ F f):=sb;have pc4:=(pc _ (Ext.refl _)).1;obtain⟨csb,⟨vi,rfl,si,hli⟩,pcb,hsb⟩:=zo (i:=b.toNat) sb (by omega);have pcb4:=(pcb _ (Ext.refl _)).1;generalize hBd:(zJ F f).getD b.toNat default=B at *;obtain⟨csx,hR,pcx,hsx⟩:=zo (i:=i) si hi;have pcx4:=(pcx _ (Ext.refl _)).1;generalize hxd:B.ins.getD i default=x at *;obtain⟨xa,xf,rfl,sxa,sxf,hla,hlf,ho⟩:=id hR;obtain⟨a1,a2,a3,rfl⟩:=SlC.shape sxa;obtain⟨f1,f2,f3,rfl⟩:=SlC.shape sxf;obtain⟨v1,v2,v3,rfl⟩:=zF si;refine go ?_;refine WO.al ?_;intro p9 h5 e5 o9;refine go ?_;refine WO.stC0 (cs:=[.slice v1 v2 v3,.int .u8 B.fin.kind,I B.fin.a,I B.fin.to,I B.fin.els]) o9 e5 ?_;intro h6 e6 o9 u9;have si6:=SlN.ext si e6;have pcx6:=(pcx _ e6).1;have o46:=o4.ext e6;refine go ?_;refine WO.al ?_;intro p10 h7 e7 o10;refine go ?_;refine WO.stC0 (cs:=[.int .u8 x.op,I x.ty,I x.a,I x.b,I x.n,.slice a1 a2 a3,.slice f1 f2 f3]) o10 e7 ?_;intro h8 e8 o10 u10;have e48:=e6.trans e8;have e08:=e4.trans e48;have o48:=o46.ext e8;have o98:=o9.ext e8;have E8:=E4.ext e48;have sxa8:=sxa.ext e48;have sxf8:=sxf.ext e48;refine go ?_;refine WX.cutA [26,27,28,29,30,31,32,33,34,35,36,37,38,39,40,41,42,43,44,45,46,47,48,49,50,51] (by kernel_rfl) (fun t h'=>Ext h8 h'∧∃ q,zB t 51= .bool q∧Hid (q=false↔zDd B i∧x.frm=zP (zJ F f) b (zJ F f).length)) ?_ ?_
 ·refine WX.regionU2 0 rfl rfl ?_;have ea:=zI 0 h8;have o4X:=OwnC.ia (o48.ext ea);have o9X:=OwnC.ia (o98.ext ea);have o10X:=OwnC.ia (o10.ext ea);have sf8:=E8.sf;have sfX:SlF (inC (zC 0 h8)) vf F:=sf8;have pcX:=(pc _ (e48.trans ea)).2;have sbX0:=SlB.ext sb (e48.trans ea);have sbX:SlB (inC (zC 0 h8)) vb (zJ F f):=sbX0;have sxfX:=SlI.ia (sxf8.ext ea);refine goU ?_;refine WO.con (zJ7 _ vb (zJ F f) b sbX (by omega)) ?_;rintro va X9 ⟨oa,e9⟩;refine nE e9 ?_;have e9':=ea.trans (zb (h:=h8) e9);have sxf9:=SlI.ia (sxfX.ext e9);have o99:=OwnC.ia (o9X.ext e9);have si90:=SlN.ext si (e48.trans e9');have si9:SlN (inC X9) (.slice v1 v2 v3) B.ins:=si90;refine goU ?_;refine WO.con (YZ _ _ va x.frm _ sxf9 (SlI.ia oa.sl) (by omega)) ?_;rintro _ _ ⟨rfl,rfl⟩;refine nQ ?_;by_cases cA:x.frm=zP (zJ F f) b (zJ F f).length;case neg=>
   rw[decide_eq_false cA];refine goU ?_;exact zE ⟨e9',true,sl_,⟨by simp[cA]⟩⟩
  rw[decide_eq_true cA];by_cases c0:i=0
  ·subst c0;refine goU ?_;exact zE ⟨e9',false,sl_,⟨by simp[cA,zDd]⟩⟩
  ·obtain⟨csy,⟨ya,yf,rfl,sya,syf,hya,hyf,hyo⟩,pcy,hsy⟩:=zo (i:=i - 1) si (by omega);obtain⟨y1,y2,y3,rfl⟩:=SlC.shape sya;obtain⟨y4,y5,y6,rfl⟩:=SlC.shape syf;have pcy9:=(pcy _ (e48.trans e9')).2;generalize hyd:B.ins.getD (i - 1) default=y at *;have hi1:((i:Int) - 1).toNat=i - 1:=by omega
   have pcy9':Piece (inC X9) (.slice v1 v2 v3) (((i:Int) - 1).toNat * 7) [.int .u8 y.op,I y.ty,I y.a,I y.b,I y.n,.slice y1 y2 y3,.slice y4 y5 y6]:=by rw[hi1];exact pcy9
   by_cases cy:y.op=22
   ·refine goU ?_;rw[show (!decide (y.op=22))=false by rw[decide_eq_true cy];rfl];exact zE ⟨e9',false,sl_,⟨by simp only[true_iff];exact⟨fun _=>by rw[hyd];exact cy,cA⟩⟩⟩
   ·refine goU ?_;rw[show (!decide (y.op=22))=true by rw[decide_eq_false cy];rfl];exact zE ⟨e9',true,sl_,⟨by simp only[Bool.true_eq_false,false_iff];exact fun q=>cy (by have:=q.1 (by omega);rwa [hyd]at this)⟩⟩
 rintro t9 h9 hs9 ⟨e9,q,s51,hq⟩;have e09:=e08.trans e9;have o49:=o48.ext e9;have o109:=o10.ext e9;have E9:=E8.ext e9;have e49:=e48.trans e9;have sxa9:=sxa8.ext e9;have sxf9:=sxf8.ext e9;refine ZV ?_;cases q with
 |true=>
  refine gr ?_;exact⟨⟨false,rfl,by have:=hq.out;simp only[Bool.true_eq_false,false_iff]at this;simp only[Bool.false_eq_true,false_iff];exact fun hh=>this ⟨hh.1,hh.2.1⟩⟩,e09⟩
 |false=>
  refine go ?_;refine WX.loopA [52,53,54,55,56,59,60,61,62,63,64,65,66,67,68,69,70,71,72,73,74,75,76,77,78,79,80,81,82,83,84,85,86,87,8,57,58,11] (by kernel_rfl) (fun k=>x.frm.length - k) (fun k t h'=>Ext h9 h'∧zB t 11=I k∧k≤x.frm.length∧Hid (∀ j,j<k→zBD (nxL (zJ F f)) ((psF T F f).getD (x.args.getD j 0).toNat default) (x.frm.getD j 0) (((zJ F f).getD (x.frm.getD j 0).toNat default).ins.length))) 0 ?_ ?_
  ·exact⟨Ext.refl _,sl_,Nat.zero_le _,⟨fun j hj=>absurd hj (Nat.not_lt_zero _)⟩⟩
  rintro k t h10 hsame ⟨e10,s11,hk,hI⟩;have o410:=o49.ext e10;have o1010:=o109.ext e10;have sxa10:=sxa9.ext e10;have sxf10:=sxf9.ext e10;refine go ?_;refine WX.br (fun hb=> ?_) (fun hb=> ?_)<;>simp only[DB]at hb
  ·have hk':k<x.frm.length:=by omega
   have hka:k<x.args.length:=by omega
   have E10:=E9.ext e10;obtain⟨hpl,hSB⟩:=hset.out k hk';have hfk:=hfrm.out _ (zS hk');refine go ?_;refine WX.regionU2 0 rfl rfl ?_;have ea:=zI 0 h10;have e4X:=(e49.trans e10).trans ea;have o4X:=OwnC.ia (o410.ext ea);have o10X:=OwnC.ia (o1010.ext ea);have sfX:=E10.inC.sf;have pcX:=(pc _ e4X).2;have sbX0:=SlB.ext sb e4X;have sbX:SlB (inC (zC 0 h10)) vb (zJ F f):=sbX0;have sxaX:=SlI.ia (sxa10.ext ea);have sxfX:=SlI.ia (sxf10.ext ea);obtain⟨csf,⟨vj,rfl,sj,hlj⟩,pcj,hsj⟩:=zo (i:=(x.frm.getD k 0).toNat) sb (by omega);have pcjX:=(pcj _ e4X).2;have sjX0:=SlN.ext sj e4X;have sjX:SlN (inC (zC 0 h10)) vj ((zJ F f).getD (x.frm.getD k 0).toNat default).ins:=sjX0;obtain⟨_,_,_,rfl⟩:=zF sj;refine goU ?_;refine WO.con (zF3 _ vt vf T F f (x.args.getD k 0) (x.frm.getD k 0) (((zJ F f).getD (x.frm.getD k 0).toNat default).ins.length) E10.inC hpl (hask.out _ hfk.1 hfk.2)) ?_;rintro _ X11 ⟨⟨bb,rfl,hbb⟩,e11⟩;rw[hSB]at hbb;refine nE e11 ?_;have e11':=ea.trans (zb (h:=h10) e11);have e11'':Ext h10 (outC h10 (inC X11)):=e11';refine goU ?_;cases bb with
   |false=>
    refine gr ?_;refine⟨⟨false,rfl,?_⟩,e09.trans (e10.trans e11'')⟩;simp only[Bool.false_eq_true,false_iff];exact fun hall=>absurd (hbb.2 (hall.2.2 k hk')) Bool.noConfusion
   |true=>
    refine go ?_;refine zA (k+1) (by omega) ⟨e10.trans e11'',sln,by omega,⟨fun j hj=> ?_⟩⟩;by_cases e:j=k
    ·subst e;exact hbb.1 rfl
    ·exact hI.out j (by omega)
  ·have hkk:k=x.frm.length:=by omega
   refine gr ?_;have:=hq.out.1 rfl;exact⟨⟨true,rfl,by simp only[true_iff];exact⟨this.1,this.2,fun j hj=>hI.out j (by omega)⟩⟩,e09.trans e10⟩
end
end
end Go.Proofs.YteekipjpghikkaaGreatDoor
