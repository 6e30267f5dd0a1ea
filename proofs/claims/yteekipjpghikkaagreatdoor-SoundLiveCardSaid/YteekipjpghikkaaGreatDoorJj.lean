/- What functions of the program come to in the abstract machine, and plain laws about it; no statement of the seat is proved in this text. -/
import Derived.Test.YteekipjpghikkaaGreatDoorJi
import Derived.Test.YteekipjpghikkaaGreatDoorJg
import Derived.Test.YteekipjpghikkaaGreatDoorJh
import Derived.Test.YteekipjpghikkaaGreatDoorJh
import Derived.Test.YteekipjpghikkaaGreatDoorAmV
set_option linter.unusedVariables false
set_option linter.unusedSimpArgs false
set_option maxHeartbeats 2000000
namespace Go.Proofs.YteekipjpghikkaaGreatDoor
noncomputable section
open Go.Am
set_option maxRecDepth 100000
theorem zUJ {xs:List Int} {n:Nat} {c:Int} (h0:0<=c) (h1:c<(n:Int)):(Z8 xs n).getD c.toNat 0=upL xs c:=by
 unfold Z8;rw[QE,GR,List.getElem?_range (by omega)];show upL xs ((c.toNat:Nat):Int)=_;rw[show ((c.toNat:Nat):Int)=c by omega]
section
variable {vt vf:Value} {T:List LType} {F:List LFn} {f:Int} {ks:List Int} {ps:List (Int×Int)} {xs:List Int} {n:Nat} {g:Nat} {nx:Int->List Int}
def zMT:ACode:=(oV (oV (oR [oM 7 2,oM 8 1,oB .neq 9 7 8,oM 10 9,oG 10 (oM 11 2),oG 10 (oC .neq 12 11 (-1)),oP 13 10 12]) (oT 13 0)) (o5 1 (oR [oM 14 0,⟨some 15,none,(.nilCheck (.tmp 14))⟩,oF 5 16 15,oL 17 16,oM 18 2,oI 1 19 17 18,oL 20 19,oM 2 20])))
def zSJ:ACode:=(oV (oR [oZ 6]) (oV (o5 0 (.loop zMT)) (oV (oR [oM 21 1,oM 22 2,oB .eql 23 21 22,oM 6 23]) .ret)))
theorem zNK (h:AHeap) (a b:Int) (M:FnM h g vt vf T F f ks ps (Z8 xs n)) (r:Rul nx xs) (w:Way nx 0 b) (hb:0<=b/\b<16) (hin:∀ c,Way nx 0 c->0<=c/\c<(n:Int)) (ha:0<=a):
  WC Tryz.prog tb 170 [.pointer (some ⟨g,0,none⟩),I a,I b] h fun q h'=>(∃ bb,q= .bool bb/\(bb=true↔Dom nx a b))/\h=h':=by
 obtain⟨⟨hB,vk,vp,vr,o,ka,kb,kc⟩,st,sf,hm⟩:=M;have hin:=Hid.mk hin;refine en 24 [(6,none)] zSJ ?_;refine WX.loopA [7,8,9,10,11,12,13,14,15,16,17,18,19,20,2] (by kernel_rfl) (fun i=>16 - i) (fun i t h1=>h=h1/\∃ c,zB t 2=I c/\Hid (Chn nx a b i c false)) 0 ?_ ?_
 ·exact⟨rfl,b,sl_,⟨.inr ⟨w,hb,by have:=zRJ nx b;omega,by simp⟩⟩⟩
 rintro i t _ hsame ⟨rfl,c,s2,hC⟩;by_cases hca:c=a
 ·subst hca;have hd:Dom nx c b:=by
   rcases hC.out with ⟨h1,_⟩|⟨_,_,_,h2⟩
   ·omega
   ·exact h2.2 (.inr (Dom.self nx c))
  refine gr ?_;exact⟨⟨true,by simp[one],by simp[hd]⟩,rfl⟩
 by_cases hc1:c= -1
 ·have hd:¬Dom nx a b:=by
   rcases hC.out with ⟨_,h2⟩|⟨_,h1,_⟩
   ·rw[h2];simp
   ·omega
  have hac:(a == c)=false:=by simp;exact fun e=>hca e.symm
  refine gr ?_;exact⟨⟨false,by simp[one];exact fun e=>hca e.symm,by simp[hd]⟩,rfl⟩
 have hc0:0<=c:=by
  rcases hC.out with ⟨h1,_⟩|⟨_,h1,_⟩
  ·exact absurd h1 hc1
  ·exact h1.1
 obtain⟨wc,hc16,hi15⟩:=hC.out.way hc0;have hcn:=hin.out c wc;have hul:=zMo xs n;have hat:=zUJ (xs:=xs) hcn.1 hcn.2;have hnext:Chn nx a b (i+1) (upL xs c) false:=by
  by_cases hz:c=0
  ·subst hz;have:=hC.out.last;rw[show (false||decide ((0:Int)=a))=false by simp;exact fun e=>hca e]at this;unfold upL;rw[QH rfl];exact this
  ·have:=(hC.out.next r (show 0<c by omega)).1;rw[show (false||decide (c=a))=false by simp;exact hca]at this;unfold upL;rw[QC hz];exact this
 refine go ?_;exact zA (i+1) (by omega) ⟨rfl,upL xs c,by rw[<-hat];exact sl_,⟨hnext⟩⟩
def zBb (nx:Int->List Int) (p:Int×Int) (block at':Int):Prop:=if p.1=block then p.2<at' else p.1= -1\/Dom nx p.1 block
def zQa:ACode:=(oV (oR [oZ 5]) (oV (oR [oL 7 1,⟨some 8,none,(.nilCheck (.tmp 7))⟩,oF 4 9 8,oL 10 9,oM 11 0,oI 2 12 10 11,oA 2 13 12,⟨some 6,none,(.alloc [(.int .i64 0),(.int .i64 0)])⟩,oS 2 6 13]) (oV (oV (oR [⟨some 14,none,(.idxArr 2 1 (.tmp 6) (.const (.int .i64 0)))⟩,oL 15 14,oL 16 2,oB .eql 17 15 16]) (oJ 17 (oV (oR [⟨some 18,none,(.idxArr 2 1 (.tmp 6) (.const (.int .i64 1)))⟩,oL 19 18,oL 20 3,oB .geq 21 19 20,oM 5 21]) .ret) .skip)) (oV (oR [⟨some 22,none,(.idxArr 2 1 (.tmp 6) (.const (.int .i64 0)))⟩,oL 23 22,oC .neq 24 23 (-1),oM 25 24,oG 25 (oL 26 1),⟨some 27,some (25,true),(.idxArr 2 1 (.tmp 6) (.const (.int .i64 0)))⟩,oG 25 (oL 28 27),oG 25 (oL 29 2),oG 25 (o3 30 170 26 28 29),oG 25 (oW 31 30),oP 32 25 31,oM 5 32]) .ret))))
theorem zQD (h h1 h2 h3:AHeap) (p1 p2 p3:Value) (x block at':Int) (M:FnM h g vt vf T F f ks ps (Z8 xs n)) (r:Rul nx xs) (w:Way nx 0 block) (hb:0<=block/\block<16) (hin:∀ c,Way nx 0 c->0<=c/\c<(n:Int))
  (o1:OwnC h1 h p1 [.pointer (some ⟨g,0,none⟩)]) (o2:OwnC h2 h p2 [I block]) (o3:OwnC h3 h p3 [I at']) (hx:0<=x/\x<(ps.length:Int)) (hp:(ps.getD x.toNat default).1= -1\/0<=(ps.getD x.toNat default).1):
  WC Tryz.prog tb 169 [I x,p1,p2,p3] h fun q h'=>(∃ bb,q= .bool bb/\(bb=true↔¬zBb nx (ps.getD x.toNat default) block at'))/\Ext h h':=by
 obtain⟨⟨hB,vk,vp,vr,o,ka,kb,kc⟩,st,sf,hm⟩:=id M;obtain⟨cs,rfl,pc,hs⟩:=yG (i:=x.toNat) kb (by omega);have pc1:=(pc h (Ext.refl _)).1;obtain⟨_,_,_,rfl⟩:=zJ kb;generalize hq:ps.getD x.toNat default=q at *;obtain⟨q1,q2⟩:=q;unfold zBb;refine en 33 [(5,none)] zQa ?_;refine WO.al ?_;intro p4 h4 e4 o4;refine go ?_;refine WO.stC0 (cs:=[I q1,I q2]) o4 e4 ?_;intro h5 e5 o5 u5;have o1:=o1.ext e5;have o2:=o2.ext e5;have o3:=o3.ext e5;have M5:=M.ext e5;by_cases c1:q1=block
 ·subst c1;refine gr ?_;refine⟨⟨_,rfl,?_⟩,e5⟩;simp
 ·have hc1:(q1 == block)=false:=by simp;exact c1
  by_cases c2:q1= -1
  ·refine gr ?_;exact⟨⟨_,rfl,by rw[QC c1];simp[c2]⟩,e5⟩
  ·refine go ?_;refine WO.con (zNK h5 q1 block M5 r w hb hin (by rcases hp with h|h;exact absurd h c2;exact h)) ?_;rintro _ _ ⟨⟨bb,rfl,hbb⟩,rfl⟩;refine gr ?_;refine⟨⟨!bb,rfl,?_⟩,e5⟩;rw[QC c1];cases bb
   ·simp at hbb;simp[hbb,c2]
   ·simp at hbb;simp[hbb]
def zRx:ACode:=(oV (oR [oX 4 0,oX 5 1,oX 6 2,oZ 8]) (oV (oR [oM 9 3,⟨some 10,none,(.mkFunc (.func 169) [] [(.tmp 4),(.tmp 5),(.tmp 6)])⟩,o2 11 109 9 10,oW 12 11,oM 8 12]) .ret))
theorem zHQ (h:AHeap) (v:Value) (l:List Int) (block at':Int) (M:FnM h g vt vf T F f ks ps (Z8 xs n)) (r:Rul nx xs) (w:Way nx 0 block) (hb:0<=block/\block<16) (hin:∀ c,Way nx 0 c->0<=c/\c<(n:Int))
  (s:SlI h v l) (hl:l.length<=1000) (hx:∀ x∈l,0<=x/\x<(ps.length:Int)) (hp:∀ i,i<ps.length->(ps.getD i default).1= -1\/0<=(ps.getD i default).1):
  WC Tryz.prog tb 115 [.pointer (some ⟨g,0,none⟩),I block,I at',v] h fun q h'=>(∃ bb,q= .bool bb/\(bb=true↔∀ x∈l,zBb nx (ps.getD x.toNat default) block at'))/\Ext h h':=by
 refine en 13 [(8,none)] zRx ?_;refine WO.bx ?_;intro p1 h1 e1 o1;refine go ?_;refine WO.bx ?_;intro p2 h2 e2 o2;refine go ?_;refine WO.bx ?_;intro p3 h3 e3 o3;have e03:=e1.trans (e2.trans e3);have o1:=o1.ext (e2.trans e3);have o2:=o2.ext e3;have M3:=M.ext e03;have s3:=s.ext e03;refine go ?_;refine WO.con (zAT h3 v _ l (fun x=>open Classical in decide (¬zBb nx (ps.getD x.toNat default) block at')) s3 (by omega) ?_) ?_
 ·intro x hxl h4 e4;refine WV.func (WC.mono (zQD h4 h h1 h2 p1 p2 p3 x block at' (M3.ext e4) r w hb hin (o1.ext e4) (o2.ext e4) (o3.ext e4) (hx x hxl) (hp _ (by have:=hx x hxl;omega))) ?_);rintro _ h5 ⟨⟨bb,rfl,hbb⟩,e5⟩;refine⟨?_,e5⟩;congr 1;cases bb<;>simp_all
 rintro _ h4 ⟨rfl,e4⟩;refine gr ?_;refine⟨⟨_,rfl,?_⟩,e03.trans e4⟩;simp
end
set_option maxRecDepth 100000
structure Gr (F:List LFn) (f:Int) (nx:Int->List Int) (xs:List Int) (ps:List (Int×Int)) (L:List LBlk):Prop where
 hf:0<=f/\f<(F.length:Int)
 hL:(F.getD f.toNat default).blocks=L
 n:L.length<=16
 r:Rul nx xs
 way:∀ c,0<=c->c<(L.length:Int)->Way nx 0 c
 inn:∀ c,Way nx 0 c->0<=c/\c<(L.length:Int)
 pl:∀ i,i<ps.length->(ps.getD i default).1= -1\/0<=(ps.getD i default).1
def zVo (nx:Int->List Int) (ps:List (Int×Int)) (L:List LBlk) (frm args:List Int):Prop:=∀ i,i<frm.length->zBb nx (ps.getD (args.getD i 0).toNat default) (frm.getD i 0) ((L.getD (frm.getD i 0).toNat default).ins.length)
section
variable {vt vf:Value} {T:List LType} {F:List LFn} {f:Int} {ks:List Int} {ps:List (Int×Int)} {xs:List Int} {g:Nat} {nx:Int->List Int} {L:List LBlk}
def zLe:ACode:=(oV (oR [oB .lss 18 17 16]) (oV (oT 18 0) (oV (o5 1 (oV (oR [oM 19 17,oI 1 20 15 17,oL 21 20,oM 7 19,oM 8 21]) (oV (o6 [oM 22 0,oM 23 8,oM 24 0,(⟨some 25,none,(.nilCheck (.tmp 24))⟩,[]),oF 0 26 25,oF 1 27 26,oL 28 27,oM 29 0,(⟨some 30,none,(.nilCheck (.tmp 29))⟩,[]),oF 2 31 30,oL 32 31,oI 2 33 28 32,oF 1 34 33,oL 35 34,oM 36 8,oI 5 37 35 36,oF 0 38 37,oL 39 38,oQ 40 39,oF 5 41 4,oL 42 41,oM 43 7,oI 1 44 42 43,oL 45 44,(⟨some 46,none,(.buildSlice 1 1 [(.int .i64 0)] [(0,1,(.tmp 45))])⟩,[]),o4 47 115 22 23 40 46,oW 48 47]) (oJ 48 (oV (oR [oZ 6]) .ret) .skip)))) (oR [oC .add 49 17 1,oM 17 49]))))
def zQ0:ACode:=(oV (oR [oX 4 1,oZ 6]) (oV (oV (oR [oF 6 9 4,oL 10 9,oM 11 2,o2 12 168 10 11,oW 13 12]) (oJ 13 (oV (oR [oZ 6]) .ret) .skip)) (oV (oV (oR [oF 6 14 4,oL 15 14,oQ 16 15,oN 17 0]) (o5 0 (.loop zLe))) (oV (oR [oK 6 (.bool true)]) .ret))))
theorem zRq (h:AHeap) (x:LIns) (cs:List Value) (v:Value) (l:List Int) (M:FnM h g vt vf T F f ks ps (Z8 xs L.length)) (G:Gr F f nx xs ps L) (hR:RIns h cs x) (s:SlI h v l)
  (hfr:∀ i,i<x.frm.length->0<=x.frm.getD i 0/\x.frm.getD i 0<(L.length:Int)) (hlen:x.frm.length<=x.args.length) (hx:∀ i,i<x.args.length->0<=x.args.getD i 0/\x.args.getD i 0<(ps.length:Int)):
  WC Tryz.prog tb 114 [.pointer (some ⟨g,0,none⟩),.agg cs.toArray,v] h fun q h'=>(∃ bb,q= .bool bb/\(bb=true↔x.frm=l/\zVo nx ps L x.frm x.args))/\Ext h h':=by
 have hfr:=Hid.mk hfr;have hx:=Hid.mk hx;obtain⟨xa,xf,rfl,sxa,sxf,hla,hlf,ho⟩:=id hR;obtain⟨a1,a2,a3,rfl⟩:=SlC.shape sxa;obtain⟨f1,f2,f3,rfl⟩:=SlC.shape sxf;refine en 50 [(6,none)] zQ0 ?_;refine WO.bx ?_;intro p h3 e3 o3;have sf3:=sxf.ext e3;have s3:=s.ext e3;refine go ?_;refine WO.con (zGD h3 _ _ x.frm l sf3 s3 (by omega)) ?_;rintro _ _ ⟨rfl,rfl⟩;by_cases hfl:x.frm=l;case neg=>
  rw[QR hfl];refine gr ?_;exact⟨⟨false,rfl,by simp[hfl]⟩,e3⟩
 rw[QX hfl];refine go ?_;refine WX.loopA [18,19,20,21,7,8,22,23,24,25,26,27,28,29,30,31,32,33,34,35,36,37,38,39,40,41,42,43,44,45,46,47,48,6,49,17] (by kernel_rfl) (fun i=>x.frm.length - i) (fun i t h1=>Ext h3 h1/\zB t 17=I i/\i<=x.frm.length/\Hid (∀ j,j<i->zBb nx (ps.getD (x.args.getD j 0).toNat default) (x.frm.getD j 0) ((L.getD (x.frm.getD j 0).toNat default).ins.length))) 0 ?_ ?_
 ·exact⟨Ext.refl _,sl_,QW _,⟨fun j hj=>absurd hj (GH _)⟩⟩
 rintro i t h4 hsame ⟨e4,s17,hi,hI⟩;have e34:=e3.trans e4;have sf4:=sf3.ext e4;have o4:=o3.ext e4;refine go ?_;refine WX.br (fun hb=> ?_) (fun hb=> ?_)<;>simp only[DB]at hb
 ·have hif:i<x.frm.length:=by omega
  have hia:i<x.args.length:=by omega
  have hfr1:=hfr.out i hif;have hx1:=hx.out i hia;have hG:=G.hf;have hGL:=G.hL;have M4:=M.ext e34;refine go ?_;refine WX.regionU2 1 rfl rfl ?_;have ea:=zc 1 h4;have sa4:=SlI.ia (sxa.ext (e34.trans ea));have o4':=OwnC.ia (o4.ext ea);obtain⟨⟨hB,vk,vp,vr,o,a,b,c⟩,st,sf,hm⟩:=M4.aside 1;obtain⟨cs,⟨vb,rfl,sb,hlb⟩,pc,hsl⟩:=yG (i:=f.toNat) sf (by omega);have pc1:=(pc _ (Ext.refl _)).1;rw[hGL]at sb;obtain⟨cs2,⟨vi,rfl,si,hli⟩,pc',hsl'⟩:=yG (i:=(x.frm.getD i 0).toNat) sb (by omega);have pc2:=(pc' _ (Ext.refl _)).1;refine goU ?_;refine WU2.mkBl [x.args.getD i 0] M4.hm ?_;intro X5 n5 g5;have n5':X5.n=h4.n+1:=n5;have e5:Ext h4 (ze h4 X5):=zDy (X:=zC 1 h4) ea n5 g5 (QF _) (JS _);have sv5:=zCr (xs:=[x.args.getD i 0]) (by rw[g5,QH rfl]) (by omega:h4.n<X5.n);have M5:=FnM.inC' (M4.ext e5);clear o st sf hm c b a;refine goU ?_;refine WO.con (zHQ _ _ [x.args.getD i 0] (x.frm.getD i 0) ((L.getD (x.frm.getD i 0).toNat default).ins.length) M5 G.r (G.way _ hfr1.1 hfr1.2) (by have:=G.n;omega) G.inn sv5 (by simp) (fun y hy=>by rw[QS.1 hy];exact hx1) G.pl) ?_;rintro _ X6 ⟨⟨bb,rfl,hbb⟩,e6⟩;simp only[QS,forall_eq]at hbb;have e6':=e5.trans (yr (h:=h4) e6);refine WO.nil ?_;refine zBq e6 ?_;refine goU ?_;cases bb with
  |false=>
   refine gr ?_;refine⟨⟨false,rfl,?_⟩,e34.trans e6'⟩;simp only[Qj,JN,not_and];intro _ hall;exact absurd (hbb.2 (hall i hif)) Bool.noConfusion
  |true=>
   refine go ?_;refine zA (i+1) (by omega) ⟨e4.trans e6',sln,by omega,⟨fun j hj=> ?_⟩⟩;by_cases e:j=i
   ·subst e;exact hbb.1 rfl
   ·exact hI.out j (by omega)
 ·have hii:i=x.frm.length:=by omega
  subst hii;refine gr ?_;exact⟨⟨true,rfl,by simp only[true_iff];exact⟨hfl,hI.out⟩⟩,e34⟩
end
theorem WO.mi {P:Program} {tab:Tab} {l:List AOper} {t:Trie Value} {ds:List Deferred} {rd:Option Nat} {h:AHeap} {Q:AFr->AHeap->Prop} {d:Nat} {ty:TypeId} {x:Operand} {v:Value} (k:WO P tab l ⟨t.set d (.iface ty v),ds,rd⟩ h Q) (hx:Ope t x v:=by exact zK):WO P tab (⟨some d,none,.mkIface ty x⟩::l) ⟨t,ds,rd⟩ h Q:=
 WO.op _ _ rfl (by unfold Ope at *;simp only[aop,hx]) k
theorem zUl {P:Program} {tab:Tab} {m N0 g:Nat} {o:AOper} {un:List Nat} {l:List (AOper×List Nat)} {fr:AFr} {h:AHeap} {Q:AFr->AHeap->Prop} {t:Trie Value} (hr:zZ t o=none) (hx:WU2 P tab m N0 l g true fr (inC h) Q):uK2 P tab m N0 un t o (inC h) l g true Q fr (inC h):=
 zCV (fun g hg=>by rw[hr]at hg;cases hg) hx
structure InsT (T:List LType) (F:List LFn) (x:LIns):Prop where
 ty:InT T x.ty
 n14:x.op=14->0<=x.n
 n2:x.op=3\/x.op=18->0<=x.n/\x.n<(F.length:Int)
 l1:x.op=14\/x.op=15\/x.op=16\/x.op=17\/x.op=19->1<=(yj x).length
 l2:x.op=15\/x.op=17\/x.op=10->2<=(yj x).length
theorem zGE {x:LIns} {N n:Int} (u:InsU x N n):(yj x).length<=30:=by
 have:=u.args;unfold yj;simp only[QY];have h1:(if (zv x.op).1 then [x.a] else []).length<=1:=by split<;>simp
 have h2:(if (zv x.op).2.1 then [x.b] else []).length<=1:=by split<;>simp
 have h3:(if (zv x.op).2.2.2.1 then x.args else []).length<=20:=by
  split
  ·exact this
  ·exact QW _
 omega
theorem zU8 {T:List LType} {F:List LFn} {f:LFn} {x:LIns} (hT:0<T.length) (h:zCq x (szL T F.length f)=true):InsT T F x:=by
 have ho:=zOi h;have m:=(zEW (by omega)).1 h;have ha:=zCJ (op:=x.op) (by omega);have hty:=m.ans;have hn:=m.num;refine⟨?_,fun e=> ?_,fun e=> ?_,fun e=> ?_,fun e=> ?_⟩
 ·split at hty
  ·exact .inr hty
  ·exact .inr ⟨by omega,by omega⟩
 ·unfold zMq at hn;rw[QC (by omega),QC (by omega),QH e]at hn;exact hn.1
 ·unfold zMq at hn;rw[QC (by omega),QH e]at hn;exact hn
 ·have h1:(zv x.op).1=true:=ha.2.1.2 (by unfold zHj zJq;omega);unfold yj;rw[h1];simp
 ·have h1:(zv x.op).1=true:=ha.2.1.2 (by unfold zHj zJq;omega);have h2:(zv x.op).2.1=true:=ha.1.2 (by unfold zJq;omega);unfold yj;rw[h1,h2];simp
def YG (ks rs:List Int):List Int:=rs.map fun r=>ks.getD r.toNat 0
def zG6 (T:List LType) (F:List LFn) (ks:List Int) (ps:List (Int×Int)) (nx:Int->List Int) (L:List LBlk) (P:List Int) (b:Int) (i:Nat) (pre:Prop) (x:LIns):Prop:=
 ¬(-1:Int)∈YG ks (yj x)/\zHK T F x (YG ks (yj x))=true/\(x.op=22->pre/\x.frm=P/\zVo nx ps L x.frm x.args)/\(x.op≠22->∀ r∈yj x,zBb nx (ps.getD r.toNat default) b i)
def Z9 (T:List LType) (F:List LFn) (ks:List Int) (ps:List (Int×Int)) (nx:Int->List Int) (L:List LBlk) (P:List Int) (b:Int) (i:Nat):Prop:=
 zG6 T F ks ps nx L P b i (∀ j,j<i->((L.getD b.toNat default).ins.getD j default).op=22) ((L.getD b.toNat default).ins.getD i default)
def zEb (T:List LType) (F:List LFn) (f:Int) (ks:List Int) (ps:List (Int×Int)) (nx:Int->List Int) (b:Int) (B:LBlk):Prop:=
 (¬(-1:Int)∈YG ks (yW B.fin)/\∀ r∈yW B.fin,zBb nx (ps.getD r.toNat default) b B.ins.length)/\(B.fin.kind=2->isL T 1 (YG ks (yW B.fin))=true)/\(B.fin.kind=1\/B.fin.kind=2->B.fin.to≠0/\(B.fin.kind=1\/B.fin.els≠0))/\(B.fin.kind=3->(YG ks (yW B.fin)).getD 0 0=(T.getD (F.getD f.toNat default).sig.toNat default).elem)
def YY (T:List LType) (F:List LFn) (f:Int) (ks:List Int) (ps:List (Int×Int)) (nx:Int->List Int) (L:List LBlk) (b:Int):Prop:=zEb T F f ks ps nx b (L.getD b.toNat default)
def tyF:Nat:=119
def zAY (f b:Int):Value:= .iface tyF (.agg #[I f,I b,I 120])
section
variable {vt vf:Value} {T:List LType} {F:List LFn} {f:Int} {ks:List Int} {ps:List (Int×Int)} {xs:List Int} {g:Nat} {nx:Int->List Int} {L:List LBlk}
theorem SlN.ia {X:AHeap} {v:Value} {l:List LIns} (o:SlN X v l):SlN (inC X) v l:=o
theorem zN7 {h:AHeap} {vi:Value} {B:LBlk} {i:Nat} (s:SlN h vi B.ins) (hi:i<B.ins.length):∃ cs,RIns h cs (B.ins.getD i default)/\(∀ h',Ext h h'->Piece h' vi (i * 7) cs/\Piece (inC h') vi (i * 7) cs)/\zMH vi:=yG s hi
def zN1:Nat->ACode->ACode
 |n+1,.seq _ b=>zN1 n b
 |_,c=>c
def zQH:ACode:=(oV (oR [oB .lss 54 53 52]) (oV (oT 54 0) (oV (o5 1 (oV (oR [oM 55 53,oI 7 56 51 53,oA 7 57 56,⟨some 11,none,(.alloc [(.int .u8 0),(.int .i64 0),(.int .i64 0),(.int .i64 0),(.int .i64 0),(.slice none 0 0),(.slice none 0 0)])⟩,oM 10 55,oS 7 11 57]) (oV (oR [oA 7 58 11,o1 59 111 58,oM 12 59]) (oV (oR [oM 60 0,oM 61 12,o2 62 112 60 61,oM 13 62]) (o5 2 (oV (oR [oM 72 13,⟨some 73,none,(.call (.func 45) [(.tmp 72),(.const (.int .i64 (-1)))])⟩,oM 74 73,oH 74 (oM 75 0),oH 74 (oA 7 76 11),oH 74 (oM 77 13),oH 74 (o3 78 113 75 76 77),oH 74 (oW 79 78),oO 80 74 79,oM 71 80]) (oJ 71 (oV (oR [oA 3 81 8,⟨some 82,none,(.mkIface 119 (.tmp 81))⟩,oM 4 82]) .ret) (oV (oR [oF 0 84 11,oL 85 84,oD .eql 86 85 22,oM 83 86]) (oJ 83 (oV (oR [oM 87 9,oW 88 87,oM 89 88,oH 89 (oM 90 0),oH 89 (oA 7 91 11),oH 89 (oM 92 6),oH 89 (o3 93 114 90 91 92),oH 89 (oW 94 93),oO 95 89 94]) (oJ 95 (oV (oR [oA 3 96 8,⟨some 97,none,(.mkIface 119 (.tmp 96))⟩,oM 4 97]) .ret) .skip)) (oV (oR [oZ 9]) (oV (oR [oM 63 0,oM 64 1,oM 65 10,oM 66 12,o4 67 115 63 64 65 66,oW 68 67]) (oJ 68 (oV (oR [oA 3 69 8,⟨some 70,none,(.mkIface 119 (.tmp 69))⟩,oM 4 70]) .ret) .skip)))))))))))) (oR [oC .add 98 53 1,oM 53 98]))))
def zJO:ACode:=(oV (oR [⟨some 4,none,(.mov (.const .nilIface))⟩]) (oV (o6 [oM 16 0,(⟨some 17,none,(.nilCheck (.tmp 16))⟩,[]),oF 0 18 17,oF 1 19 18,oL 20 19,oM 21 0,(⟨some 22,none,(.nilCheck (.tmp 21))⟩,[]),oF 2 23 22,oL 24 23,oI 2 25 20 24,oF 1 26 25,oL 27 26,oM 28 1,oI 5 29 27 28,oA 5 30 29,(⟨some 5,none,(.alloc [(.slice none 0 0),(.int .u8 0),(.int .i64 0),(.int .i64 0),(.int .i64 0)])⟩,[]),oS 5 5 30]) (oV (o6 [oM 32 0,(⟨some 33,none,(.nilCheck (.tmp 32))⟩,[]),oF 0 34 33,oA 2 35 34,oM 36 0,(⟨some 37,none,(.nilCheck (.tmp 36))⟩,[]),oF 2 38 37,oL 39 38,oM 40 1,o3 41 19 35 39 40,oM 31 41,oE 42 31 0,oE 43 31 1,oM 6 42,oM 7 43]) (oV (oR [oM 44 0,⟨some 45,none,(.nilCheck (.tmp 44))⟩,oF 2 46 45,oL 47 46,oM 48 1,⟨some 49,none,(.build [(.int .i64 0),(.int .i64 0),(.int .i64 0)] [(0,1,(.tmp 47)),(1,1,(.tmp 48)),(2,1,(.const (.int .i64 120)))])⟩,⟨some 8,none,(.alloc [(.int .i64 0),(.int .i64 0),(.int .i64 0)])⟩,oS 3 8 49]) (oV (oR [oK 9 (.bool true)]) (oV (oV (oR [oF 0 50 5,oL 51 50,oQ 52 51,oN 53 0]) (o5 0 (.loop zQH))) (oV (oR [oM 99 0,oF 1 100 5,oA 4 101 100,o1 102 86 101,o2 103 112 99 102,oM 14 103]) (oV (o6 [oM 104 14,(⟨some 105,none,(.call (.func 45) [(.tmp 104),(.const (.int .i64 (-1)))])⟩,[]),oW 106 105,oM 107 106,oG 107 (oM 108 0),oG 107 (oM 109 1),oG 107 (oF 0 110 5),oG 107 (oL 111 110),oG 107 (oQ 112 111),oG 107 (oF 1 113 5),oG 107 (oA 4 114 113),(oG 107 (o1 115 86 114),[7]),oG 107 (o4 116 115 108 109 112 115),oP 117 107 116,oM 15 117]) (oV (oV (oR [oF 1 118 5,oF 0 119 118,oL 120 119]) (o5 3 (oV (o5 6 (oV (o5 5 (oV (o5 4 (oV (oV (oV (oR [oD .eql 122 120 2,oM 121 122]) (oJ 121 (.exit 4) .skip)) (oV (oV (oR [oD .eql 124 120 1,oM 123 124]) (oJ 123 (.exit 5) .skip)) (oV (oR [oD .eql 126 120 3,oM 125 126]) (oJ 125 (.exit 6) .skip)))) (.exit 3))) (oR [oM 127 15,oM 128 127,oG 128 (oM 129 0),oG 128 (oM 130 14),⟨some 131,some (128,true),(.call (.func 67) [(.tmp 129),(.const (.int .u8 1)),(.tmp 130)])⟩,oP 132 128 131,oM 15 132]))) (oV (oR [oM 133 15,oM 134 133,oG 134 (oF 1 135 5),oG 134 (oF 2 136 135),oG 134 (oL 137 136),oG 134 (oC .neq 138 137 0),oP 139 134 138,oM 140 139,oG 140 (oF 1 141 5),oG 140 (oF 0 142 141),oG 140 (oL 143 142),oG 140 (oD .eql 144 143 1),oG 140 (oM 145 144),oH 145 (oF 1 146 5),oH 145 (oF 3 147 146),oH 145 (oL 148 147),oH 145 (oC .neq 149 148 0),oG 140 (oO 150 145 149),oP 151 140 150,oM 15 151]) (.exit 3)))) (oV (o6 [oM 152 15,oM 153 152,oG 153 (oM 154 14),(⟨some 155,some (153,true),(.idx 1 (.tmp 154) (.const (.int .i64 0)))⟩,[]),oG 153 (oL 156 155),oG 153 (oM 157 0),(⟨some 158,some (153,true),(.nilCheck (.tmp 157))⟩,[]),oG 153 (oF 0 159 158),oG 153 (oF 0 160 159),oG 153 (oL 161 160),oG 153 (oM 162 0),(⟨some 163,some (153,true),(.nilCheck (.tmp 162))⟩,[]),oG 153 (oF 0 164 163),oG 153 (oF 1 165 164),oG 153 (oL 166 165),oG 153 (oM 167 0),(⟨some 168,some (153,true),(.nilCheck (.tmp 167))⟩,[]),oG 153 (oF 2 169 168),oG 153 (oL 170 169),oG 153 (oI 2 171 166 170),oG 153 (oF 0 172 171),oG 153 (oL 173 172),oG 153 (oI 4 174 161 173),oG 153 (oF 1 175 174),oG 153 (oL 176 175),oG 153 (oB .eql 177 156 176),oP 178 153 177,oM 15 178]) (.exit 3))))) (oV (oV (oR [oM 179 15,oW 180 179]) (oJ 180 (oV (oR [oA 3 181 8,⟨some 182,none,(.mkIface 119 (.tmp 181))⟩,oM 4 182]) .ret) .skip)) (oV (oR [⟨some 4,none,(.mov (.const .nilIface))⟩]) .ret)))))))))))
theorem zJx (h h8 h0 h00:AHeap) (t8:Trie Value) (b:Int) (B:LBlk) (P:List Int) (p5 p8 vl vi:Value) (q:Bool) (e08:Ext h h8) (M8:FnM h8 g vt vf T F f ks ps (Z8 xs L.length)) (hG:0<=f/\f<(F.length:Int)) (hBq:L.getD b.toNat default=B)
  (hsig:0<=(F.getD f.toNat default).sig/\(F.getD f.toNat default).sig<(T.length:Int)) (hinT:∀ t∈YG ks (yW B.fin),InT T t) (hell:(YG ks (yW B.fin)).length=(yW B.fin).length) (hue:(yW B.fin).length<=1)
  (o58:OwnC h0 h8 p5 [vi,.int .u8 B.fin.kind,I B.fin.a,I B.fin.to,I B.fin.els]) (o88:OwnC h00 h8 p8 [I f,I b,I 120]) (ol8:SlI h8 vl (YG ks (yW B.fin)))
  (s0:zB t8 0= .pointer (some ⟨g,0,none⟩)) (s1:zB t8 1=I b) (s5:zB t8 5=p5) (s8:zB t8 8=p8) (s14:zB t8 14=vl) (s15:zB t8 15= .bool q)
  (hI:Hid (∀ j,j<B.ins.length->Z9 T F ks ps nx L P b j)) (hq:Hid (q=true↔¬(-1:Int)∈YG ks (yW B.fin)/\∀ r∈yW B.fin,zBb nx (ps.getD r.toNat default) b B.ins.length)):
  WX Tryz.prog tb (zN1 8 zJO) ⟨t8,[],none⟩ h8 (zFA Tryz.prog tb [(4,none)] fun q h'=>(q= .nilIface/\(∀ i,i<B.ins.length->Z9 T F ks ps nx L P b i)/\YY T F f ks ps nx L b\/q=zAY f b/\¬((∀ i,i<B.ins.length->Z9 T F ks ps nx L P b i)/\YY T F f ks ps nx L b))/\Ext h h'):=by
 simp only[zN1,oV,zJO];have hE:YY T F f ks ps nx L b↔zEb T F f ks ps nx b B:=by unfold YY;rw[hBq]
 unfold zEb at hE;rw[<-hq.out]at hE;have goodE:∀ {h'},YY T F f ks ps nx L b->Ext h h'->(Value.nilIface= .nilIface/\(∀ i,i<B.ins.length->Z9 T F ks ps nx L P b i)/\YY T F f ks ps nx L b\/Value.nilIface=zAY f b/\¬((∀ i,i<B.ins.length->Z9 T F ks ps nx L P b i)/\YY T F f ks ps nx L b))/\Ext h h':=fun he e=>⟨.inl ⟨rfl,hI.out,he⟩,e⟩;have badE:∀ {h'},¬YY T F f ks ps nx L b->Ext h h'->(zAY f b= .nilIface/\(∀ i,i<B.ins.length->Z9 T F ks ps nx L P b i)/\YY T F f ks ps nx L b\/zAY f b=zAY f b/\¬((∀ i,i<B.ins.length->Z9 T F ks ps nx L P b i)/\YY T F f ks ps nx L b))/\Ext h h':=fun hn e=>⟨.inr ⟨rfl,fun ⟨_,a⟩=>hn a⟩,e⟩;have hE:=Hid.mk hE;have goodE:=Hid.mk @goodE;have badE:=Hid.mk @badE;refine go ?_;by_cases k2:B.fin.kind=2
 ·have k1:¬B.fin.kind=1:=by omega
  have k3:¬B.fin.kind=3:=by omega
  cases q with
  |false=>
   refine go ?_;refine WO.mi ?_;refine gr ?_;exact badE.out (fun e'=>have e:=hE.out.1 e';absurd e.1 Bool.noConfusion) e08
  |true=>
   refine go ?_;refine WO.con (yu h8 1 vl _ M8 ol8 (by omega) hinT) ?_;rintro _ h9 ⟨rfl,e9⟩;have o59:=o58.ext e9;have o89:=o88.ext e9;cases c1:isL T 1 (YG ks (yW B.fin))with
   |false=>
    refine go ?_;refine WO.mi ?_;refine gr ?_;exact badE.out (fun e'=>have e:=hE.out.1 e';absurd ((e.2.1 k2).symm.trans c1) Bool.noConfusion) (e08.trans e9)
   |true=>
    by_cases ct:B.fin.to=0
    ·have ct':¬B.fin.to≠0:=fun h=>h ct;refine go ?_;refine WO.mi ?_;refine gr ?_;exact badE.out (fun e'=>have e:=hE.out.1 e';(e.2.2.1 (.inr k2)).1 ct) (e08.trans e9)
    ·have ct':B.fin.to≠0:=ct;by_cases ce:B.fin.els=0
     ·have ce':¬B.fin.els≠0:=fun h=>h ce;refine go ?_;refine WO.mi ?_;refine gr ?_;exact badE.out (fun e'=>have e:=hE.out.1 e';(e.2.2.1 (.inr k2)).2.elim k1 (fun h=>h ce)) (e08.trans e9)
     ·have ce':B.fin.els≠0:=ce;refine go ?_;rw[QR ce];refine gr ?_;exact goodE.out (hE.out.2 ⟨rfl,fun _=>c1,fun _=>⟨ct,.inr ce⟩,fun h=>absurd h k3⟩) (e08.trans e9)
 refine go ?_;by_cases k1:B.fin.kind=1
 ·have k3:¬B.fin.kind=3:=by omega
  cases q with
  |false=>
   refine go ?_;refine WO.mi ?_;refine gr ?_;exact badE.out (fun e'=>have e:=hE.out.1 e';absurd e.1 Bool.noConfusion) e08
  |true=>
   by_cases ct:B.fin.to=0
   ·have ct':¬B.fin.to≠0:=fun h=>h ct;refine go ?_;refine WO.mi ?_;refine gr ?_;exact badE.out (fun e'=>have e:=hE.out.1 e';(e.2.2.1 (.inl k1)).1 ct) e08
   ·have ct':B.fin.to≠0:=ct;refine go ?_;rw[QR ct];refine gr ?_;exact goodE.out (hE.out.2 ⟨rfl,fun h=>absurd h k2,fun _=>⟨ct,.inl k1⟩,fun h=>absurd h k3⟩) e08
 refine go ?_;by_cases k3:B.fin.kind=3
 ·cases q with
  |false=>
   refine go ?_;refine WO.mi ?_;refine gr ?_;exact badE.out (fun e'=>have e:=hE.out.1 e';absurd e.1 Bool.noConfusion) e08
  |true=>
   have hel1:(YG ks (yW B.fin)).length=1:=by rw[hell];unfold yW;rw[QH (.inr k3)];rfl
   obtain⟨⟨hB3,vk3,vp3,vr3,om,oma,omb,omc⟩,st3,sf3,hm3⟩:=id M8;obtain⟨csf,⟨vbf,rfl,sbf,hlbf⟩,pcf,hslf⟩:=yG (i:=f.toNat) sf3 (by omega);have pcf1:=(pcf _ (Ext.refl _)).1;obtain⟨cst,⟨vat,rfl,sat,hlat⟩,pct,hslt⟩:=YL (i:=(F.getD f.toNat default).sig.toNat) st3 (by omega);by_cases ct:(YG ks (yW B.fin)).getD 0 0=(T.getD (F.getD f.toNat default).sig.toNat default).elem
   ·have cd:=QX ct;refine gr ?_;exact goodE.out (hE.out.2 ⟨rfl,fun h=>absurd h k2,fun h=>absurd h (by omega),fun _=>ct⟩) e08
   ·have cd:=QR ct;refine go ?_;refine WO.mi ?_;refine gr ?_;exact badE.out (fun e'=>have e:=hE.out.1 e';absurd (e.2.2.2 k3) ct) e08
 cases q with
 |false=>
  refine go ?_;refine WO.mi ?_;refine gr ?_;exact badE.out (fun e'=>have e:=hE.out.1 e';absurd e.1 Bool.noConfusion) e08
 |true=>
  refine gr ?_;exact goodE.out (hE.out.2 ⟨rfl,fun h=>absurd h k2,fun h=>absurd h (by omega),fun h=>absurd h k3⟩) e08
end
set_option maxRecDepth 100000
section
variable {vt vf:Value} {T:List LType} {F:List LFn} {f:Int} {ks:List Int} {ps:List (Int×Int)} {xs:List Int} {g:Nat} {nx:Int->List Int} {L:List LBlk}
theorem zMR (h:AHeap) (b:Int) (M:FnM h g vt vf T F f ks ps (Z8 xs L.length)) (G:Gr F f nx xs ps L) (E:Env h vt vf T F) (hc:ZV T=0) (hks:∀ t∈ks,InT T t) (hF:∀ f∈F,InT T f.sig)
  (hsig:0<=(F.getD f.toNat default).sig/\(F.getD f.toNat default).sig<(T.length:Int)) (hlen:ks.length=ps.length) (U:∀ B∈L,BlkU B ks.length L.length) (V:∀ B∈L,∀ x∈B.ins,InsT T F x) (hb:0<=b/\b<(L.length:Int)) (hil:(L.getD b.toNat default).ins.length<=1000):
  WC Tryz.prog tb 68 [.pointer (some ⟨g,0,none⟩),I b] h fun q h'=>(q= .nilIface/\(∀ i,i<(L.getD b.toNat default).ins.length->Z9 T F ks ps nx L (Zo T F f b).1 b i)/\YY T F f ks ps nx L b\/q=zAY f b/\¬((∀ i,i<(L.getD b.toNat default).ins.length->Z9 T F ks ps nx L (Zo T F f b).1 b i)/\YY T F f ks ps nx L b))/\Ext h h':=by
 have hb0:=hb;have hBL:L.getD b.toNat default∈L:=zI (by omega);have UB:=U _ hBL;have VB:=V _ hBL;have hG:=G.hf;have hGL:=G.hL;refine en 183 [(4,none)] zJO ?_;refine WX.regionU2 1 rfl rfl ?_;have ea:=zc 1 h;obtain⟨⟨hB,vk,vp,vr,o,a,b',c⟩,st,sf,hm⟩:=M.aside 1;obtain⟨cs,⟨vb,rfl,sb,hlb⟩,pc,hsl⟩:=yG (i:=f.toNat) M.sf (by omega);have pc1:=(pc _ ea).2;rw[hGL]at sb;have sbX:=SlB.ext sb ea;have sbX:SlB (inC (zC 1 h)) vb L:=sbX;obtain⟨cs2,⟨vi,rfl,si,hli⟩,pc',hsl'⟩:=yG (i:=b.toNat) sb (by omega);have pc2:=(pc' _ ea).2;obtain⟨ia,iN,ik,rfl⟩:=zJ si;refine goU ?_;refine WU2.alE (X:=inC (zC 1 h)) (Ext.refl _) E.hm ?_;intro h1 p5 e1 o5;have si1:SlN h1 _ (L.getD b.toNat default).ins:=SlN.ext si e1;have M1:=M.ext e1;have E1:=E.ext e1;clear o a b' c st sf hm sb sbX si pc1 pc2 pc pc' hsl hsl' ea;refine go ?_;refine WX.regionU2 0 rfl rfl ?_;obtain⟨⟨hB',vk',vp',vr',o,a,b',c⟩,st,sf,hm⟩:=M1.aside 0;refine goU ?_;refine WO.con (zId _ vt vf T F f b E1.tt (QF _) E1.sm E1.st E1.sf) ?_;rintro _ X2 ⟨⟨vq,rfl,oq0⟩,e2⟩;refine nE e2 ?_;have e2'':Ext h1 (ze h1 X2):=(zc 0 h1).trans (yr (h:=h1) e2);have e2':Ext h1 (ze h1 (inC X2)):=e2'';refine goU ?_;have oq:OwnN h1 (ze h1 (inC X2)) vq (Zo T F f b).1:=oq0;generalize (Zo T F f b).2=eq at *;generalize ze h1 (inC X2)=h2 at *;generalize hP:(Zo T F f b).1=P at *;clear o a b' c st sf hm oq0 e2 e2'';have M2:=M1.ext e2';have o5:=o5.ext e2';have si2:=SlN.ext si1 e2';have e02:=e1.trans e2';obtain⟨⟨hB2,vk2,vp2,vr2,om,oma,omb,omc⟩,omd,ome,omf⟩:=id M2;refine go ?_;refine WO.al ?_;intro p8 h3 e3 o8;refine go ?_;refine WO.stC0 (cs:=[I f,I b,I 120]) o8 e3 ?_;intro h4 e4 o8 u8;have e04:=e02.trans e4;have M4:=M2.ext e4;have o5:=o5.ext e4;have si4:=SlN.ext si2 e4;have oq4:=oq.ext e4;clear oma omb omc omd ome omf om M1 si1 E1;have E4:=E.ext e04;generalize hBq:L.getD b.toNat default=B at *;refine go ?_;refine WX.loopA [54,55,56,57,11,10,58,59,12,60,61,62,13,72,73,74,75,76,77,78,79,80,71,81,82,4,84,85,86,83,87,88,89,90,91,92,93,94,95,96,97,4,9,63,64,65,66,67,68,69,70,4,98,53] (by kernel_rfl) (fun i=>B.ins.length - i) (fun i t h1=>Ext h4 h1/\zB t 53=I i/\i<=B.ins.length/\(∃ fl,zB t 9= .bool fl/\Hid (fl=true↔∀ j,j<i->(B.ins.getD j default).op=22))/\Hid (∀ j,j<i->Z9 T F ks ps nx L P b j)) 0 ?_ ?_
 ·exact⟨Ext.refl _,sl_,QW _,⟨true,sl_,⟨by simp⟩⟩,⟨fun j hj=>absurd hj (GH _)⟩⟩
 rintro i t h5 hsame ⟨e5,s53,hi,⟨fl,s9,hfl⟩,hI⟩;have M5:=M4.ext e5;have o55:=o5.ext e5;have o85:=o8.ext e5;have si5:=SlN.ext si4 e5;have oq5:=oq4.ext e5;have E5:=E4.ext e5;have e05:=e04.trans e5;refine go ?_;refine WX.br (fun hb=> ?_) (fun hb=> ?_)<;>simp only[DB]at hb
 ·have hi':i<B.ins.length:=by omega
  obtain⟨cs,hR,pcx,hsx⟩:=zN7 si5 hi';have hxm:B.ins.getD i default∈B.ins:=zI hi';generalize hx:B.ins.getD i default=x at *;have hok:Z9 T F ks ps nx L P b i↔zG6 T F ks ps nx L P b i (∀ j,j<i->(B.ins.getD j default).op=22) x:=by unfold Z9;rw[hBq,hx]
  have ux:=UB.ins x hxm;have vx:=VB x hxm;have pcx1:=(pcx h5 (Ext.refl _)).1;obtain⟨xa,xf,rfl,sxa,sxf,hla,hlf,ho⟩:=id hR;obtain⟨xa1,xa2,xa3,rfl⟩:=SlC.shape sxa;obtain⟨xf1,xf2,xf3,rfl⟩:=SlC.shape sxf;refine go ?_;refine WO.al ?_;intro p11 h6 e6 o11;refine go ?_;refine WO.stC0 (cs:=[.int .u8 x.op,I x.ty,I x.a,I x.b,I x.n,.slice xa1 xa2 xa3,.slice xf1 xf2 xf3]) o11 e6 ?_;intro h7 e7 o11 u7;have hR7:=hR.ext e7;have E7:=E5.ext e7;refine go ?_;refine WO.con (zIU h7 x _ hR7 E7.tt ux.args) ?_;rintro vu h8 ⟨ou,e8⟩;have e58:=e7.trans e8;refine go ?_;refine WO.con (zNx h8 vu (yj x) (M5.ext e58) ou.sl (by have:=zGE ux;omega) (fun r hr=>ux.uses r hr)) ?_;rintro vl h9 ⟨ol,e9⟩;have e59:=e58.trans e9;have e09:=e05.trans e59;have bad:∀ {h'},¬Z9 T F ks ps nx L P b i->Ext h h'->(zAY f b= .nilIface/\(∀ i,i<B.ins.length->Z9 T F ks ps nx L P b i)/\YY T F f ks ps nx L b\/zAY f b=zAY f b/\¬((∀ i,i<B.ins.length->Z9 T F ks ps nx L P b i)/\YY T F f ks ps nx L b))/\Ext h h':=fun hn e=>⟨.inr ⟨rfl,fun ⟨a,_⟩=>hn (a i hi')⟩,e⟩;have bad:=Hid.mk @bad;have hok:=Hid.mk hok;have M9:=M5.ext e59;have o89:=o85.ext e59;have o119:=o11.ext (e8.trans e9);have hlu:=zGE ux;have ouI:=ou.sl.ext e9;have hll:(YG ks (yj x)).length=(yj x).length:=by unfold YG;simp
  have hinT:∀ t∈YG ks (yj x),InT T t:=fun t ht=>by
   obtain⟨r,hr,rfl⟩:=Q0.1 ht;have:=ux.uses r hr;exact hks _ (yT (by omega))
  replace ol:OwnN h8 h9 vl (YG ks (yj x)):=ol;have R9:=hR.ext e59;refine go ?_;refine WO.con (zAB h9 vl (YG ks (yj x)) (-1) ol.sl (by omega)) ?_;rintro _ _ ⟨rfl,rfl⟩;by_cases c1:(-1:Int)∈YG ks (yj x)
  ·rw[QX c1];refine go ?_;refine WO.mi ?_;refine gr ?_;exact bad.out (fun q=>(hok.out.1 q).1 c1) e09
  rw[QR c1];refine go ?_;refine WO.con (zNL h9 x _ vl (YG ks (yj x)) M9 hc R9 ol.sl (by omega) hinT vx.ty hF vx.n14 vx.n2 (fun e=>by have:=vx.l1 e;omega) (fun e=>by have:=vx.l2 e;omega)) ?_;rintro _ h10 ⟨rfl,e10⟩;have e010:=e09.trans e10;have o810:=o89.ext e10;have o1110:=o119.ext e10;cases c2:zHK T F x (YG ks (yj x))with
  |false=>
   refine go ?_;refine WO.mi ?_;refine gr ?_;exact bad.out (fun q=>absurd ((hok.out.1 q).2.1.symm.trans c2) Bool.noConfusion) e010
  |true=>
  have M10:=M9.ext e10;have oq10:=oq5.ext (e59.trans e10);have R10:=R9.ext e10;refine go ?_;by_cases c3:x.op=22
  ·cases fl with
   |false=>
    refine go ?_;refine WO.mi ?_;refine gr ?_;exact bad.out (fun q=>absurd (hfl.out.2 ((hok.out.1 q).2.2.1 c3).1) Bool.noConfusion) e010
   |true=>
    refine go ?_;have hph:=ux.phi c3;refine WO.con (zRq h10 x _ _ P M10 G R10 oq10.sl (fun j hj=>hph.2.2 _ (yT hj)) (by omega) (fun j hj=>by have:=hph.2.1 _ (yT hj);omega)) ?_;rintro _ h11 ⟨⟨bb,rfl,hbb⟩,e11⟩;have e011:=e010.trans e11;have o811:=o810.ext e11;cases bb with
    |false=>
     refine go ?_;refine WO.mi ?_;refine gr ?_;exact bad.out (fun q=>absurd (hbb.2 ((hok.out.1 q).2.2.1 c3).2) Bool.noConfusion) e011
    |true=>
     refine go ?_;refine zA (i+1) (by omega) ⟨e5.trans (e59.trans (e10.trans e11)),sln,by omega,⟨true,sl_,⟨?_⟩⟩,⟨fun j hj=> ?_⟩⟩
     ·simp only[true_iff];intro j hj;by_cases e:j=i
      ·subst e;rw[hx];exact c3
      ·exact hfl.out.1 rfl j (by omega)
     ·by_cases e:j=i
      ·subst e;exact hok.out.2 ⟨c1,c2,fun _=>⟨hfl.out.1 rfl,hbb.1 rfl⟩,fun h=>absurd c3 h⟩
      ·exact hI.out j (by omega)
  ·refine go ?_;have ou10:=ouI.ext e10;refine WO.con (zHQ h10 vu (yj x) b i M10 G.r (G.way b hb0.1 hb0.2) (by have:=G.n;omega) G.inn ou10 (by omega) (fun r hr=>by have:=ux.uses r hr;omega) G.pl) ?_;rintro _ h11 ⟨⟨bb,rfl,hbb⟩,e11⟩;have e011:=e010.trans e11;have o811:=o810.ext e11;cases bb with
   |false=>
    refine go ?_;refine WO.mi ?_;refine gr ?_;exact bad.out (fun q=>absurd (hbb.2 ((hok.out.1 q).2.2.2 c3)) Bool.noConfusion) e011
   |true=>
    refine go ?_;refine zA (i+1) (by omega) ⟨e5.trans (e59.trans (e10.trans e11)),sln,by omega,⟨false,sl_,⟨?_⟩⟩,⟨fun j hj=> ?_⟩⟩
    ·simp only[Qj,JN];intro hall;have:=hall i (by omega);rw[hx]at this;exact c3 this
    ·by_cases e:j=i
     ·subst e;exact hok.out.2 ⟨c1,c2,fun h=>absurd h c3,fun _=>hbb.1 rfl⟩
     ·exact hI.out j (by omega)
 ·have hii:i=B.ins.length:=by omega
  subst hii;obtain⟨⟨hB3,vk3,vp3,vr3,om,oma,omb,omc⟩,st3,sf3,hm3⟩:=id M5;refine go ?_;refine WO.con (zEG h5 B.fin) ?_;rintro ve h6 ⟨oe,e6⟩;refine go ?_;have hue:(yW B.fin).length<=1:=by unfold yW;split<;>simp
  refine WO.con (zNx h6 ve (yW B.fin) (M5.ext e6) oe.sl (by omega) UB.ends) ?_;rintro vl h7 ⟨ol,e7⟩;replace ol:OwnN h6 h7 vl (YG ks (yW B.fin)):=ol;have e57:=e6.trans e7;have e07:=e05.trans e57;have hell:(YG ks (yW B.fin)).length=(yW B.fin).length:=by unfold YG;simp
  have hinT:∀ t∈YG ks (yW B.fin),InT T t:=fun t ht=>by
   obtain⟨r,hr,rfl⟩:=Q0.1 ht;have:=UB.ends r hr;exact hks _ (yT (by omega))
  have M7:=M5.ext e57;have o87:=o85.ext e57;have o57:=o55.ext e57;have si7:=SlN.ext si5 e57;clear om oma omb omc st3 sf3 hm3;refine go ?_;refine WX.cutA [104,105,106,107,108,109,110,111,112,113,114,115,116,117,15] (by kernel_rfl) (fun t h'=>Ext h7 h'/\∃ q,zB t 15= .bool q/\Hid (q=true↔¬(-1:Int)∈YG ks (yW B.fin)/\∀ r∈yW B.fin,zBb nx (ps.getD r.toNat default) b B.ins.length)) ?_ ?_
  ·refine WX.regionU2 0 rfl rfl ?_;have ea:=zc 0 h7;have olX:=SlI.ia (ol.sl.ext ea);have o5X:=OwnC.ia (o57.ext ea);have siX:=SlN.ia (SlN.ext si7 ea);refine goU ?_;refine WO.con (zAB _ vl _ (-1) olX (by omega)) ?_;rintro _ _ ⟨rfl,rfl⟩;refine nQ ?_;by_cases c1:(-1:Int)∈YG ks (yW B.fin)
   ·rw[QX c1];refine goU ?_;refine zUl zFP ?_;refine goU ?_;exact zE ⟨ea,false,sl_,⟨by simp[c1]⟩⟩
   ·rw[QR c1];refine goU ?_;refine WO.con (zEG _ B.fin) ?_;rintro ve2 X8 ⟨oe2,e8⟩;refine nE e8 ?_;have e8':=ea.trans (yr (h:=h7) (X:=zC 0 h7) (Y:=X8) e8);refine goU ?_;refine WO.con (zHQ _ ve2 (yW B.fin) b B.ins.length (FnM.inC' (M7.ext e8')) G.r (G.way b hb0.1 hb0.2) (by have:=G.n;omega) G.inn (SlI.ia oe2.sl) (by omega) (fun r hr=>by have:=UB.ends r hr;omega) G.pl) ?_;rintro _ X9 ⟨⟨bb,rfl,hbb⟩,e9⟩;refine nE e9 ?_;have e9':=e8'.trans (yr (h:=h7) e9);refine goU ?_;exact zE ⟨e9',bb,sl_,⟨by rw[hbb];simp[c1]⟩⟩
  rintro t8 h8 hs8 ⟨e8,q,s15,hq⟩;refine Zu ?_;exact zJx (xs:=xs) h h8 _ _ t8 b B P p5 p8 vl _ q (e07.trans e8) (M7.ext e8) hG hBq hsig hinT hell hue (o57.ext e8) (o87.ext e8) (ol.sl.ext e8) (by exact Zy) (by exact Zy) (by exact Zy) (by exact Zy) (by exact Zy) s15 hI hq
end
set_option maxRecDepth 100000
theorem zCd (h h':AHeap) (cs:List Value) (a:Int×Int) (r:RPl h cs a):RPl h' cs a:=r
structure FO (hB h:AHeap) (p:Value) (vt vf:Value) (f:Int) (ks:List Int) (ps:List (Int×Int)) (rs:List Int) (vk vp vr:Value):Prop where
 own:OwnC hB h p [vt,vf,I f,vk,vp,vr]
 k:OwnN hB h vk ks
 q:OwnR 2 RPl hB.n h vp ps
 r:OwnN hB h vr rs
 kp:OffV vk vp
 kr:OffV vk vr
 pr:OffV vp vr
 ok:OffV p vk
 op:OffV p vp
 or:OffV p vr
 s:(∃ a n k,vk= .slice a n k)/\(∃ a n k,vp= .slice a n k)/\(∃ a n k,vr= .slice a n k)
section
variable {hB h h' h2:AHeap} {p vt vf:Value} {f:Int} {ks:List Int} {ps:List (Int×Int)} {rs:List Int} {vk vp vr v':Value}
theorem FO.ext (F:FO hB h p vt vf f ks ps rs vk vp vr) (e:Ext h h'):FO hB h' p vt vf f ks ps rs vk vp vr:=⟨F.own.ext e,F.k.ext e,F.q.ext e,F.r.ext e,F.kp,F.kr,F.pr,F.ok,F.op,F.or,F.s⟩
theorem FO.putK {ks':List Int} (F:FO hB h p vt vf f ks ps rs vk vp vr) (u:Upd vk h h') (hn:hB.n<=h.n) (o:OwnI h h' v' ks') (oc:OwnC hB h2 p [vt,vf,I f,v',vp,vr]) (u2:UpdC p h' h2):FO hB h2 p vt vf f ks' ps rs v' vp vr:=by
 have hs:zEU h v':=(OwnN.since' (.inr o));have u1:=u.upB;have u2:=u2.upB;have o1:=OffV.fresh hs F.own.within;have o2:=OffV.fresh hs F.q.within;have o3:=OffV.fresh hs F.r.within;have ob:OwnN hB h' v' ks':= .inr (let ⟨g,a,b⟩:=o;⟨g,QV hn a,b⟩);exact⟨oc,ob.upB u2 o1.symm,(F.q.upB zCd u1 F.kp).upB zCd u2 F.op,(F.r.upB u1 F.kr).upB u2 F.or,o2,o3,F.pr,o1.symm,F.op,F.or,⟨SlC.shape ob.sl,F.s.2⟩⟩
theorem FO.putP {ps':List (Int×Int)} (F:FO hB h p vt vf f ks ps rs vk vp vr) (u:UpB vp h h') (hs:zEU h v') (hsl:∃ a n k,v'= .slice a n k) (o:OwnR 2 RPl hB.n h' v' ps') (oc:OwnC hB h2 p [vt,vf,I f,vk,v',vr]) (u2:UpdC p h' h2):FO hB h2 p vt vf f ks ps' rs vk v' vr:=by
 have u2:=u2.upB;have o1:=OffV.fresh hs F.own.within;have o2:=OffV.fresh hs F.k.within;have o3:=OffV.fresh hs F.r.within;exact⟨oc,(F.k.upB u F.kp.symm).upB u2 F.ok,o.upB zCd u2 o1.symm,(F.r.upB u F.pr).upB u2 F.or,o2.symm,F.kr,o3,F.ok,o1.symm,F.or,⟨F.s.1,hsl,F.s.2.2⟩⟩
end
theorem zPJ {α:Type} {n i:Nat} {a d:α} (h:i<n):(List.replicate n a).getD i d=a:=by
 rw[QE,Gu,QH h];rfl
theorem zS9 {h:AHeap} {b g k:Nat} {x y:Int} (h1:b<=g) (h2:g<h.n) (hg:h.get g=some (.row (zW [I x,I y] k) true 0)):OwnR 2 RPl b h (.slice (some ⟨g,0,none⟩) k 2) (List.replicate k (x,y)):=by
 refine .inr ⟨g,zW [I x,I y] k,fun _=>False,h1,h2,by rw[Gc],hg,by rw[zo,Gc];rfl,id,fun _ h=>h.elim,fun i a ha hx _ _=> ?_⟩;rw[Gu]at ha;split at ha;case isFalse=>cases ha
 rename_i hi;cases ha;show _=_;have h3:List.drop (i * 2) (zW [I x,I y] k)=zW [I x,I y] (k - i):=zBT (z:=[I x,I y]);rw[h3,show k - i=(k - i - 1)+1 by omega];rfl
theorem zDP {L:List LBlk} (h:∀ b∈L,b.ins.length<=1000):∀ n,n<=L.length->(yc L n).length<=1000 * n
 |0,_=>QW _
 |n+1,hn=>by
  have:=zDP h n (by omega);have h2:=h _ (zI (l:=L) (i:=n) (by omega));show (yc L n++_).length<=_;rw[QY,GK,G5];omega
theorem zEN {L:List LBlk} (h:∀ b∈L,b.ins.length<=1000):∀ n,n<=L.length->(YO (L.take n)).length<=1000 * n
 |0,_=>by simp[YO]
 |n+1,hn=>by
  have:=zEN h n (by omega);have h2:=h _ (zI (l:=L) (i:=n) (by omega));rw[zA4 (by omega),QY,GK];omega
theorem zJR {α:Type} [Inhabited α] {l:List α} {n:Nat} (h:n<l.length):l.take (n+1)=l.take n++[l.getD n default]:=by
 rw[GI,QB h,QE,QB h];rfl
def zTQ:ACode:=(oV (oR [oZ 2]) (oV (oR [oM 3 0,o1 4 43 3,⟨some 5,none,(.part false 5 1 (.tmp 4))⟩,oM 2 5]) .ret))
theorem zIm (h:AHeap) (op:Int) (tt:Tbl h) (h0:0<=op) (h1:op<=255):WC Tryz.prog tb 18 [.int .u8 op] h fun r h'=>r= .bool (zv op).2.2.2.2.2/\Ext h h':=by
 refine en 6 [(2,none)] zTQ ?_;refine WO.con (zOU h op tt h0 h1) ?_;rintro _ h2 ⟨rfl,e2⟩;refine gr ?_;exact⟨rfl,e2⟩
def zPy:ACode:=(oV (oR [oB .lss 63 62 61]) (oV (oT 63 2) (oV (o5 3 (oV (oR [oM 64 62,oI 7 65 60 62,oA 7 66 65,⟨some 9,none,(.alloc [(.int .u8 0),(.int .i64 0),(.int .i64 0),(.int .i64 0),(.int .i64 0),(.slice none 0 0),(.slice none 0 0)])⟩,oM 8 64,oS 7 9 66]) (oV (oR [oM 67 5,oM 68 5,⟨some 69,none,(.nilCheck (.tmp 68))⟩,oF 4 70 69,oL 71 70,oM 72 6,oM 73 8,⟨some 74,none,(.build [(.int .i64 0),(.int .i64 0)] [(0,1,(.tmp 72)),(1,1,(.tmp 73))])⟩,⟨some 75,none,(.buildSlice 1 2 [(.int .i64 0),(.int .i64 0)] [(0,2,(.tmp 74))])⟩,oY 2 76 71 75,⟨some 77,none,(.nilCheck (.tmp 67))⟩,oF 4 78 77,oS 1 78 76]) (oV (oR [oN 10 (-1)]) (oV (oV (oR [oF 0 79 9,oL 80 79,o1 81 18 80]) (oJ 81 (oR [oF 1 82 9,oL 83 82,oM 10 83]) .skip)) (oR [oM 84 5,oM 85 5,⟨some 86,none,(.nilCheck (.tmp 85))⟩,oF 3 87 86,oL 88 87,oM 89 10,⟨some 90,none,(.buildSlice 1 1 [(.int .i64 0)] [(0,1,(.tmp 89))])⟩,oY 1 91 88 90,⟨some 92,none,(.nilCheck (.tmp 84))⟩,oF 3 93 92,oS 1 93 91])))))) (oR [oC .add 94 62 1,oM 62 94]))))
def zPt:ACode:=(oV (oR [oB .lss 55 54 53]) (oV (oT 55 0) (oV (o5 1 (oV (oR [oM 56 54,oI 5 57 52 54,oA 5 58 57,⟨some 7,none,(.alloc [(.slice none 0 0),(.int .u8 0),(.int .i64 0),(.int .i64 0),(.int .i64 0)])⟩,oM 6 56,oS 5 7 58]) (oV (oR [oF 0 59 7,oL 60 59,oQ 61 60,oN 62 0]) (o5 2 (.loop zPy))))) (oR [oC .add 95 54 1,oM 54 95]))))
def zVB:ACode:=(oV (oR [oX 2 0,oK 4 (.pointer none)]) (oV (o6 [oA 2 11 2,oM 12 1,oF 0 13 2,oL 14 13,oF 1 15 2,oL 16 15,oM 17 1,oI 2 18 16 17,oF 0 19 18,oL 20 19,oI 4 21 14 20,oF 3 22 21,oL 23 22,(o1 24 55 23,[0]),(⟨some 25,none,(.build [(.slice none 0 0),(.slice none 0 0),(.int .i64 0),(.slice none 0 0),(.slice none 0 0),(.slice none 0 0)] [(0,2,(.tmp 11)),(2,1,(.tmp 12)),(3,1,(.tmp 24))])⟩,[]),oX 26 25,oM 5 26]) (oV (oR [oM 28 5,oA 2 29 2,oM 30 1,o2 31 56 29 30,oM 27 31,oE 32 27 0,oE 33 27 1,⟨some 34,none,(.nilCheck (.tmp 28))⟩,oF 5 35 34,oS 1 35 32]) (oV (oR [oM 36 5,⟨some 37,none,(.build [(.int .i64 0),(.int .i64 0)] [(0,1,(.const (.int .i64 (-1)))),(1,1,(.const (.int .i64 (-1))))])⟩,⟨some 38,none,(.buildSlice 1 2 [(.int .i64 0),(.int .i64 0)] [(0,2,(.tmp 37))])⟩,oM 39 5,⟨some 40,none,(.nilCheck (.tmp 39))⟩,oF 3 41 40,oL 42 41,oQ 43 42,o2 44 57 38 43,⟨some 45,none,(.nilCheck (.tmp 36))⟩,oF 4 46 45,oS 1 46 44]) (oV (oV (oR [oF 1 47 2,oL 48 47,oM 49 1,oI 2 50 48 49,oF 1 51 50,oL 52 51,oQ 53 52,oN 54 0]) (o5 0 (.loop zPt))) (oV (oR [oM 96 5,oM 4 96]) .ret))))))
theorem zKt (h:AHeap) (vt vf:Value) (T:List LType) (F:List LFn) (f:Int) (E:Env h vt vf T F) (ha:Zt T F f 0=0) (hf:0<=f/\f<(F.length:Int)) (hsig:0<=(F.getD f.toNat default).sig/\(F.getD f.toNat default).sig<(T.length:Int)) (hL:(F.getD f.toNat default).blocks.length<=16):
  WC Tryz.prog tb 27 [.agg #[vt,vf],I f] h fun r h'=>(∃ g xs,r= .pointer (some ⟨g,0,none⟩)/\Rul (nxF T F f) xs/\
   FnM h' g vt vf T F f (zHX (T.getD (F.getD f.toNat default).sig.toNat default).parts (F.getD f.toNat default).blocks) (zD3 (T.getD (F.getD f.toNat default).sig.toNat default).parts.length (F.getD f.toNat default).blocks) (Z8 xs (F.getD f.toNat default).blocks.length))/\Ext h h':=by
 have hI:=E.sm.ins _ (zI (l:=F) (i:=f.toNat) (by omega));have hP:=E.sm.parts _ (zI (l:=T) (i:=(F.getD f.toNat default).sig.toNat) (by omega));have hI:=Hid.mk hI;refine en 97 [(4,none)] zVB ?_;refine WO.bx ?_;intro p0 h1 e1 o1;have E1:=E.ext e1;refine go ?_;refine WX.regionU2 1 rfl rfl ?_;have ea:=zc 1 h1;have o1X:=OwnC.ia (o1.ext ea);obtain⟨cs,⟨vb,rfl,sb,hlb⟩,pc,hsl⟩:=yG (i:=f.toNat) E1.sf (by omega);have pc1:=(pc _ ea).2;obtain⟨cst,⟨vat,rfl,sat,hlat⟩,pct,hslt⟩:=yG (i:=(F.getD f.toNat default).sig.toNat) E1.st (by omega);have pct1:=(pct _ ea).2;have satX:=SlI.ia (sat.ext ea);have stX0:=SlT.ext E1.st ea;have stX:SlT (inC (zC 1 h1)) vt T:=stX0;have sfX0:=SlF.ext E1.sf ea;have sfX:SlF (inC (zC 1 h1)) vf F:=sfX0;refine goU ?_;refine WO.con (zIZ _ vat _ satX (by omega)) ?_;rintro vk X2 ⟨ok,e2⟩;obtain⟨k1,k2,k3,rfl⟩:=SlC.shape ok.sl;have hlt:h1.n<X2.n:=e2.n;refine nE e2 ?_;refine goU ?_;refine WU2.mkBx E1.hm ?_;intro X3 n3 g3;have e3:=zDy ((zc 1 h1).trans (yr (h:=h1) e2)) n3 g3 (QF _) hlt;have o5:OwnC h1 (ze h1 (inC X3)) (.pointer (some ⟨h1.n,0,none⟩)) [vt,vf,I f,(.slice k1 k2 k3),.slice none 0 0,.slice none 0 0]:=⟨h1.n,QF _,by show h1.n<X3.n;omega,rfl,by show X3.get _=_;rw[g3,QH rfl];rfl⟩;have ok5:OwnN h1 (ze h1 (inC X3)) (.slice k1 k2 k3) (T.getD (F.getD f.toNat default).sig.toNat default).parts:=by
  rcases ok with ok|⟨g,g1,g2,g4,g5⟩
  ·exact .inl ok
  ·have g1:h1.n+1<=g:=g1;exact .inr ⟨g,by omega,by show g<X3.n;omega,g4,by show X3.get g=_;rw[g3,QC (by omega)];exact g5⟩
 have f5:OffV (.pointer (some ⟨h1.n,0,none⟩)) (.slice k1 k2 k3):=fun b hb hk=>by
  cases hb;have:=OwnN.since' ok _ hk;have:h1.n+1<=h1.n:=this;omega
 refine goU ?_;have e4:Ext h1 (ze h1 (inC X3)):=e3;generalize ze h1 (inC X3)=h4 at *;clear g3 n3 e3 e2 ok hlt X2;have E4:=E1.ext e4;have e04:=e1.trans e4;have o14:=o1.ext e4;refine go ?_;refine WO.con (zR9 h4 vt vf T F f E4) ?_;rintro _ h5 ⟨⟨vr,rs,rfl,orr,hlr,hrs,_⟩,e5⟩;obtain⟨r1,r2,r3,rfl⟩:=SlC.shape orr.sl;obtain⟨xs,hRul,rfl⟩:=hrs ha;have o55:=o5.ext e5;have e45:=e4.trans e5;rw[ha];refine go ?_;refine WO.stC (cs:=[.slice r1 r2 r3]) (j:=5) (hl:=by simp) o55 e45 ?_;intro h6 e6 o6 u6;replace o6:OwnC h1 h6 (.pointer (some ⟨h1.n,0,none⟩)) [vt,vf,I f,.slice k1 k2 k3,.slice none 0 0,.slice r1 r2 r3]:=o6;have fr:=OffV.fresh (OwnN.since' orr) o5.within;have ok6:=(ok5.ext e5).upB u6.upB f5;have or6:=orr.upB u6.upB fr.symm;have fkr:=(OffV.fresh (OwnN.since' orr) ok5.within).symm;refine go ?_;refine WO.bl1 (cs:=[I (-1),I (-1)]) ?_;intro h7 e7 n7 s7 _;have ok7:=ok6.ext e7;have o7:=o6.ext e7;refine go ?_;refine WO.con (zJX h7 _ (-1) (-1) (T.getD (F.getD f.toNat default).sig.toNat default).parts.length s7 (yC (e6.trans e7) E1.hm) (by omega)) ?_;rintro _ h8 ⟨⟨gp,gp1,gp2,rfl,gp3⟩,e8⟩;have e68:=e7.trans e8;have e18:=e6.trans e68;have o8:=o6.ext e68;have n17:h1.n<=h7.n:=(e6.trans e7).n;have op8:=zS9 (b:=h1.n) (by omega) gp2 gp3;have ok8:=ok6.ext e68;have or8:=or6.ext e68;have hsp:zEU h7 (.slice (some ⟨gp,0,none⟩) (T.getD (F.getD f.toNat default).sig.toNat default).parts.length 2):=fun b hb=>by cases hb;exact gp1
 have fp1:=OffV.fresh hsp (o6.ext e7).within;have fp2:=OffV.fresh hsp (ok6.ext e7).within;have fp3:=OffV.fresh hsp (or6.ext e7).within;refine go ?_;refine WO.stC (cs:=[.slice (some ⟨gp,0,none⟩) (T.getD (F.getD f.toNat default).sig.toNat default).parts.length 2]) (j:=4) (hl:=by simp) o8 e18 ?_;intro h9 e9 o9 u9;have n4:h1.n<=h4.n:=e4.n;have FO9:FO h1 h9 (.pointer (some ⟨h1.n,0,none⟩)) vt vf f (T.getD (F.getD f.toNat default).sig.toNat default).parts (List.replicate (T.getD (F.getD f.toNat default).sig.toNat default).parts.length (-1,-1)) (Z8 xs (F.getD f.toNat default).blocks.length) (.slice k1 k2 k3) (.slice (some ⟨gp,0,none⟩) (T.getD (F.getD f.toNat default).sig.toNat default).parts.length 2) (.slice r1 r2 r3):=
  ⟨o9,ok8.upB u9.upB f5,op8.upB zCd u9.upB fp1.symm,(or8.since e4).upB u9.upB fr.symm,fp2.symm,fkr,fp3,f5,fp1.symm,fr.symm,⟨⟨_,_,_,rfl⟩,⟨_,_,_,rfl⟩,⟨_,_,_,rfl⟩⟩⟩
 have o19:=o1.ext e9;have pc9:=(pc _ e9).1;have sb9:=SlB.ext sb e9;have sf9:=SlF.ext E1.sf e9;clear o9 u9 o8 op8 ok8 or8 fp1 fp2 fp3 hsp gp3 gp1 gp2 o7 ok7 s7 o6 ok6 or6 u6 o55 orr ok5 o5 E4 o14 fr fkr f5 pc1 pct1 satX stX sfX stX0 sfX0 o1X ea pct hslt sat;have hI2:=hI.out;generalize hLd:(F.getD f.toNat default).blocks=L at *;generalize hpd:(T.getD (F.getD f.toNat default).sig.toNat default).parts=par at *;refine go ?_;refine WX.loopA [55,56,57,58,7,6,59,60,61,62,63,64,65,66,9,8,67,68,69,70,71,72,73,74,75,76,77,78,10,79,80,81,82,83,10,84,85,86,87,88,89,90,91,92,93,94,62,95,54] (by kernel_rfl) (fun i=>L.length - i) (fun i t h'=>Ext h1 h'/\zB t 54=I i/\i<=L.length/\∃ vk vp,FO h1 h' (.pointer (some ⟨h1.n,0,none⟩)) vt vf f (par++YO (L.take i)) (List.replicate par.length (-1,-1)++yc L i) (Z8 xs L.length) vk vp (.slice r1 r2 r3)) 0 ?_ ?_
 ·exact⟨e9,sl_,QW _,_,_,by simpa [YO,yc]using FO9⟩
 rintro i t h10 hsame ⟨e10,s54,hi,vk,vp,G10⟩;refine go ?_;refine WX.br (fun hb=> ?_) (fun hb=> ?_)<;>simp only[DB]at hb;rotate_left 1
 ·have hii:i=L.length:=by omega
  subst hii;rw[GN]at G10;refine gr ?_;exact⟨⟨h1.n,xs,rfl,hRul,⟨h1,_,_,_,G10.own,G10.k.sl,G10.q.sl,G10.r.sl⟩,SlT.ext E1.st e10,SlF.ext E1.sf e10,yC e10 E1.hm⟩,e1.trans e10⟩
 have hi':i<L.length:=by omega
 obtain⟨csb,⟨vi,rfl,si,hli⟩,pcb,hsb⟩:=yG (i:=i) sb (by omega);have pcb10:=(pcb _ e10).1;have sb10:=SlB.ext sb e10;have hil:=hI2 _ (zI hi');have hkl:=zEN hI2 i (by omega);have hpl:=zDP hI2 i (by omega);generalize hBd:L.getD i default=B at *;obtain⟨ia,iN,ik,rfl⟩:=zJ si;refine go ?_;refine WO.al ?_;intro p7 h11 e11 o7;refine go ?_;refine WO.stC0 (cs:=[.slice ia iN ik,.int .u8 B.fin.kind,I B.fin.a,I B.fin.to,I B.fin.els]) o7 e11 ?_;intro h12 e12 o7 u7;have e1_12:=e10.trans e12;have si12:=SlN.ext si e1_12;refine go ?_;refine WX.loopA [63,64,65,66,9,8,67,68,69,70,71,72,73,74,75,76,77,78,10,79,80,81,82,83,10,84,85,86,87,88,89,90,91,92,93,94,62] (by kernel_rfl) (fun j=>B.ins.length - j) (fun j t h'=>Ext h1 h'/\zB t 62=I j/\j<=B.ins.length/\∃ vk vp,FO h1 h' (.pointer (some ⟨h1.n,0,none⟩)) vt vf f (par++YO (L.take i)++(B.ins.take j).map zBm) (List.replicate par.length (-1,-1)++yc L i++(List.range j).map fun (a:Nat)=>((i:Int),(a:Int))) (Z8 xs L.length) vk vp (.slice r1 r2 r3)) 0 ?_ ?_
 ·exact⟨e1_12,sl_,QW _,_,_,by simpa using G10.ext e12⟩
 rintro j t h13 hsame2 ⟨e13,s62,hj,vk,vp,G13⟩;refine go ?_;refine WX.br (fun hb=> ?_) (fun hb=> ?_)<;>simp only[DB]at hb;rotate_left 1
 ·have hjj:j=B.ins.length:=by omega
  subst hjj;refine go ?_;refine zA (i+1) (by omega) ⟨e13,sln,by omega,vk,vp,?_⟩;rw[zA4 hi',hBd,show yc L (i+1)=yc L i++(List.range B.ins.length).map fun (a:Nat)=>((i:Int),(a:Int)) by rw[<-hBd];rfl];rw[GN,GD,GD]at G13;exact G13
 have hj':j<B.ins.length:=by omega
 obtain⟨csx,hR,pcx,hsx⟩:=yG (i:=j) si (by omega);have pcx13:=(pcx _ e13).1;have si13:=SlN.ext si e13;have hsucc:(B.ins.take (j+1)).map zBm=(B.ins.take j).map zBm++[zBm (B.ins.getD j default)]:=by rw[zJR hj',Gf];rfl
 generalize hxd:B.ins.getD j default=x at *;obtain⟨xa,xf,rfl,sxa,sxf,hla,hlf,ho⟩:=id hR;obtain⟨xa1,xa2,xa3,rfl⟩:=SlC.shape sxa;obtain⟨xf1,xf2,xf3,rfl⟩:=SlC.shape sxf;refine go ?_;refine WO.al ?_;intro p9 h14 e14 o9;refine go ?_;refine WO.stC0 (cs:=[.int .u8 x.op,I x.ty,I x.a,I x.b,I x.n,.slice xa1 xa2 xa3,.slice xf1 xf2 xf3]) o9 e14 ?_;intro h15 e15 o9 u9;have G15:=G13.ext e15;have e1_15:=e13.trans e15;have own15:=G15.own;refine go ?_;refine WO.apRF (a:=((i:Int),(j:Int))) (Dn:=fun _=>False) G15.q e1_15 (QF _) e1_15.n (by decide) (by simp only[QY,Gc,GK,G5];omega) (fun hx _ _=>rfl) (fun _ h=>h.elim) (fun _ _ _ _ h=>h) ?_;intro v8 h16 lit e16 op16 n16 k16 fr16;have hs16:zEU h15 v8:=fun b hb=>by obtain⟨n,k,g,rfl,hg⟩:=fr16;cases hb;exact hg
 have sh16:∃ a n k,v8= .slice a n k:=let ⟨n,k,g,e,_⟩:=fr16;⟨_,n,k,e⟩;have uB16:=zRz n16 k16;have own16:=own15.upB uB16 G15.op.symm;have o9_16:=o9.upB uB16 (OffV.fresh o9.since' G13.q.within).symm;obtain⟨w1,w2,w3,rfl⟩:=sh16;refine go ?_;refine WO.stC (cs:=[.slice w1 w2 w3]) (j:=4) (hl:=by simp) own16 e16 ?_;intro h17 e17 own17 u17;replace own17:OwnC h1 h17 (.pointer (some ⟨h1.n,0,none⟩)) [vt,vf,I f,vk,.slice w1 w2 w3,.slice r1 r2 r3]:=own17;have G17:=G15.putP uB16 hs16 ⟨_,_,_,rfl⟩ op16 own17 u17;have o9_17:=o9_16.upB u17.upB (OffV.fresh o9.since' G13.own.within).symm;refine go ?_;refine WO.con (zIm h17 x.op (E1.ext e17).tt ho.1 ho.2) ?_;rintro _ h18 ⟨rfl,e18⟩;have G18:=G17.ext e18;have own18:=G18.own;have o9_18:=o9_17.ext e18;have e1_18:=e17.trans e18;have hk:zBm x=if (zv x.op).2.2.2.2.2 then x.ty else -1:=rfl;have ok18:=G18.k;obtain⟨⟨q1,q2,q3,rfl⟩,_⟩:=G18.s;cases hb2:(zv x.op).2.2.2.2.2 with
 |true=>
  have hk1:zBm x=x.ty:=by rw[hk,hb2];rfl
  refine go ?_;refine WO.bl [x.ty] ?_;intro v19 h19 e19 ol19;refine go ?_;refine WO.apF (ok18.ext e19) ol19.sl (e1_18.trans e19) (by simp) (by simp only[QY,GK,Q1,Qa];omega) ?_;intro v20 h20 e20 oi20 u20;have own20:=(own18.ext e19).upB u20.upB G18.ok.symm;obtain⟨y1,y2,y3,rfl⟩:=SlC.shape oi20.sl;refine go ?_;refine WO.stC (cs:=[.slice y1 y2 y3]) (j:=3) (hl:=by simp) own20 e20 ?_;intro h21 e21 own21 u21;replace own21:OwnC h1 h21 (.pointer (some ⟨h1.n,0,none⟩)) [vt,vf,I f,.slice y1 y2 y3,.slice w1 w2 w3,.slice r1 r2 r3]:=own21;have G21:=(G18.ext e19).putK u20 (e1_18.trans e19).n oi20 own21 u21;refine go ?_;refine zA (j+1) (by omega) ⟨e21,sln,by omega,.slice y1 y2 y3,.slice w1 w2 w3,?_⟩;rw[hsucc,hk1,List.range_succ,Gf,<-GD,<-GD];exact G21
 |false=>
  have hk1:zBm x= -1:=by rw[hk,hb2];rfl
  refine go ?_;refine WO.bl [-1] ?_;intro v19 h19 e19 ol19;refine go ?_;refine WO.apF (ok18.ext e19) ol19.sl (e1_18.trans e19) (by simp) (by simp only[QY,GK,Q1,Qa];omega) ?_;intro v20 h20 e20 oi20 u20;have own20:=(own18.ext e19).upB u20.upB G18.ok.symm;obtain⟨y1,y2,y3,rfl⟩:=SlC.shape oi20.sl;refine go ?_;refine WO.stC (cs:=[.slice y1 y2 y3]) (j:=3) (hl:=by simp) own20 e20 ?_;intro h21 e21 own21 u21;replace own21:OwnC h1 h21 (.pointer (some ⟨h1.n,0,none⟩)) [vt,vf,I f,.slice y1 y2 y3,.slice w1 w2 w3,.slice r1 r2 r3]:=own21;have G21:=(G18.ext e19).putK u20 (e1_18.trans e19).n oi20 own21 u21;refine go ?_;refine zA (j+1) (by omega) ⟨e21,sln,by omega,.slice y1 y2 y3,.slice w1 w2 w3,?_⟩;rw[hsucc,hk1,List.range_succ,Gf,<-GD,<-GD];exact G21
end
end Go.Proofs.YteekipjpghikkaaGreatDoor
