/- A part of the machine and of its soundness; proves no statement. -/
import Derived.Test.YtmilpkdhbdgjfaaGreatDoorAmD
set_option linter.all false
namespace Go.Am
noncomputable section
def yQ{α:Type}(b:Bool)(x y:α):α:= @Bool.rec (fun _=>α) y x b
theorem yM{α:Type}(b:Bool)(x y:α):yQ b x y=bif b then x else y:=by cases b<;>rfl
def WJ.getF{α:Type}(t:WJ α):Nat->Option α:=
 @WJ.rec α (fun _=>Nat->Option α) (fun _=>none) (fun v _ _ gl gr k=> @Bool.rec (fun _=>Option α) (@Bool.rec (fun _=>Option α) (gr (Nat.pred (Nat.div k (nat_lit 2)))) (gl (Nat.div k (nat_lit 2))) (Nat.beq (Nat.mod k (nat_lit 2)) (nat_lit 1))) v (Nat.beq k (nat_lit 0))) t
theorem zGe{α:Type}:∀ (t:WJ α) (k:Nat),t.getF k=t.get k
 | .leaf,_=>rfl
 | .node v l r,k=>by
  show yQ (Nat.beq k 0) v (yQ (Nat.beq (k % 2) 1) (l.getF (k / 2)) (r.getF (k / 2-1)))=_;rw[yM,yM,zGe l,zGe r];rfl
def zJ7{α:Type}(v:Option α)(f:Nat):Nat->WJ α:=
 @Nat.rec (fun _=>Nat->WJ α) (fun _=> .leaf) (fun _ p k=> @Bool.rec (fun _=>WJ α) (@Bool.rec (fun _=>WJ α) (.node none .leaf (p (Nat.pred (Nat.div k (nat_lit 2))))) (.node none (p (Nat.div k (nat_lit 2))) .leaf) (Nat.beq (Nat.mod k (nat_lit 2)) (nat_lit 1))) (.node v .leaf .leaf) (Nat.beq k (nat_lit 0))) f
theorem zD3{α:Type}(v:Option α):∀ (f k:Nat),zJ7 v f k=WJ.put v f k .leaf
 |0,_=>rfl
 |f+1,k=>by
  show yQ (Nat.beq k 0) _ (yQ (Nat.beq (k % 2) 1) (WJ.node none (zJ7 v f (k / 2)) .leaf) (.node none .leaf (zJ7 v f (k / 2-1))))=_;rw[yM,yM,zD3 v f,zD3 v f];rfl
def WJ.putF{α:Type}(v:Option α)(t:WJ α):Nat->WJ α:=
 @WJ.rec α (fun _=>Nat->WJ α) (fun k=>zJ7 v (Nat.succ k) k)
  (fun u l r pl pr k=> @Bool.rec (fun _=>WJ α) (@Bool.rec (fun _=>WJ α) (.node u l (pr (Nat.pred (Nat.div k (nat_lit 2))))) (.node u (pl (Nat.div k (nat_lit 2))) r) (Nat.beq (Nat.mod k (nat_lit 2)) (nat_lit 1))) (.node v l r) (Nat.beq k (nat_lit 0))) t
theorem zAJ{α:Type}(v:Option α):∀ (f g k:Nat) (t:WJ α),k<f->k<g->WJ.put v f k t=WJ.put v g k t:=by
 intro f;induction f with
 |zero=>intro g k t h;omega
 |succ f ih=>
  intro g k t h1 h2;obtain⟨g,rfl⟩:∃ g',g=g'+1:=⟨g-1,by omega⟩;have hb:∀ a b:Nat,Nat.beq a b=decide (a=b):=fun a b=>by rw[GL];simp
  cases t with
  |leaf=>
   simp only[WJ.put,hb];by_cases hk:k=0
   ·simp[hk]
   ·simp only[hk,decide_false,QT];rw[ih g (k / 2) _ (by omega) (by omega),ih g (k / 2-1) _ (by omega) (by omega)]
  |node u l r=>
   simp only[WJ.put,hb];by_cases hk:k=0
   ·simp[hk]
   ·simp only[hk,decide_false,QT];rw[ih g (k / 2) _ (by omega) (by omega),ih g (k / 2-1) _ (by omega) (by omega)]
theorem zDU{α:Type}(v:Option α):∀ (t:WJ α) (k:Nat),t.putF v k=WJ.put v (k+1) k t
 | .leaf,k=>zD3 v (k+1) k
 | .node u l r,k=>by
  show yQ (Nat.beq k 0) (WJ.node v l r) (yQ (Nat.beq (k % 2) 1) (.node u (l.putF v (k / 2)) r) (.node u l (r.putF v (k / 2-1))))=_;rw[yM,yM,zDU v l,zDU v r];have hb:∀ a b:Nat,Nat.beq a b=decide (a=b):=fun a b=>by rw[GL];simp
  simp only[WJ.put,hb];by_cases hk:k=0
  ·simp[hk]
  ·simp only[hk,decide_false,QT];rw[zAJ v (k / 2+1) k (k / 2) l (by omega) (by omega),zAJ v (k / 2-1+1) k (k / 2-1) r (by omega) (by omega)]
theorem zHB(k:Nat)(v:Value)(hk:¬k=0):(WJ.leaf:WJ Value).set k v=yQ (Nat.beq (k % 2) 1) (.node none (WJ.leaf.set (k / 2) v) .leaf) (.node none .leaf (WJ.leaf.set (k / 2-1) v)):=by
 have h0:Nat.beq k 0=false:=by cases hb:Nat.beq k 0 with
  |false=>rfl
  |true=>exact absurd (QJ hb) hk
 have e:(WJ.leaf:WJ Value).set k v=bif Nat.beq k 0 then WJ.node (some v) .leaf .leaf else bif Nat.beq (k % 2) 1 then .node none (WJ.put (some v) k (k / 2) .leaf) .leaf else .node none .leaf (WJ.put (some v) k (k / 2-1) .leaf):=rfl;rw[e,h0,yM,QT,zAJ _ k (k / 2+1) (k / 2) _ (by omega) (by omega),zAJ _ k (k / 2-1+1) (k / 2-1) _ (by omega) (by omega)];rfl
theorem zH9(k:Nat)(v:Value)(u:Option Value)(l r:WJ Value)(hk:¬k=0):(WJ.node u l r).set k v=yQ (Nat.beq (k % 2) 1) (.node u (l.set (k / 2) v) r) (.node u l (r.set (k / 2-1) v)):=by
 have h0:Nat.beq k 0=false:=by cases hb:Nat.beq k 0 with
  |false=>rfl
  |true=>exact absurd (QJ hb) hk
 have e:(WJ.node u l r).set k v=bif Nat.beq k 0 then WJ.node (some v) l r else bif Nat.beq (k % 2) 1 then .node u (WJ.put (some v) k (k / 2) l) r else .node u l (WJ.put (some v) k (k / 2-1) r):=rfl;rw[e,h0,yM,QT,zAJ _ k (k / 2+1) (k / 2) _ (by omega) (by omega),zAJ _ k (k / 2-1+1) (k / 2-1) _ (by omega) (by omega)];rfl
structure CloG where
 get:WJ Value->Option Value
 set:WJ Value->Value->WJ Value
def Y7(f:Nat):Nat->CloG:=
 @Nat.rec (fun _=>Nat->CloG) (fun k=>⟨fun t=>t.get k,fun t v=>WJ.put (some v) (k+1) k t⟩)
  (fun _ p k=> @Bool.rec (fun _=>CloG) (@Bool.rec (fun _=>CloG)
   ⟨fun t=>(p (Nat.pred (Nat.div k (nat_lit 2)))).get (@WJ.rec Value (fun _=>WJ Value) .leaf (fun _ _ r _ _=>r) t),fun t v=> @WJ.rec Value (fun _=>WJ Value) (.node none .leaf ((p (Nat.pred (Nat.div k (nat_lit 2)))).set .leaf v)) (fun u l r _ _=> .node u l ((p (Nat.pred (Nat.div k (nat_lit 2)))).set r v)) t⟩
   ⟨fun t=>(p (Nat.div k (nat_lit 2))).get (@WJ.rec Value (fun _=>WJ Value) .leaf (fun _ l _ _ _=>l) t),fun t v=> @WJ.rec Value (fun _=>WJ Value) (.node none ((p (Nat.div k (nat_lit 2))).set .leaf v) .leaf) (fun u l r _ _=> .node u ((p (Nat.div k (nat_lit 2))).set l v) r) t⟩
   (Nat.beq (Nat.mod k (nat_lit 2)) (nat_lit 1)))
   ⟨fun t=> @WJ.rec Value (fun _=>Option Value) none (fun v _ _ _ _=>v) t,fun t v=> @WJ.rec Value (fun _=>WJ Value) (.node (some v) .leaf .leaf) (fun _ l r _ _=> .node (some v) l r) t⟩
   (Nat.beq k (nat_lit 0))) f
theorem zGR:∀ (f k:Nat),(∀ t,(Y7 f k).get t=t.get k)/\∀ t v,(Y7 f k).set t v=t.set k v:=by
 intro f;induction f with
 |zero=>intro k;exact⟨fun _=>rfl,fun _ _=>rfl⟩
 |succ f ih=>
  intro k;have hb:∀ a b:Nat,Nat.beq a b=decide (a=b):=fun a b=>by rw[GL];simp
  have step:Y7 (f+1) k=yQ (Nat.beq k 0) ⟨fun t=> @WJ.rec Value (fun _=>Option Value) none (fun v _ _ _ _=>v) t,fun t v=> @WJ.rec Value (fun _=>WJ Value) (.node (some v) .leaf .leaf) (fun _ l r _ _=> .node (some v) l r) t⟩
   (yQ (Nat.beq (k % 2) 1) ⟨fun t=>(Y7 f (k / 2)).get (@WJ.rec Value (fun _=>WJ Value) .leaf (fun _ l _ _ _=>l) t),fun t v=> @WJ.rec Value (fun _=>WJ Value) (.node none ((Y7 f (k / 2)).set .leaf v) .leaf) (fun u l r _ _=> .node u ((Y7 f (k / 2)).set l v) r) t⟩
    ⟨fun t=>(Y7 f (k / 2-1)).get (@WJ.rec Value (fun _=>WJ Value) .leaf (fun _ _ r _ _=>r) t),fun t v=> @WJ.rec Value (fun _=>WJ Value) (.node none .leaf ((Y7 f (k / 2-1)).set .leaf v)) (fun u l r _ _=> .node u l ((Y7 f (k / 2-1)).set r v)) t⟩):=rfl
  rw[step];by_cases hk:k=0
  ·subst hk;exact⟨fun t=>by cases t<;>rfl,fun t v=>by cases t<;>rfl⟩
  ·have h0:Nat.beq k 0=false:=by rw[hb];simp[hk]
   rw[h0];by_cases ho:k % 2=1
   ·have h1:Nat.beq (k % 2) 1=true:=by rw[hb];simp[ho]
    rw[h1];refine⟨fun t=> ?_,fun t v=> ?_⟩
    ·show(Y7 f (k / 2)).get _=_;rw[(ih _).1];cases t with
     |leaf=>rfl
     |node u l r=>simp only[WJ.get,h0,h1,cond_true,QT]
    ·cases t with
     |leaf=>
      show WJ.node none ((Y7 f (k / 2)).set .leaf v) .leaf=_;rw[(ih _).2,zHB k v hk,h1];rfl
     |node u l r=>
      show WJ.node u ((Y7 f (k / 2)).set l v) r=_;rw[(ih _).2,zH9 k v u l r hk,h1];rfl
   ·have h1:Nat.beq (k % 2) 1=false:=by rw[hb];simp[ho]
    rw[h1];refine⟨fun t=> ?_,fun t v=> ?_⟩
    ·show(Y7 f (k / 2-1)).get _=_;rw[(ih _).1];cases t with
     |leaf=>rfl
     |node u l r=>simp only[WJ.get,h0,h1,cond_true,QT]
    ·cases t with
     |leaf=>
      show WJ.node none .leaf ((Y7 f (k / 2-1)).set .leaf v)=_;rw[(ih _).2,zHB k v hk,h1];rfl
     |node u l r=>
      show WJ.node u l ((Y7 f (k / 2-1)).set r v)=_;rw[(ih _).2,zH9 k v u l r hk,h1];rfl
structure CloE where
 ev:WJ Value->Value
def zl(x:Operand):CloE:=
 match x with
 | .tmp k=>⟨fun t=> @Option.rec Value (fun _=>Value) undef (fun v=>v) ((Y7 64 k).get t)⟩
 | .const v=>⟨fun _=>v⟩
 | .global g=>⟨fun _=> .pointer (some ⟨g,0,none⟩)⟩
 | .func f=>⟨fun _=> .func (.func f) #[] #[]⟩
theorem zj(x:Operand)(t:WJ Value):(zl x).ev t=ev t x:=by
 cases x with
 |tmp k=>
  show @Option.rec Value (fun _=>Value) undef (fun v=>v) ((Y7 64 k).get t)=(t.get k).getD undef;rw[(zGR 64 k).1];cases t.get k<;>rfl
 |_=>rfl
def zHm(h:WG)(g:Nat):Option Wn:=h.tab.getF g
theorem zEA(h:WG)(g:Nat):zHm h g=h.get g:=zGe _ _
def zCu(h:WG)(o:Wn):WG:=⟨Nat.succ h.n,h.tab.putF (some o) h.n,h.mark,h.wr⟩
theorem zEc(h:WG)(o:Wn):zCu h o=h.push o:=by unfold zCu WG.push WJ.set;rw[zDU]
def zND(h:WG)(g:Nat)(o:Wn):WG:=⟨h.n,h.tab.putF (some o) g,h.mark,h.log g⟩
theorem zNP(h:WG)(g:Nat)(o:Wn):zND h g o=h.set g o:=by unfold zND WG.set WJ.set;rw[zDU]
abbrev R:=Option Value
def Zh(x:Option (Value×WG))(K:Value->WG->R):R:=x.bind fun p=>K p.1 p.2
structure ExK where
 exec:WW->WT->WG->(WQ->WT->WG->R)->R
 call:FuncId->List Value->WG->(Value->WG->R)->R
structure Bc(e:Ex)(x:ExK):Prop where
 exec:∀ c fr h K,x.exec c fr h K=(e.exec c fr h).bind fun p=>K p.1 p.2.1 p.2.2
 call:∀ f args h K,x.call f args h K=Zh (e.call f args h) K
def zGS(v:Value)(k:Addr->R):R:=match v with
 | .pointer (some a)=>k a
 |_=>none
def Za{α:Type}(x:Option α)(k:α->R):R:= @Option.rec α (fun _=>R) none k x
theorem ZC{α:Type}(x:Option α)(k:α->R):Za x k=x.bind k:=by cases x<;>rfl
def zJI(h:WG)(g:Nat)(k:List Value->R):R:=Za (zHm h g) fun o=>match o with
 | .row cells _ _=>k cells
 |_=>none
theorem zJq(h:WG)(g:Nat)(k:List Value->R):zJI h g k=(zt h g).bind k:=by
 unfold zJI zt;rw[ZC,zEA];cases h.get g with
 |none=>rfl
 |some o=>cases o<;>rfl
def zOu(v:Value)(k:IntKind->Int->R):R:=match v with
 | .int kk n=>k kk n
 |_=>none
def zQK(v:Value)(k:Nat->R):R:=match v with
 | .int _ (.ofNat n)=>k n
 |_=>none
theorem zO3(v:Value)(k:Nat->R):zQK v k=(BI v).bind k:=by
 cases v with
 |int kk n=>cases n<;>rfl
 |_=>rfl
def zCy(k:IntKind):Nat:= @IntKind.rec (fun _=>Nat) (nat_lit 0) (nat_lit 1) (nat_lit 2) (nat_lit 3) (nat_lit 4) (nat_lit 5) (nat_lit 6) (nat_lit 7) k
theorem zMC(k k':IntKind):Nat.beq (zCy k) (zCy k')=decide (k=k'):=by cases k<;>cases k'<;>rfl
def zCE(k:IntKind)(n:Int):Int:=match n with
 | .ofNat m=>yQ (Nat.ble m (nat_lit 127)) (.ofNat m) (yQ (Nat.beq (zCy k) (nat_lit 3)) (yQ (Nat.ble m (nat_lit 9223372036854775807)) (.ofNat m) (k.wrap (.ofNat m))) (k.wrap (.ofNat m)))
 |n=>k.wrap n
theorem zAy(k:IntKind)(n:Int):zCE k n=k.wrap n:=by
 unfold zCE;cases n with
 |negSucc m=>rfl
 |ofNat m=>
  simp only[yM];cases h1:Nat.ble m 127 with
  |true=>
   have:m<=127:=QP h1;simp only[cond_true];have e:(Int.ofNat m:Int)=(m:Int):=rfl;rw[e];cases k<;>simp[IntKind.wrap,IntKind.signed,IntKind.bits]<;>omega
  |false=>
   simp only[QT];cases h2:Nat.beq (zCy k) 3 with
   |false=>rfl
   |true=>
    simp only[cond_true];have hk:k=.i64:=by cases k<;>first|rfl|cases h2
    subst hk;cases h3:Nat.ble m 9223372036854775807 with
    |false=>rfl
    |true=>
     have:m<=9223372036854775807:=QP h3;simp only[cond_true];have e:(Int.ofNat m:Int)=(m:Int):=rfl;rw[e];simp[IntKind.wrap,IntKind.signed,IntKind.bits];omega
def ltF(a b:Int):Bool:=match a,b with
 | .ofNat m,.ofNat n=>Nat.ble (Nat.succ m) n
 | .negSucc _,.ofNat _=>true
 | .ofNat _,.negSucc _=>false
 | .negSucc m,.negSucc n=>Nat.ble (Nat.succ n) m
theorem zD5(a b:Int):ltF a b=decide (a<b):=by
 have hb:∀ a b:Nat,Nat.ble a b=decide (a<=b):=fun a b=>by rw[GL];simp
 have e1:∀ n:Nat,Int.ofNat n=(n:Int):=fun _=>rfl;have e2:∀ n:Nat,Int.negSucc n= -((n:Int)+1):=fun n=>by omega
 cases a<;>cases b<;>simp only[ltF,hb]<;>rw[GL]<;>simp only[QY,Qs,true_iff,JF,e1,e2]<;>omega
def eqF(a b:Int):Bool:=match a,b with
 | .ofNat m,.ofNat n=>Nat.beq m n
 | .negSucc m,.negSucc n=>Nat.beq m n
 |_,_=>false
theorem zFp(a b:Int):eqF a b=decide (a=b):=by
 have hb:∀ a b:Nat,Nat.beq a b=decide (a=b):=fun a b=>by rw[GL];simp
 have e1:∀ n:Nat,Int.ofNat n=(n:Int):=fun _=>rfl;have e2:∀ n:Nat,Int.negSucc n= -((n:Int)+1):=fun n=>by omega
 cases a<;>cases b<;>simp only[eqF,hb]<;>rw[GL]<;>simp only[QY,Qs,true_iff,JF,e1,e2]<;>omega
def zEu(x y:Value)(k:IntKind->Int->Int->R):R:=zOu x fun kk a=>zOu y fun kk' b=>yQ (Nat.beq (zCy kk) (zCy kk')) (k kk a b) none
structure CloB where
 run:Value->Value->(Value->R)->R
def zPh(op:BinOp):CloB:=
 match op with
 | .add=>⟨fun x y k=>zEu x y fun kk a b=>k (.int kk (zCE kk (Int.add a b)))⟩
 | .sub=>⟨fun x y k=>zEu x y fun kk a b=>k (.int kk (zCE kk (Int.sub a b)))⟩
 | .eql=>⟨fun x y k=>zEu x y fun _ a b=>k (.bool (eqF a b))⟩
 | .neq=>⟨fun x y k=>zEu x y fun _ a b=>k (.bool (!eqF a b))⟩
 | .lss=>⟨fun x y k=>zEu x y fun _ a b=>k (.bool (ltF a b))⟩
 | .gtr=>⟨fun x y k=>zEu x y fun _ a b=>k (.bool (ltF b a))⟩
 | .leq=>⟨fun x y k=>zEu x y fun _ a b=>k (.bool (!ltF b a))⟩
 | .geq=>⟨fun x y k=>zEu x y fun _ a b=>k (.bool (!ltF a b))⟩
 |op=>⟨fun x y k=>Za (yB op x y) k⟩
theorem zOx(x y:Value)(k:IntKind->Int->Int->R):zEu x y k=match x,y with
  | .int kk a,.int kk' b=>if kk=kk' then k kk a b else none
  |_,_=>none:=by
 cases x with
 |int kk a=>
  cases y with
  |int kk' b=>
   show yQ (Nat.beq (zCy kk) (zCy kk')) (k kk a b) none=if kk=kk' then k kk a b else none;rw[yM,zMC];by_cases e:kk=kk'
   ·subst e;simp
   ·simp[e]
  |_=>rfl
 |_=>rfl
theorem zGd(a b:Int):(!ltF b a)=decide (a<=b):=by
 rw[zD5,GL];simp
theorem zO5(op:BinOp)(x y:Value)(k:Value->R):(zPh op).run x y k=(yB op x y).bind k:=by
 have two:∀ {f:IntKind->Int->Int->Value} {g:Option Value},(g=match x,y with
   | .int kk a,.int kk' b=>if kk=kk' then some (f kk a b)else none
   |_,_=>none)->(zEu x y fun kk a b=>k (f kk a b))=g.bind k:=by
  intro f g hg;rw[zOx,hg];split
  ·split<;>rfl
  ·rfl
 cases op with
 |add=>refine two (f:=fun kk a b=> .int kk (zCE kk (Int.add a b))) ?_;cases x<;>cases y<;>first|rfl|(simp only[yB,zAy];done)|(simp only[yB,zAy];rfl)
 |sub=>refine two (f:=fun kk a b=> .int kk (zCE kk (Int.sub a b))) ?_;cases x<;>cases y<;>first|rfl|(simp only[yB,zAy];done)|(simp only[yB,zAy];rfl)
 |eql=>refine two (f:=fun kk a b=> .bool (eqF a b)) ?_;cases x<;>cases y<;>first|rfl|(simp only[yB,zFp];done)|(simp only[yB,zFp];rfl)
 |neq=>refine two (f:=fun kk a b=> .bool (!eqF a b)) ?_;cases x<;>cases y<;>first|rfl|(simp only[yB,zFp];done)|(simp only[yB,zFp];rfl)
 |lss=>refine two (f:=fun kk a b=> .bool (ltF a b)) ?_;cases x<;>cases y<;>first|rfl|(simp only[yB,zD5];done)|(simp only[yB,zD5];rfl)
 |gtr=>refine two (f:=fun kk a b=> .bool (ltF b a)) ?_;cases x<;>cases y<;>first|rfl|(simp only[yB,zD5];done)|(simp only[yB,zD5];rfl)
 |leq=>refine two (f:=fun kk a b=> .bool (!ltF b a)) ?_;cases x<;>cases y<;>first|rfl|(simp only[yB,zGd];done)|(simp only[yB,zGd];rfl)
 |geq=>refine two (f:=fun kk a b=> .bool (!ltF a b)) ?_;cases x<;>cases y<;>first|rfl|(simp only[yB,zGd,ge_iff_le];done)|(simp only[yB,zGd,ge_iff_le];rfl)
 |_=>exact ZC _ _
def zLl(l:List Value):Nat->Option Value:=
 @List.rec Value (fun _=>Nat->Option Value) (fun _=>none) (fun v _ g n=> @Nat.rec (fun _=>Option Value) (some v) (fun m _=>g m) n) l
theorem zFu:∀ (l:List Value) (n:Nat),zLl l n=l[n]?
 |[],_=>rfl
 |v::l,0=>rfl
 |v::l,n+1=>by
  show zLl l n=_;rw[zFu l n];simp
theorem zMK(l:List Value)(n:Nat):(cut l n 1).bind (zI false)=l[n]?:=by
 unfold cut;cases hb:Nat.ble (n+1) l.length with
 |true=>
  have hn:n<l.length:=QP hb;have e:(l.drop n).take 1=[l[n]]:=by rw[GJ hn];rfl
  rw[cond_true,QR,e,QB hn];rfl
 |false=>
  have hn:¬n<l.length:=fun e=>by
   have:Nat.ble (n+1) l.length=true:=QF e;rw[this]at hb;cases hb
  simp[hn]
def zFT(l:List Value):Nat->Option (List Value):=
 @List.rec Value (fun _=>Nat->Option (List Value)) (fun n=> @Nat.rec (fun _=>Option (List Value)) (some []) (fun _ _=>none) n)
  (fun v _ g n=> @Nat.rec (fun _=>Option (List Value)) (some []) (fun m _=> @Option.rec (List Value) (fun _=>Option (List Value)) none (fun r=>some (v::r)) (g m)) n) l
def zFx(l:List Value):Nat->Nat->Option (List Value):=
 @List.rec Value (fun _=>Nat->Nat->Option (List Value)) (fun off n=> @Nat.rec (fun _=>Option (List Value)) (zFT [] n) (fun _ _=>none) off)
  (fun v r g off n=> @Nat.rec (fun _=>Option (List Value)) (zFT (v::r) n) (fun m _=>g m n) off) l
theorem zEb:∀ (l:List Value) (n:Nat),zFT l n=bif Nat.ble n l.length then some (l.take n)else none
 |[],0=>rfl
 |[],n+1=>rfl
 |v::l,0=>rfl
 |v::l,n+1=>by
  show @Option.rec (List Value) (fun _=>Option (List Value)) none (fun r=>some (v::r)) (zFT l n)=_;rw[zEb l n];have:Nat.ble (n+1) (v::l).length=Nat.ble n l.length:=rfl;rw[this];cases Nat.ble n l.length<;>rfl
theorem zDi:∀ (l:List Value) (off n:Nat),zFx l off n=cut l off n
 |[],0,n=>by
  show zFT [] n=_;rw[zEb];unfold cut;rw[Qk];rfl
 |[],off+1,n=>by
  show none=cut [] (off+1) n;unfold cut;have:Nat.ble (off+1+n) ([]:List Value).length=false:=by
   rw[show off+1+n=(off+n)+1 by omega];rfl
  rw[this];rfl
 |v::l,0,n=>by
  show zFT (v::l) n=_;rw[zEb];unfold cut;rw[Qk];rfl
 |v::l,off+1,n=>by
  show zFx l off n=_;rw[zDi l off n];unfold cut;have:Nat.ble (off+1+n) (v::l).length=Nat.ble (off+n) l.length:=by
   rw[show off+1+n=(off+n)+1 by omega];rfl
  rw[this];rfl
def zGJ(v:Value)(l:List Value):Nat->Option (List Value):=
 @List.rec Value (fun _=>Nat->Option (List Value)) (fun _=>none) (fun u r g n=> @Nat.rec (fun _=>Option (List Value)) (some (v::r)) (fun m _=> @Option.rec (List Value) (fun _=>Option (List Value)) none (fun r=>some (u::r)) (g m)) n) l
theorem zFg(v:Value):∀ (l:List Value) (n:Nat),zGJ v l n=bif Nat.ble (n+1) l.length then some (zL l n [v])else none
 |[],n=>by
  have:Nat.ble (n+1) ([]:List Value).length=false:=rfl;rw[this];rfl
 |u::r,0=>rfl
 |u::r,n+1=>by
  show @Option.rec (List Value) (fun _=>Option (List Value)) none (fun r=>some (u::r)) (zGJ v r n)=_;rw[zFg v r n];have:Nat.ble (n+1+1) (u::r).length=Nat.ble (n+1) r.length:=rfl;rw[this];cases Nat.ble (n+1) r.length<;>simp[zL]
structure CloV where
 run:ExK->WJ Value->WG->(Value->WG->R)->R
def zDE(v:Value)(k:Bool->R):R:=match v with
 | .bool b=>k b
 |_=>none
def zCK(h:WG)(a:Addr)(v:Value)(K:WG->R):R:=
 yQ a.spot.isNone (Za (zHm h a.block) fun o=>match o with
  | .row cells true lo=>yQ (Nat.ble lo a.off) (match v with
   | .agg _=>none
   | .tuple _=>none
   |v=>Za (zGJ v cells a.off) fun cells=>K (zND h a.block (.row cells true lo))) none
  |_=>none) none
theorem zIj(h:WG)(a:Addr)(v:Value)(hv:v.cells.size=1)(hn:∀ cs,v≠ .agg cs)(K:WG->R):zCK h a v K=(zg h a v.cells.toList).bind K:=by
 have hc:v.cells.toList=[v]:=by cases v<;>first|rfl|exact absurd rfl (hn _)
 unfold zCK zg;rw[hc,yM,ZC,zEA];cases hs:a.spot.isNone with
 |false=>
  simp only[QT];split
  ·simp
  ·rfl
 |true=>
  simp only[cond_true];cases h.get a.block with
  |none=>rfl
  |some o=>
   cases o with
   |row cells own lo=>
    cases own with
    |false=>rfl
    |true=>
     show yQ (Nat.ble lo a.off) _ none=_;rw[yM];have h1:∀ K':List Value->R,(Za (zGJ v cells a.off) K')=(bif Nat.ble (a.off+1) cells.length then some (zL cells a.off [v])else none).bind K':=fun K'=>by rw[ZC,zFg]
     cases h2:Nat.ble lo a.off with
     |false=>simp[h2]
     |true=>
      simp only[h2,cond_true,Qg,QZ];cases v<;>first
       |(exact absurd rfl (hn _))
       |(simp only[h1,zNP];cases Nat.ble (a.off+1) cells.length<;>simp[zH])
   |_=>rfl
def zGV(x:ExK)(l:Nat)(r:W2)(args:List Value)(h:WG)(K:Value->WG->R):R:=
 x.exec r.assign ⟨zBR r.params args r.tm,[],some l⟩ h fun e fr h1=>match e with
  | .normal=>(match h1.get l with
   |some (.loop r1)=>
    bif (match r1.state with| .ready=>true|_=>false)then
     x.exec r.body fr (h1.set l (.loop {r1 with state:= .busy})) fun e fr2 h2=>match fr2.dfs,h2.get l with
      |[],some (.loop r2)=>K (ZL l r2 h2 e).1 (ZL l r2 h2 e).2
      |_,_=>none
    else none
   |_=>none)
  |_=>none
def zGf(x:ExK)(f:Value)(args:List Value)(h:WG)(K:Value->WG->R):R:=
 match f with
 | .func (.func f) first cap=>x.call f (first.toList++(args++cap.toList)) h K
 | .func (.yield l) _ _=>
  match h.get l with
  |some (.loop r)=>bif Nat.beq args.length r.params.length then zGV x l r args h K else none
  |_=>none
 |_=>none
section
variable {P:Program}{e:Ex}{x:ExK}
theorem zKW(ok:Bc e x)(l:Nat)(r:W2)(args:List Value)(h:WG)(K:Value->WG->R):zGV x l r args h K=Zh (zAU e l r args h) K:=by
 unfold zGV zAU Zh;rw[ok.exec];cases e.exec r.assign ⟨zBR r.params args r.tm,[],some l⟩ h with
 |none=>rfl
 |some p=>
  obtain⟨ex,fr,h1⟩:=p;simp only[QR];cases ex with
  |normal=>
   simp only;cases h1.get l with
   |none=>rfl
   |some o=>
    cases o with
    |loop r1=>
     simp only;cases hst:r1.state with
     |ready=>
      simp only[cond_true];rw[ok.exec];cases e.exec r.body fr (h1.set l (.loop {r1 with state:= .busy}))with
      |none=>rfl
      |some p=>
       obtain⟨e2,fr2,h2⟩:=p;simp only[QR];cases fr2.dfs with
       |nil=>
        cases h2.get l with
        |none=>rfl
        |some o=>cases o<;>rfl
       |cons d ds=>rfl
     |_=>rfl
    |_=>rfl
  |_=>rfl
theorem zFV(ok:Bc e x)(f:Value)(args:List Value)(h:WG)(K:Value->WG->R):zGf x f args h K=Zh (zAP e f args h) K:=by
 cases f with
 |func fn first cap=>
  cases fn with
  |func f=>
   show x.call f (first.toList++(args++cap.toList)) h K=Zh (e.call f (first.toList++args++cap.toList) h) K;rw[ok.call,GE]
  |yield l=>
   show(match h.get l with
    |some (.loop r)=>bif Nat.beq args.length r.params.length then zGV x l r args h K else none
    |_=>none)=Zh (match h.get l with
    |some (.loop r)=>bif Nat.beq args.length r.params.length then zAU e l r args h else none
    |_=>none) K
   cases h.get l with
   |none=>rfl
   |some o=>
    cases o with
    |loop r=>
     simp only;cases Nat.beq args.length r.params.length with
     |true=>exact zKW ok _ _ _ _ _
     |false=>rfl
    |_=>rfl
  |_=>rfl
 |_=>rfl
def zOS(P:Program)(op:W6):CloV:=
 match op with
 | .mov a=>⟨fun _ t h K=>K ((zl a).ev t) h⟩
 | .pick c a b=>⟨fun _ t h K=>zDE ((zl c).ev t) fun q=>K (yQ q ((zl a).ev t) ((zl b).ev t)) h⟩
 | .bin op a b=>⟨fun _ t h K=>(zPh op).run ((zl a).ev t) ((zl b).ev t) fun v=>K v h⟩
 | .load agg n a=>yQ (Nat.beq n 1&& !agg)
   ⟨fun _ t h K=>zGS ((zl a).ev t) fun a=>yQ a.spot.isNone (zJI h a.block fun cells=>Za (zLl cells a.off) fun v=>K v h) none⟩
   ⟨fun _ t h K=>zGS ((zl a).ev t) fun a=>yQ a.spot.isNone (zJI h a.block fun cells=>Za (zFx cells a.off n) fun l=>Za (zI agg l) fun v=>K v h) none⟩
 | .store n a b=>⟨fun _ t h K=>zGS ((zl a).ev t) fun a=>yQ (Nat.beq n 1) (match(zl b).ev t with
   | .agg cs=>bif Nat.beq cs.size n then(zg h a cs.toList).bind fun h=>K undef h else none
   |v=>zCK h a v fun h=>K undef h) (Zh (bif Nat.beq ((zl b).ev t).cells.size n then(zg h a ((zl b).ev t).cells.toList).map (undef,·)else none) K)⟩
 | .idx c a i=>⟨fun _ t h K=>match(zl a).ev t with
   | .slice (some a) len k=>zQK ((zl i).ev t) fun i=>yQ (Nat.ble (Nat.succ i) len) (yQ (Nat.beq k c) (yQ a.spot.isNone (K (.pointer (some ⟨a.block,Nat.add a.off (Nat.mul i c),none⟩)) h) none) none) none
   |_=>none⟩
 | .fld off a=>⟨fun _ t h K=>zGS ((zl a).ev t) fun a=>yQ a.spot.isNone (K (.pointer (some ⟨a.block,Nat.add a.off off,none⟩)) h) none⟩
 | .len a=>⟨fun _ t h K=>match(zl a).ev t with
   | .slice _ n _=>K (.int .i64 (Int.ofNat n)) h
   |_=>none⟩
 | .nilCheck a=>⟨fun _ t h K=>Za (Zp ((zl a).ev t)) fun v=>K v h⟩
 | .extract a i=>⟨fun _ t h K=>match(zl a).ev t with
   | .tuple vs=>Za (zLl vs.toList i) fun v=>K v h
   |_=>none⟩
 | .alloc zero=>⟨fun _ _ h K=>K (.pointer (some ⟨h.n,0,none⟩)) (zCu h (.row zero true 0))⟩
 | .box a=>⟨fun _ t h K=>K (.pointer (some ⟨h.n,0,none⟩)) (zCu h (.row ((zl a).ev t).cells.toList true 0))⟩
 | .call f args=>⟨fun x t h K=>zGf x ((zl f).ev t) (args.map fun a=>(zl a).ev t) h K⟩
 | .invoke a name args=>⟨fun x t h K=>match(zl a).ev t with
   | .iface ty v=>Za (Yb P ty name) fun f=>x.call f (v::args.map fun a=>(zl a).ev t) h K
   |_=>Zh (WP P Ex.bot t h (.invoke a name args)) K⟩
 | .un op a=>⟨fun _ t h K=>Za (unV op ((zl a).ev t)) fun v=>K v h⟩
 | .isNil kind neg a=>⟨fun _ t h K=>Za (zDK kind ((zl a).ev t)) fun b=>K (.bool (if neg then !b else b)) h⟩
 | .binB neg a b=>⟨fun _ t h K=>zDE ((zl a).ev t) fun x=>zDE ((zl b).ev t) fun y=>K (.bool (if neg then x != y else x == y)) h⟩
 | .conv k a=>⟨fun _ t h K=>zOu ((zl a).ev t) fun _ n=>K (.int k (zCE k n)) h⟩
 | .build zero parts=>⟨fun _ t h K=>Za (y8 zero (parts.map fun(a,b,x)=>(a,b,(zl x).ev t))) fun cells=>K (.agg cells.toArray) h⟩
 | .buildSlice len c zero parts=>⟨fun _ t h K=>Za (y8 (zS zero len) (parts.map fun(a,b,x)=>(a,b,(zl x).ev t))) fun cells=>K (.slice (some ⟨h.n,0,none⟩) len c) (zCu h (.row cells true 0))⟩
 | .part agg off n a=>⟨fun _ t h K=>match(zl a).ev t with
   | .agg cs=>Za (zFx cs.toList off n) fun l=>Za (zI agg l) fun v=>K v h
   |_=>none⟩
 | .mkFunc fn first cap=>⟨fun _ t h K=>match fn with
   | .func f=>K (.func (.func f) (first.map fun a=>(zl a).ev t).toArray (cap.map fun a=>(zl a).ev t).toArray) h
   |_=>none⟩
 | .lenC n=>⟨fun _ _ h K=>K (.int .i64 (Int.ofNat n)) h⟩
 | .append c a b=>⟨fun _ t h K=>Zh (zz c ((zl a).ev t) ((zl b).ev t) h) K⟩
 |op=>⟨fun _ t h K=>Zh (WP P Ex.bot t h op) K⟩
theorem zE4(parts:List (Nat×Nat×Operand))(t:WJ Value):(parts.map fun(a,b,x)=>(a,b,(zl x).ev t))=zp t parts:=by
 unfold zp;apply G1;rintro⟨a,b,x⟩ _;show(a,b,(zl x).ev t)=(a,b,ev t x);rw[zj]
theorem zCN(args:List Operand)(t:WJ Value):(args.map fun a=>(zl a).ev t)=args.map (ev t):=by
 apply G1;intro a _;exact zj a t
theorem zOE(ok:Bc e x)(op:W6)(t:WJ Value)(h:WG)(K:Value->WG->R):(zOS P op).run x t h K=Zh (WP P e t h op) K:=by
 have slow:Y4 op=true->Zh (WP P Ex.bot t h op) K=Zh (WP P e t h op) K:=fun hp=>by rw[zJ1 e hp]
 cases op with
 |mov a=>show K ((zl a).ev t) h=_;rw[zj];rfl
 |pick c a b=>
  show zDE ((zl c).ev t) (fun q=>K (yQ q ((zl a).ev t) ((zl b).ev t)) h)=_;rw[zj,zj,zj];simp only[WP];cases ev t c with
  |bool q=>cases q<;>rfl
  |_=>rfl
 |bin op a b=>
  show(zPh op).run ((zl a).ev t) ((zl b).ev t) (fun v=>K v h)=_;rw[zj,zj,zO5];simp only[WP,Zh];cases yB op (ev t a) (ev t b)<;>rfl
 |load agg n a=>
  simp only[WP];cases hn:(Nat.beq n 1&& !agg)with
  |true=>
   rw[QI]at hn;obtain⟨h1,h2⟩:=hn;have h1:=QJ h1;have h2:agg=false:=by cases agg<;>simp_all
   subst h1 h2;show zGS ((zl a).ev t) (fun a=>yQ a.spot.isNone (zJI h a.block fun cells=>Za (zLl cells a.off) fun v=>K v h) none)=_;rw[zj];cases ev t a with
   |pointer p=>
    cases p with
    |none=>rfl
    |some ad=>
     dsimp only;show yQ ad.spot.isNone _ none=_;rw[yM];cases ad.spot.isNone with
     |false=>rfl
     |true=>
      simp only[cond_true,zJq,Zh];cases zt h ad.block with
      |none=>rfl
      |some cells=>
       simp only[QR,ZC,zFu,zMK];cases cells[ad.off]?<;>rfl
   |_=>rfl
  |false=>
   have:zOS P (.load agg n a)=⟨fun _ t h K=>zGS ((zl a).ev t) fun a=>yQ a.spot.isNone (zJI h a.block fun cells=>Za (zFx cells a.off n) fun l=>Za (zI agg l) fun v=>K v h) none⟩:=by
    show yQ (Nat.beq n 1&& !agg) _ _=_;rw[hn];rfl
   rw[this];show zGS ((zl a).ev t) (fun a=>yQ a.spot.isNone (zJI h a.block fun cells=>Za (zFx cells a.off n) fun l=>Za (zI agg l) fun v=>K v h) none)=_;rw[zj];cases ev t a with
   |pointer p=>
    cases p with
    |none=>rfl
    |some ad=>
     dsimp only;show yQ ad.spot.isNone _ none=_;rw[yM];cases ad.spot.isNone with
     |false=>rfl
     |true=>
      simp only[cond_true,zJq,Zh];cases zt h ad.block with
      |none=>rfl
      |some cells=>
       simp only[QR,ZC,zDi];cases cut cells ad.off n with
       |none=>rfl
       |some l=>simp only[QR];cases zI agg l<;>rfl
   |_=>rfl
 |store n a b=>
  show zGS ((zl a).ev t) (fun a=>yQ (Nat.beq n 1) (match(zl b).ev t with
   | .agg cs=>bif Nat.beq cs.size n then(zg h a cs.toList).bind fun h=>K undef h else none
   |v=>zCK h a v fun h=>K undef h) (Zh (bif Nat.beq ((zl b).ev t).cells.size n then(zg h a ((zl b).ev t).cells.toList).map (undef,·)else none) K))=_
  rw[zj,zj];simp only[WP];cases ev t a with
  |pointer p=>
   cases p with
   |none=>rfl
   |some ad=>
    show yQ (Nat.beq n 1) _ _=_;rw[yM];cases hn:Nat.beq n 1 with
    |false=>rfl
    |true=>
     have:=QJ hn;subst this;simp only[cond_true];have plain:∀ v:Value,v.cells.size=1->(∀ cs,v≠ .agg cs)->(zCK h ad v fun h=>K undef h)=Zh (bif Nat.beq v.cells.size 1 then(zg h ad v.cells.toList).map (undef,·)else none) K:=fun v h1 h2=>by
      have h3:Nat.beq v.cells.size 1=true:=by rw[h1];rfl
      rw[zIj h ad v h1 h2,h3,cond_true,Zh];cases zg h ad v.cells.toList<;>rfl
     cases ev t b with
     |agg cs=>
      simp only[Value.cells];cases Nat.beq cs.size 1 with
      |false=>rfl
      |true=>simp only[cond_true,Zh];cases zg h ad cs.toList<;>rfl
     |_=>exact plain _ rfl (fun cs=>by simp)
  |_=>rfl
 |idx c a i=>
  show(match(zl a).ev t with
   | .slice (some a) len k=>zQK ((zl i).ev t) fun i=>yQ (Nat.ble (Nat.succ i) len) (yQ (Nat.beq k c) (yQ a.spot.isNone (K (.pointer (some ⟨a.block,Nat.add a.off (Nat.mul i c),none⟩)) h) none) none) none
   |_=>none)=_
  rw[zj,zj];simp only[WP];cases ev t a with
  |slice p len k=>
   cases p with
   |none=>rfl
   |some ad=>
    simp only[zO3];cases BI (ev t i)with
    |none=>rfl
    |some j=>
     simp only[QR,yM];have hs:Nat.ble (Nat.succ j) len=Nat.ble (j+1) len:=rfl;rw[hs];cases Nat.ble (j+1) len<;>cases Nat.beq k c<;>cases ad.spot.isNone<;>rfl
  |_=>rfl
 |fld off a=>
  show zGS ((zl a).ev t) (fun a=>yQ a.spot.isNone (K (.pointer (some ⟨a.block,Nat.add a.off off,none⟩)) h) none)=_;rw[zj];simp only[WP];cases ev t a with
  |pointer p=>
   cases p with
   |none=>rfl
   |some ad=>dsimp only;show yQ ad.spot.isNone _ none=_;rw[yM];cases ad.spot.isNone<;>rfl
  |_=>rfl
 |len a=>
  show(match(zl a).ev t with
   | .slice _ n _=>K (.int .i64 (Int.ofNat n)) h
   |_=>none)=_
  rw[zj];simp only[WP];cases ev t a<;>rfl
 |nilCheck a=>
  show Za (Zp ((zl a).ev t)) (fun v=>K v h)=_;rw[zj,ZC];simp only[WP,Zh];cases Zp (ev t a)<;>rfl
 |extract a i=>
  show(match(zl a).ev t with
   | .tuple vs=>Za (zLl vs.toList i) fun v=>K v h
   |_=>none)=_
  rw[zj];simp only[WP];cases ev t a with
  |tuple vs=>
   simp only[ZC,zFu,Array.getElem?_toList];cases vs[i]?<;>rfl
  |_=>rfl
 |alloc zero=>show K _ (zCu h _)=_;rw[zEc];rfl
 |box a=>show K _ (zCu h (.row ((zl a).ev t).cells.toList true 0))=_;rw[zEc,zj];rfl
 |call f args=>
  show zGf x ((zl f).ev t) (args.map fun a=>(zl a).ev t) h K=_;rw[zCN,zj,zFV ok];rfl
 |invoke a name args=>
  show(match(zl a).ev t with
   | .iface ty v=>Za (Yb P ty name) fun f=>x.call f (v::args.map fun a=>(zl a).ev t) h K
   |_=>Zh (WP P Ex.bot t h (.invoke a name args)) K)=_
  rw[zj,zCN];simp only[WP];cases hv:ev t a with
  |iface ty v=>
   simp only[Yz,ZC];cases Yb P ty name with
   |none=>rfl
   |some f=>simp only[QR];exact ok.call _ _ _ _
  |_=>rfl
 |un op a=>
  show Za (unV op ((zl a).ev t)) (fun v=>K v h)=_;rw[zj,ZC];simp only[WP,Zh];cases unV op (ev t a)<;>rfl
 |isNil kind neg a=>
  show Za (zDK kind ((zl a).ev t)) (fun b=>K (.bool (if neg then !b else b)) h)=_;rw[zj,ZC];simp only[WP,Zh];cases zDK kind (ev t a)<;>rfl
 |binB neg a b=>
  show zDE ((zl a).ev t) (fun x=>zDE ((zl b).ev t) fun y=>K (.bool (if neg then x != y else x == y)) h)=_;rw[zj,zj];simp only[WP];cases ev t a with
  |bool x=>cases ev t b<;>rfl
  |_=>rfl
 |conv k a=>
  show zOu ((zl a).ev t) (fun _ n=>K (.int k (zCE k n)) h)=_;rw[zj];simp only[WP];cases ev t a with
  |int kk n=>show K (.int k (zCE k n)) h=_;rw[zAy];rfl
  |_=>rfl
 |build zero parts=>
  show Za (y8 zero (parts.map fun(a,b,x)=>(a,b,(zl x).ev t))) (fun cells=>K (.agg cells.toArray) h)=_;rw[zE4,ZC];simp only[WP,Zh];cases y8 zero (zp t parts)<;>rfl
 |buildSlice len c zero parts=>
  show Za (y8 (zS zero len) (parts.map fun(a,b,x)=>(a,b,(zl x).ev t))) (fun cells=>K (.slice (some ⟨h.n,0,none⟩) len c) (zCu h (.row cells true 0)))=_;rw[zE4,ZC];simp only[WP,Zh,zEc];cases y8 (zS zero len) (zp t parts)<;>rfl
 |part agg off n a=>
  show(match(zl a).ev t with
   | .agg cs=>Za (zFx cs.toList off n) fun l=>Za (zI agg l) fun v=>K v h
   |_=>none)=_
  rw[zj];simp only[WP];cases ev t a with
  |agg cs=>
   simp only[zDi,ZC];cases cut cs.toList off n with
   |none=>rfl
   |some l=>simp only[QR];cases zI agg l<;>rfl
  |_=>rfl
 |mkFunc fn first cap=>
  show(match fn with
   | .func f=>K (.func (.func f) (first.map fun a=>(zl a).ev t).toArray (cap.map fun a=>(zl a).ev t).toArray) h
   |_=>none)=_
  rw[zCN,zCN];simp only[WP];cases fn<;>rfl
 |append c a b=>
  show Zh (zz c ((zl a).ev t) ((zl b).ev t) h) K=_;rw[zj,zj];rfl
 |dfr f args=>rfl
 |dfrClear _ _ _ _=>rfl
 |recover=>rfl
 |_=>first|rfl|(show Zh (WP P Ex.bot t h _) K=_;exact slow rfl)
end
abbrev FrK:=WT->WG->R
def frK(x:Option (WT×WG))(K:FrK):R:=x.bind fun p=>K p.1 p.2
structure CloO where
 run:ExK->WT->WG->FrK->R
structure CloD where
 set:WJ Value->Value->WJ Value
def zG9(d:Option Nat):CloD:=
 match d with
 |some d=>⟨(Y7 64 d).set⟩
 |none=>⟨fun t _=>t⟩
theorem zKN(d:Option Nat)(fr:WT)(v:Value):(⟨(zG9 d).set fr.tm v,fr.dfs,fr.round⟩:WT)=val d fr v:=by
 cases d with
 |none=>rfl
 |some d=>show(⟨(Y7 64 d).set fr.tm v,fr.dfs,fr.round⟩:WT)=_;rw[(zGR 64 d).2];rfl
def zM2:W6->Bool
 | .dfr .. | .dfrClear .. | .recover=>true
 |_=>false
def zLF(P:Program)(op:W6)(d:Option Nat):CloO:=
 yQ (zM2 op) ⟨fun _ fr h K=>(zk P Ex.bot fr.tm fr.round h op).bind fun p=>K (val d {fr with dfs:=p.2.1++fr.dfs} p.1) p.2.2⟩
  ⟨fun x fr h K=>(zOS P op).run x fr.tm h fun v h=>K ⟨(zG9 d).set fr.tm v,fr.dfs,fr.round⟩ h⟩
def zLk(P:Program)(o:WH):CloO:=
 match o.guard with
 |none=>zLF P o.op o.dst
 |some (j,want)=>⟨fun x fr h K=>match(zl (.tmp j)).ev fr.tm with
  | .bool b=>yQ (b == want) ((zLF P o.op o.dst).run x fr h K) (K ⟨(zG9 o.dst).set fr.tm undef,fr.dfs,fr.round⟩ h)
  |_=>K ⟨(zG9 o.dst).set fr.tm undef,fr.dfs,fr.round⟩ h⟩
section
variable {P:Program}{e:Ex}{x:ExK}
theorem zOn(ok:Bc e x)(op:W6)(d:Option Nat)(fr:WT)(h:WG)(K:FrK):
  (zLF P op d).run x fr h K=(zk P e fr.tm fr.round h op).bind fun p=>K (val d {fr with dfs:=p.2.1++fr.dfs} p.1) p.2.2:=by
 unfold zLF;cases hd:zM2 op with
 |true=>
  show(zk P Ex.bot fr.tm fr.round h op).bind _=_;have:zk P Ex.bot fr.tm fr.round h op=zk P e fr.tm fr.round h op:=by cases op<;>first|(cases hd;done)|rfl
  rw[this]
 |false=>
  show(zOS P op).run x fr.tm h (fun v h=>K ⟨(zG9 d).set fr.tm v,fr.dfs,fr.round⟩ h)=_;rw[zOE ok];have e1:zk P e fr.tm fr.round h op=match WP P e fr.tm h op with
   |some (v,h)=>some (v,[],h)
   |none=>none:=by cases op<;>first|(cases hd;done)|rfl
  rw[e1];cases WP P e fr.tm h op with
  |none=>rfl
  |some q=>
   obtain⟨v,h⟩:=q;show K ⟨(zG9 d).set fr.tm v,fr.dfs,fr.round⟩ h=K (val d {fr with dfs:=[]++fr.dfs} v) h;rw[zKN];rfl
theorem zKL(ok:Bc e x)(o:WH)(fr:WT)(h:WG)(K:FrK):(zLk P o).run x fr h K=frK (yD P e o fr h) K:=by
 obtain⟨d,g,op⟩:=o;have plain:(zLF P op d).run x fr h K=frK (match zk P e fr.tm fr.round h op with
  |some (v,ds,h)=>some (val d {fr with dfs:=ds++fr.dfs} v,h)
  |none=>none) K:=by
  rw[zOn ok];cases zk P e fr.tm fr.round h op<;>rfl
 cases g with
 |none=>exact plain
 |some g=>
  obtain⟨j,want⟩:=g;have e0:(zLk P ⟨d,some (j,want),op⟩).run x fr h K=(match(zl (.tmp j)).ev fr.tm with
   | .bool b=>yQ (b == want) ((zLF P op d).run x fr h K) (K ⟨(zG9 d).set fr.tm undef,fr.dfs,fr.round⟩ h)
   |_=>K ⟨(zG9 d).set fr.tm undef,fr.dfs,fr.round⟩ h):=rfl
  have e1:yD P e ⟨d,some (j,want),op⟩ fr h=bif (match zC fr.tm j with| .bool b=>b == want|_=>false)then(match zk P e fr.tm fr.round h op with
   |some (v,ds,h)=>some (val d {fr with dfs:=ds++fr.dfs} v,h)
   |none=>none)else some (val d fr undef,h):=rfl
  rw[e0,e1,plain,zj,zKN];have e2:ev fr.tm (.tmp j)=zC fr.tm j:=rfl;rw[e2];cases zC fr.tm j with
  |bool b=>
   dsimp only;rw[yM];cases(b == want)<;>rfl
  |_=>rfl
def zKD(P:Program)(l:List WH):CloO:=
 @List.rec WH (fun _=>CloO) ⟨fun _ fr h K=>K fr h⟩ (fun o _ k=>⟨fun x fr h K=>(zLk P o).run x fr h fun fr h=>k.run x fr h K⟩) l
theorem zHI(ok:Bc e x):∀ (l:List WH) (fr:WT) (h:WG) (K:FrK),(zKD P l).run x fr h K=frK (yX P e l fr h) K
 |[],_,_,_=>rfl
 |o::l,fr,h,K=>by
  show(zLk P o).run x fr h (fun fr h=>(zKD P l).run x fr h K)=_;rw[zKL ok];simp only[yX,frK];cases yD P e o fr h with
  |none=>rfl
  |some q=>exact zHI ok l q.1 q.2 K
structure CloC where
 run:ExK->Nat->WT->WG->FrK->R
def zN0(P:Program)(o:WH):CloC:=
 yQ (Nat.beq (zG o.op) 3) ⟨fun _ g fr h K=>frK (yA P Ex.bot g o fr h) K⟩ ⟨fun x _ fr h K=>(zLk P o).run x fr h K⟩
theorem zOV(ok:Bc e x)(o:WH)(g:Nat)(fr:WT)(h:WG)(K:FrK):(zN0 P o).run x g fr h K=frK (yA P e g o fr h) K:=by
 unfold zN0;cases hk:Nat.beq (zG o.op) 3 with
 |true=>
  show frK (yA P Ex.bot g o fr h) K=_;unfold yA;simp only[hk,cond_true]
 |false=>
  show(zLk P o).run x fr h K=_;rw[zKL ok];unfold yA;simp only[hk,QT]
abbrev RsT:=List (Nat×Nat×Option (Nat×Nat×List Value))
structure CloR where
 run:ExK->Nat->Nat->List (Nat×Nat)->RsT->List (Nat×Nat)->WT->WG->(WT->WG->List (Nat×Nat)->R)->R
def B0(o:WH)(un:List Nat)(ws:List (Nat×Nat))(rs:RsT)(bs:List (Nat×Nat))(t:WJ Value)(h':WG):Bool:=
 (match zi t o with
  |some g=>(ws.all fun(j,g')=> !(Nat.beq g g'&&un.contains j))&&bs.all fun(j,n)=> !un.contains j||Nat.ble (g+1) n
  |none=>true)&&rs.all fun(j,g,vw)=> !(un.contains j&&h'.wr.contains g)||zCz h' g vw
def okF(o:WH)(un:List Nat)(ws:List (Nat×Nat))(rs:RsT)(bs:List (Nat×Nat))(t:WJ Value)(h':WG):Bool:=
 match un with
 |[]=>true
 |un=>B0 o un ws rs bs t h'
theorem zPv(o:WH)(un:List Nat)(ws:List (Nat×Nat))(rs:RsT)(bs:List (Nat×Nat))(t:WJ Value)(h':WG):okF o un ws rs bs t h'=B0 o un ws rs bs t h':=by
 cases un with
 |cons a l=>rfl
 |nil=>
  unfold okF B0;cases zi t o<;>simp
def zOz(P:Program)(l:List (WH×List Nat)):CloR:=
 @List.rec (WH×List Nat) (fun _=>CloR) ⟨fun _ _ _ ws _ _ fr h K=>K fr h ws⟩
  (fun o _ k=>⟨fun x i g ws rs bs fr h K=>(zN0 P o.1).run x g fr ⟨h.n,h.tab,h.n,[]⟩ fun fr' h'=>
   yQ (okF o.1 o.2 ws rs bs fr.tm h') (k.run x (Nat.succ i) (yQ (Nat.beq (zG o.1.op) 3) (Nat.succ g) g) (h'.wr.map (fun g=>(i,g))++ws) (match zi fr.tm o.1 with
     |some g=>(i,g,Ys fr.tm h o.1.op)::rs
     |none=>rs) ((i,h.n)::bs) fr' h' K) none⟩) l
theorem zJi(ok:Bc e x):∀ (l:List (WH×List Nat)) (i g:Nat) (ws:List (Nat×Nat)) (rs:RsT) (bs:List (Nat×Nat)) (fr:WT) (h:WG) (K:WT->WG->List (Nat×Nat)->R),
  (zOz P l).run x i g ws rs bs fr h K=(yE P e l i g ws rs bs fr h).bind fun p=>K p.1 p.2.1 p.2.2
 |[],_,_,_,_,_,_,_,_=>rfl
 |(o,un)::l,i,g,ws,rs,bs,fr,h,K=>by
  show(zN0 P o).run x g fr ⟨h.n,h.tab,h.n,[]⟩ (fun fr' h'=>
   yQ (okF o un ws rs bs fr.tm h') ((zOz P l).run x (Nat.succ i) (yQ (Nat.beq (zG o.op) 3) (Nat.succ g) g) (h'.wr.map (fun g=>(i,g))++ws) (match zi fr.tm o with
     |some g=>(i,g,Ys fr.tm h o.op)::rs
     |none=>rs) ((i,h.n)::bs) fr' h' K) none)=_
  rw[zOV ok,yE];show frK (yA P e g o fr {h with mark:=h.n,wr:=[]}) _=_;cases yA P e g o fr {h with mark:=h.n,wr:=[]} with
  |none=>rfl
  |some q=>
   obtain⟨fr',h'⟩:=q;show yQ (okF o un ws rs bs fr.tm h') _ none=(bif B0 o un ws rs bs fr.tm h' then _ else none).bind _;rw[zPv,yM];cases B0 o un ws rs bs fr.tm h' with
   |false=>rfl
   |true=>simp only[cond_true];rw[zJi ok l,yM];rfl
structure CloX where
 run:ExK->WT->WG->(WQ->WT->WG->R)->R
def zPY(l:List (WH×List Nat)):Nat:=(l.filter fun x=>Nat.beq (zG x.1.op) 3).length
def zGs(x:ExK)(b:WW)(n:Nat):WW->WT->WG->(WQ->WT->WG->R)->R:=
 @Nat.rec (fun _=>WW->WT->WG->(WQ->WT->WG->R)->R) (fun _ _ _ _=>none) (fun _ k c fr h K=>x.exec c fr h fun e fr h=>match e with
  | .goto l=>(match zv b l with
   |some rest=>k rest fr h K
   |none=>K (.goto l) fr h)
  |e=>K e fr h) n
def exK(x:Option (WQ×WT×WG))(K:WQ->WT->WG->R):R:=x.bind fun p=>K p.1 p.2.1 p.2.2
theorem zFh(ok:Bc e x)(b:WW):∀ (n:Nat) (c:WW) (fr:WT) (h:WG) (K:WQ->WT->WG->R),zGs x b n c fr h K=exK (Zg e n b c fr h) K
 |0,_,_,_,_=>rfl
 |n+1,c,fr,h,K=>by
  show x.exec c fr h (fun e fr h=>match e with
   | .goto l=>(match zv b l with
    |some rest=>zGs x b n rest fr h K
    |none=>K (.goto l) fr h)
   |e=>K e fr h)=_
  rw[ok.exec];simp only[Zg];cases e.exec c fr h with
  |none=>rfl
  |some p=>
   obtain⟨ex,fr1,h1⟩:=p;cases ex with
   |goto l=>
    simp only[QR];cases zv b l with
    |none=>rfl
    |some rest=>exact zFh ok b n rest fr1 h1 K
   |_=>rfl
def zDN(x:ExK)(f:Value)(params:List Nat)(assign body:WW)(fr:WT)(d:Nat)(mark:List Deferred)(h:WG)(K:WQ->WT->WG->R):R:=
 zGf x f [.func (.yield h.n) #[] #[]] (h.push (.loop {state:= .ready,pending:=none,fn:=0,tm:=fr.tm,params,assign,body,defers:=d})) fun _ h2=>
  match h2.get h.n with
  |some (.loop r)=>
   match r.state with
   | .busy=>none
   |_=>match r.pending with
    |none=>K .normal {fr with dfs:=mark++fr.dfs} (h2.set h.n (.loop {r with state:= .exhausted}))
    |some .ret=>K .ret {fr with dfs:=mark++fr.dfs} (h2.set h.n (.loop {r with state:= .exhausted}))
    |some (.exit id)=>K (.exit id) {fr with dfs:=mark++fr.dfs} (h2.set h.n (.loop {r with state:= .exhausted}))
    |some (.goto g)=>K (.goto g) {fr with dfs:=mark++fr.dfs} (h2.set h.n (.loop {r with state:= .exhausted}))
    |some _=>none
  |_=>none
theorem zD7(ok:Bc e x)(f:Value)(params:List Nat)(assign body:WW)(fr:WT)(d:Nat)(mark:List Deferred)(h:WG)(K:WQ->WT->WG->R):
  zDN x f params assign body fr d mark h K=exK (Yk e f params assign body fr d mark h) K:=by
 unfold zDN Yk;rw[zFV ok];cases zAP e f [.func (.yield h.n) #[] #[]] (h.push (.loop {state:= .ready,pending:=none,fn:=0,tm:=fr.tm,params,assign,body,defers:=d}))with
 |none=>rfl
 |some p=>
  obtain⟨v,h2⟩:=p;simp only[Zh,QR];cases h2.get h.n with
  |none=>rfl
  |some o=>
   cases o with
   |loop r=>
    simp only;cases r.state<;>(simp only;try rfl)<;>(cases r.pending with
     |none=>rfl
     |some c=>cases c<;>rfl)
   |_=>rfl
def zF6(x:ExK)(f:Value)(params:List Nat)(assign body:WW)(fr:WT)(h:WG)(K:WQ->WT->WG->R):R:=
 match fr.round with
 |none=>zDN x f params assign body fr h.n [{target:= .collected h.n,args:=#[]}] (h.push (.deferred (some []))) K
 |some l=>match h.get l with
  |some (.loop r)=>zDN x f params assign body fr r.defers [] h K
  |_=>none
theorem zLR(ok:Bc e x)(f:Value)(params:List Nat)(assign body:WW)(fr:WT)(h:WG)(K:WQ->WT->WG->R):zF6 x f params assign body fr h K=exK (zAS e f params assign body fr h) K:=by
 unfold zF6 zAS;cases fr.round with
 |none=>exact zD7 ok _ _ _ _ _ _ _ _ _
 |some l=>
  simp only;cases h.get l with
  |none=>rfl
  |some o=>
   cases o with
   |loop r=>exact zD7 ok _ _ _ _ _ _ _ _ _
   |_=>rfl
def zPU(P:Program)(c:WW):CloX:=
 match c with
 | .skip=>⟨fun _ fr h K=>K .normal fr h⟩
 | .label _=>⟨fun _ fr h K=>K .normal fr h⟩
 | .region ops=>⟨fun x fr h K=>(zKD P ops).run x fr h fun fr h=>K .normal fr h⟩
 | .regionC ops=>⟨fun x fr h K=>(zOz P ops).run x 0 h.n [] [] [] fr ⟨Nat.add h.n (zPY ops),h.tab,h.mark,h.wr⟩ fun fr' h' ws=>K .normal fr' ⟨h'.n,h'.tab,h.mark,((ws.map (·.2)).filter fun g=> !Nat.ble h.mark g)++h.wr⟩⟩
 | .seq a b=>⟨fun x fr h K=>x.exec a fr h fun e fr h=>match e with
  | .normal=>x.exec b fr h K
  |e=>K e fr h⟩
 | .cond c a b=>⟨fun x fr h K=>zDE ((zl c).ev fr.tm) fun q=>yQ q (x.exec a fr h K) (x.exec b fr h K)⟩
 | .block id b=>⟨fun x fr h K=>x.exec b fr h fun e fr h=>match e with
  | .exit id'=>yQ (Nat.beq id' id) (K .normal fr h) (K (.exit id') fr h)
  |e=>K e fr h⟩
 | .loop b=>⟨fun x fr h K=>x.exec b fr h fun e fr h=>match e with
  | .normal=>x.exec (.loop b) fr h K
  |e=>K e fr h⟩
 | .exit id=>⟨fun _ fr h K=>K (.exit id) fr h⟩
 | .goto l=>⟨fun _ fr h K=>K (.goto l) fr h⟩
 | .ret=>⟨fun _ fr h K=>K .ret fr h⟩
 | .scope b=>⟨fun x fr h K=>zGs x b zEz b fr h K⟩
 | .rangeFunc f params assign body=>⟨fun x fr h K=>zF6 x ((zl f).ev fr.tm) params assign body fr h K⟩
theorem zOR(ok:Bc e x)(c:WW)(fr:WT)(h:WG)(K:WQ->WT->WG->R):(zPU P c).run x fr h K=exK (zh P e c fr h) K:=by
 cases c with
 |region ops=>
  show(zKD P ops).run x fr h (fun fr h=>K .normal fr h)=_;rw[zHI ok];simp only[zh,frK,exK];cases yX P e ops fr h<;>rfl
 |regionC ops=>
  show(zOz P ops).run x 0 h.n [] [] [] fr ⟨Nat.add h.n (zPY ops),h.tab,h.mark,h.wr⟩ (fun fr' h' ws=>K .normal fr' ⟨h'.n,h'.tab,h.mark,((ws.map (·.2)).filter fun g=> !Nat.ble h.mark g)++h.wr⟩)=_;rw[zJi ok];simp only[zh,exK,YK];have:(⟨Nat.add h.n (zPY ops),h.tab,h.mark,h.wr⟩:WG)={h with n:=h.n+(ops.filter fun x=>Nat.beq (zG x.1.op) 3).length}:=rfl;rw[this];cases yE P e ops 0 h.n [] [] [] fr {h with n:=h.n+(ops.filter fun x=>Nat.beq (zG x.1.op) 3).length}<;>rfl
 |seq a b=>
  show x.exec a fr h (fun e fr h=>match e with
   | .normal=>x.exec b fr h K
   |e=>K e fr h)=_
  rw[ok.exec];simp only[zh,exK];cases e.exec a fr h with
  |none=>rfl
  |some p=>
   obtain⟨ex,fr1,h1⟩:=p;cases ex with
   |normal=>exact ok.exec _ _ _ _
   |_=>rfl
 |cond c a b=>
  show zDE ((zl c).ev fr.tm) (fun q=>yQ q (x.exec a fr h K) (x.exec b fr h K))=_;rw[zj];simp only[zh,exK];cases ev fr.tm c with
  |bool q=>cases q<;>exact ok.exec _ _ _ _
  |_=>rfl
 |block id b=>
  show x.exec b fr h (fun e fr h=>match e with
   | .exit id'=>yQ (Nat.beq id' id) (K .normal fr h) (K (.exit id') fr h)
   |e=>K e fr h)=_
  rw[ok.exec];simp only[zh,exK];cases e.exec b fr h with
  |none=>rfl
  |some p=>
   obtain⟨ex,fr1,h1⟩:=p;cases ex with
   |exit i=>
    simp only[QR];rw[yM];by_cases hi:i=id
    ·subst hi;simp
    ·have:Nat.beq i id=false:=by rw[Bool.eq_false_iff];intro hb;exact hi (QJ hb)
     rw[this,QC hi];rfl
   |_=>rfl
 |loop b=>
  show x.exec b fr h (fun e fr h=>match e with
   | .normal=>x.exec (.loop b) fr h K
   |e=>K e fr h)=_
  rw[ok.exec];simp only[zh,exK];cases e.exec b fr h with
  |none=>rfl
  |some p=>
   obtain⟨ex,fr1,h1⟩:=p;cases ex with
   |normal=>exact ok.exec _ _ _ _
   |_=>rfl
 |scope b=>
  show zGs x b zEz b fr h K=exK (Zg e zEz b b fr h) K;exact zFh ok b zEz b fr h K
 |rangeFunc f ps a b=>
  show zF6 x ((zl f).ev fr.tm) ps a b fr h K=_;rw[zj];exact zLR ok _ _ _ _ _ _ _
 |_=>rfl
def zAa(x:ExK)(ds:List Deferred):WG->(WG->R)->R:=
 @List.rec Deferred (fun _=>WG->(WG->R)->R) (fun h K=>K h) (fun d _ k h K=>match d.target with
  | .fn (.func f) cap=>x.call f (d.args.toList++cap.toList) h fun _ h=>k h K
  | .builtin .clear _ _ _=>match d.args.toList with
   |[.map (some g)]=>match h.get g with
    |some (.map _ clock)=>k (h.set g (.map [] clock)) K
    |_=>none
   |_=>none
  | .collected g=>match h.get g with
   |some (.deferred (some []))=>k (h.set g (.deferred none)) K
   |_=>none
  |_=>none) ds
theorem zAf(ok:Bc e x):∀ (ds:List Deferred) (h:WG) (K:WG->R),zAa x ds h K=(yY e ds h).bind K
 |[],_,_=>rfl
 |d::ds,h,K=>by
  obtain⟨tg,as⟩:=d;show(match tg with
   | .fn (.func f) cap=>x.call f (as.toList++cap.toList) h fun _ h=>zAa x ds h K
   | .builtin .clear _ _ _=>match as.toList with
    |[.map (some g)]=>match h.get g with
     |some (.map _ clock)=>zAa x ds (h.set g (.map [] clock)) K
     |_=>none
    |_=>none
   | .collected g=>match h.get g with
    |some (.deferred (some []))=>zAa x ds (h.set g (.deferred none)) K
    |_=>none
   |_=>none)=_
  rw[yY];dsimp only;have mapK:∀ g,(match h.get g with
    |some (.map _ clock)=>zAa x ds (h.set g (.map [] clock)) K
    |_=>none)=(match h.get g with
    |some (.map _ clock)=>yY e ds (h.set g (.map [] clock))
    |_=>none).bind K:=fun g=>by
   cases h.get g with
   |none=>rfl
   |some o=>cases o<;>first|exact zAf ok ds _ K|rfl
  have defK:∀ g,(match h.get g with
    |some (.deferred (some []))=>zAa x ds (h.set g (.deferred none)) K
    |_=>none)=(match h.get g with
    |some (.deferred (some []))=>yY e ds (h.set g (.deferred none))
    |_=>none).bind K:=fun g=>by
   cases h.get g with
   |none=>rfl
   |some o=>
    cases o with
    |deferred q=>
     cases q with
     |none=>rfl
     |some l=>cases l<;>first|exact zAf ok ds _ K|rfl
    |_=>rfl
  cases tg with
  |fn f cap=>
   cases f with
   |func f=>
    dsimp only;rw[ok.call];simp only[Zh];cases e.call f (as.toList++cap.toList) h with
    |none=>rfl
    |some p=>exact zAf ok ds p.2 K
   |_=>rfl
  |builtin b ts ty cs=>
   cases b with
   |clear=>
    dsimp only;generalize as.toList=l;rcases l with _|⟨a,_|⟨b,l⟩⟩
    ·rfl
    ·cases a with
     |map r=>
      cases r with
      |none=>rfl
      |some g=>exact mapK g
     |_=>rfl
    ·cases a with
     |map r=>cases r<;>rfl
     |_=>rfl
   |_=>rfl
  |collected g=>exact defK g
  |_=>rfl
def zL1(l:List Value):Nat->WJ Value->WJ Value:=
 @List.rec Value (fun _=>Nat->WJ Value->WJ Value) (fun _ t=>t) (fun v _ k n t=>k (Nat.succ n) ((Y7 64 n).set t v)) l
theorem zHx:∀ (l:List Value) (k:Nat) (t:WJ Value),zL1 l k t=zDL l k t
 |[],_,_=>rfl
 |v::l,k,t=>by
  show zL1 l (k+1) ((Y7 64 k).set t v)=_;rw[zHx l,(zGR 64 k).2];rfl
def zPd(h:WG)(t:WJ Value)(r:Nat×Option (Bool×Nat)):Option Value:=
 match r with
 |(k,none)=>some ((zl (.tmp k)).ev t)
 |(k,some (agg,n))=>match(zl (.tmp k)).ev t with
  | .pointer (some a)=>yQ a.spot.isNone (match zHm h a.block with
   |some (.row cells _ _)=>(zFx cells a.off n).bind (zI agg)
   |_=>none) none
  |_=>none
theorem zOC(h:WG)(t:WJ Value)(r:Nat×Option (Bool×Nat)):zPd h t r=YL h t r:=by
 obtain⟨k,o⟩:=r;cases o with
 |none=>show some ((zl (.tmp k)).ev t)=some (zC t k);rw[zj];rfl
 |some q=>
  obtain⟨agg,n⟩:=q;show(match(zl (.tmp k)).ev t with
   | .pointer (some a)=>yQ a.spot.isNone (match zHm h a.block with
    |some (.row cells _ _)=>(zFx cells a.off n).bind (zI agg)
    |_=>none) none
   |_=>none)=(match zC t k with
   | .pointer (some a)=>bif a.spot.isNone then((zt h a.block).bind fun cells=>cut cells a.off n).bind (zI agg)else none
   |_=>none)
  rw[zj];have e2:ev t (.tmp k)=zC t k:=rfl;rw[e2];cases zC t k with
  |pointer p=>
   cases p with
   |none=>rfl
   |some a=>
    dsimp only;rw[yM,zEA];unfold zt;cases a.spot.isNone with
    |false=>rfl
    |true=>
     cases h.get a.block with
     |none=>rfl
     |some o=>cases o<;>first|(simp only[zDi];rfl)|rfl
  |_=>rfl
def zNh(h:WG)(t:WJ Value)(l:List (Nat×Option (Bool×Nat))):Option (List Value):=
 @List.rec (Nat×Option (Bool×Nat)) (fun _=>Option (List Value)) (some []) (fun r _ q=> @Option.rec Value (fun _=>Option (List Value)) none (fun v=> @Option.rec (List Value) (fun _=>Option (List Value)) none (fun vs=>some (v::vs)) q) (zPd h t r)) l
theorem zHA(h:WG)(t:WJ Value):∀ l,zNh h t l=zy h t l
 |[]=>rfl
 |r::l=>by
  show @Option.rec Value (fun _=>Option (List Value)) none (fun v=> @Option.rec (List Value) (fun _=>Option (List Value)) none (fun vs=>some (v::vs)) (zNh h t l)) (zPd h t r)=_;rw[zOC,zHA h t l,zy];cases YL h t r with
  |none=>rfl
  |some v=>cases zy h t l<;>rfl
def zKB(tab:Ww)(x:ExK)(f:FuncId)(args:List Value)(h:WG)(K:Value->WG->R):R:=
 match tab.stub f with
 |some s=>Zh (s args h) K
 |none=>Za (tab.code f) fun fn=>x.exec fn.body ⟨zL1 args 0 .leaf,[],none⟩ h fun e fr h=>
   yQ (match e with| .normal| .ret=>true|_=>false) (zAa x fr.dfs h fun h=>Za (zNh h fr.tm fn.results) fun vs=>K (one vs) h) none
theorem zNc(ok:Bc e x)(tab:Ww)(f:FuncId)(args:List Value)(h:WG)(K:Value->WG->R):zKB tab x f args h K=Zh (zAj P tab e f args h) K:=by
 unfold zKB zAj;cases tab.stub f with
 |some s=>rfl
 |none=>
  simp only;rw[ZC];unfold zCG;cases tab.code f with
  |none=>rfl
  |some fn=>
   simp only[QR];rw[ok.exec,zHx];cases e.exec fn.body ⟨zDL args 0 .leaf,[],none⟩ h with
   |none=>rfl
   |some p=>
    obtain⟨ex,fr,h1⟩:=p;simp only[QR,yM,zAf ok,ZC,zHA];cases ex<;>simp only[cond_true,QT,Zh,Option.bind_none];all_goals
     cases yY e fr.dfs h1 with
     |none=>rfl
     |some h2=>
      simp only[QR];cases zy h2 fr.tm fn.results<;>rfl
def zLC(P:Program)(tab:Ww)(n:Nat):ExK:=
 @Nat.rec (fun _=>ExK) ⟨fun _ _ _ _=>none,fun _ _ _ _=>none⟩ (fun _ x=>⟨fun c fr h K=>(zPU P c).run x fr h K,fun f args h K=>zKB tab x f args h K⟩) n
theorem zK5(P:Program)(tab:Ww)(n:Nat):zLC P tab (n+1)=⟨fun c fr h K=>(zPU P c).run (zLC P tab n) fr h K,fun f args h K=>zKB tab (zLC P tab n) f args h K⟩:=rfl
theorem zOY(P:Program)(tab:Ww)(n:Nat):Bc (BJ P tab n) (zLC P tab n):=by
 induction n with
 |zero=>exact⟨fun _ _ _ _=>rfl,fun _ _ _ _=>rfl⟩
 |succ n ih=>
  rw[zK5];refine⟨fun c fr h K=> ?_,fun f args h K=> ?_⟩
  ·have:=zOR ih c fr h K (P:=P);exact this
  ·have:=zNc (P:=P) ih tab f args h K;exact this
theorem zNL{P:Program}{tab:Ww}{n:Nat}{f:FuncId}{args:List Value}{h:WG}{v:Value}(hx:(zLC P tab n).call f args h (fun v _=>some v)=some v):
  ((BJ P tab n).call f args h).map (·.1)=some v:=by
 have e:=(zOY P tab n).call f args h fun v _=>some v;rw[hx]at e;cases hc:(BJ P tab n).call f args h with
 |none=>rw[hc]at e;cases e
 |some p=>rw[hc]at e;exact e.symm
end
end
end Go.Am
