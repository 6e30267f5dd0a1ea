/- A part of the machine and of its soundness; proves no statement. -/
import Derived.Test.YtmilpkdhbdgjfaaGreatDoorAmD
set_option linter.all false
namespace Go.Am
noncomputable section
def yQ{α:Type}(b:Bool)(x y:α):α:= @Bool.rec (fun _=>α) y x b
theorem yO{α:Type}(b:Bool)(x y:α):yQ b x y=bif b then x else y:=by cases b<;>rfl
def WJ.getF{α:Type}(t:WJ α):Nat->Option α:=
 @WJ.rec α (fun _=>Nat->Option α) (fun _=>none) (fun v _ _ gl gr k=> @Bool.rec (fun _=>Option α) (@Bool.rec (fun _=>Option α) (gr (Nat.pred (Nat.div k (nat_lit 2)))) (gl (Nat.div k (nat_lit 2))) (Nat.beq (Nat.mod k (nat_lit 2)) (nat_lit 1))) v (Nat.beq k (nat_lit 0))) t
theorem zF5{α:Type}:∀ (t:WJ α) (k:Nat),t.getF k=t.get k
 | .leaf,_=>rfl
 | .node v l r,k=>by
  show yQ (Nat.beq k 0) v (yQ (Nat.beq (k % 2) 1) (l.getF (k / 2)) (r.getF (k / 2-1)))=_;rw[yO,yO,zF5 l,zF5 r];rfl
def zJq{α:Type}(v:Option α)(f:Nat):Nat->WJ α:=
 @Nat.rec (fun _=>Nat->WJ α) (fun _=> .leaf) (fun _ p k=> @Bool.rec (fun _=>WJ α) (@Bool.rec (fun _=>WJ α) (.node none .leaf (p (Nat.pred (Nat.div k (nat_lit 2))))) (.node none (p (Nat.div k (nat_lit 2))) .leaf) (Nat.beq (Nat.mod k (nat_lit 2)) (nat_lit 1))) (.node v .leaf .leaf) (Nat.beq k (nat_lit 0))) f
theorem zEU{α:Type}(v:Option α):∀ (f k:Nat),zJq v f k=WJ.put v f k .leaf
 |0,_=>rfl
 |f+1,k=>by
  show yQ (Nat.beq k 0) _ (yQ (Nat.beq (k % 2) 1) (WJ.node none (zJq v f (k / 2)) .leaf) (.node none .leaf (zJq v f (k / 2-1))))=_;rw[yO,yO,zEU v f,zEU v f];rfl
def WJ.putF{α:Type}(v:Option α)(t:WJ α):Nat->WJ α:=
 @WJ.rec α (fun _=>Nat->WJ α) (fun k=>zJq v (Nat.succ k) k)
  (fun u l r pl pr k=> @Bool.rec (fun _=>WJ α) (@Bool.rec (fun _=>WJ α) (.node u l (pr (Nat.pred (Nat.div k (nat_lit 2))))) (.node u (pl (Nat.div k (nat_lit 2))) r) (Nat.beq (Nat.mod k (nat_lit 2)) (nat_lit 1))) (.node v l r) (Nat.beq k (nat_lit 0))) t
theorem zAN{α:Type}(v:Option α):∀ (f g k:Nat) (t:WJ α),k<f->k<g->WJ.put v f k t=WJ.put v g k t:=by
 intro f;induction f with
 |zero=>intro g k t h;omega
 |succ f ih=>
  intro g k t h1 h2;obtain⟨g,rfl⟩:∃ g',g=g'+1:=⟨g-1,by omega⟩;have hb:∀ a b:Nat,Nat.beq a b=decide (a=b):=fun a b=>by rw[GK];simp
  cases t with
  |leaf=>
   simp only[WJ.put,hb];by_cases hk:k=0
   ·simp[hk]
   ·simp only[hk,decide_false,QS];rw[ih g (k / 2) _ (by omega) (by omega),ih g (k / 2-1) _ (by omega) (by omega)]
  |node u l r=>
   simp only[WJ.put,hb];by_cases hk:k=0
   ·simp[hk]
   ·simp only[hk,decide_false,QS];rw[ih g (k / 2) _ (by omega) (by omega),ih g (k / 2-1) _ (by omega) (by omega)]
theorem zDa{α:Type}(v:Option α):∀ (t:WJ α) (k:Nat),t.putF v k=WJ.put v (k+1) k t
 | .leaf,k=>zEU v (k+1) k
 | .node u l r,k=>by
  show yQ (Nat.beq k 0) (WJ.node v l r) (yQ (Nat.beq (k % 2) 1) (.node u (l.putF v (k / 2)) r) (.node u l (r.putF v (k / 2-1))))=_;rw[yO,yO,zDa v l,zDa v r];have hb:∀ a b:Nat,Nat.beq a b=decide (a=b):=fun a b=>by rw[GK];simp
  simp only[WJ.put,hb];by_cases hk:k=0
  ·simp[hk]
  ·simp only[hk,decide_false,QS];rw[zAN v (k / 2+1) k (k / 2) l (by omega) (by omega),zAN v (k / 2-1+1) k (k / 2-1) r (by omega) (by omega)]
theorem zHh(k:Nat)(v:Value)(hk:¬k=0):(WJ.leaf:WJ Value).set k v=yQ (Nat.beq (k % 2) 1) (.node none (WJ.leaf.set (k / 2) v) .leaf) (.node none .leaf (WJ.leaf.set (k / 2-1) v)):=by
 have h0:Nat.beq k 0=false:=by cases hb:Nat.beq k 0 with
  |false=>rfl
  |true=>exact absurd (QK hb) hk
 have e:(WJ.leaf:WJ Value).set k v=bif Nat.beq k 0 then WJ.node (some v) .leaf .leaf else bif Nat.beq (k % 2) 1 then .node none (WJ.put (some v) k (k / 2) .leaf) .leaf else .node none .leaf (WJ.put (some v) k (k / 2-1) .leaf):=rfl;rw[e,h0,yO,QS,zAN _ k (k / 2+1) (k / 2) _ (by omega) (by omega),zAN _ k (k / 2-1+1) (k / 2-1) _ (by omega) (by omega)];rfl
theorem zHm(k:Nat)(v:Value)(u:Option Value)(l r:WJ Value)(hk:¬k=0):(WJ.node u l r).set k v=yQ (Nat.beq (k % 2) 1) (.node u (l.set (k / 2) v) r) (.node u l (r.set (k / 2-1) v)):=by
 have h0:Nat.beq k 0=false:=by cases hb:Nat.beq k 0 with
  |false=>rfl
  |true=>exact absurd (QK hb) hk
 have e:(WJ.node u l r).set k v=bif Nat.beq k 0 then WJ.node (some v) l r else bif Nat.beq (k % 2) 1 then .node u (WJ.put (some v) k (k / 2) l) r else .node u l (WJ.put (some v) k (k / 2-1) r):=rfl;rw[e,h0,yO,QS,zAN _ k (k / 2+1) (k / 2) _ (by omega) (by omega),zAN _ k (k / 2-1+1) (k / 2-1) _ (by omega) (by omega)];rfl
structure CloG where
 get:WJ Value->Option Value
 set:WJ Value->Value->WJ Value
def B1(f:Nat):Nat->CloG:=
 @Nat.rec (fun _=>Nat->CloG) (fun k=>⟨fun t=>t.get k,fun t v=>WJ.put (some v) (k+1) k t⟩)
  (fun _ p k=> @Bool.rec (fun _=>CloG) (@Bool.rec (fun _=>CloG)
   ⟨fun t=>(p (Nat.pred (Nat.div k (nat_lit 2)))).get (@WJ.rec Value (fun _=>WJ Value) .leaf (fun _ _ r _ _=>r) t),fun t v=> @WJ.rec Value (fun _=>WJ Value) (.node none .leaf ((p (Nat.pred (Nat.div k (nat_lit 2)))).set .leaf v)) (fun u l r _ _=> .node u l ((p (Nat.pred (Nat.div k (nat_lit 2)))).set r v)) t⟩
   ⟨fun t=>(p (Nat.div k (nat_lit 2))).get (@WJ.rec Value (fun _=>WJ Value) .leaf (fun _ l _ _ _=>l) t),fun t v=> @WJ.rec Value (fun _=>WJ Value) (.node none ((p (Nat.div k (nat_lit 2))).set .leaf v) .leaf) (fun u l r _ _=> .node u ((p (Nat.div k (nat_lit 2))).set l v) r) t⟩
   (Nat.beq (Nat.mod k (nat_lit 2)) (nat_lit 1)))
   ⟨fun t=> @WJ.rec Value (fun _=>Option Value) none (fun v _ _ _ _=>v) t,fun t v=> @WJ.rec Value (fun _=>WJ Value) (.node (some v) .leaf .leaf) (fun _ l r _ _=> .node (some v) l r) t⟩
   (Nat.beq k (nat_lit 0))) f
theorem zFm:∀ (f k:Nat),(∀ t,(B1 f k).get t=t.get k)/\∀ t v,(B1 f k).set t v=t.set k v:=by
 intro f;induction f with
 |zero=>intro k;exact⟨fun _=>rfl,fun _ _=>rfl⟩
 |succ f ih=>
  intro k;have hb:∀ a b:Nat,Nat.beq a b=decide (a=b):=fun a b=>by rw[GK];simp
  have step:B1 (f+1) k=yQ (Nat.beq k 0) ⟨fun t=> @WJ.rec Value (fun _=>Option Value) none (fun v _ _ _ _=>v) t,fun t v=> @WJ.rec Value (fun _=>WJ Value) (.node (some v) .leaf .leaf) (fun _ l r _ _=> .node (some v) l r) t⟩
   (yQ (Nat.beq (k % 2) 1) ⟨fun t=>(B1 f (k / 2)).get (@WJ.rec Value (fun _=>WJ Value) .leaf (fun _ l _ _ _=>l) t),fun t v=> @WJ.rec Value (fun _=>WJ Value) (.node none ((B1 f (k / 2)).set .leaf v) .leaf) (fun u l r _ _=> .node u ((B1 f (k / 2)).set l v) r) t⟩
    ⟨fun t=>(B1 f (k / 2-1)).get (@WJ.rec Value (fun _=>WJ Value) .leaf (fun _ _ r _ _=>r) t),fun t v=> @WJ.rec Value (fun _=>WJ Value) (.node none .leaf ((B1 f (k / 2-1)).set .leaf v)) (fun u l r _ _=> .node u l ((B1 f (k / 2-1)).set r v)) t⟩):=rfl
  rw[step];by_cases hk:k=0
  ·subst hk;exact⟨fun t=>by cases t<;>rfl,fun t v=>by cases t<;>rfl⟩
  ·have h0:Nat.beq k 0=false:=by rw[hb];simp[hk]
   rw[h0];by_cases ho:k % 2=1
   ·have h1:Nat.beq (k % 2) 1=true:=by rw[hb];simp[ho]
    rw[h1];refine⟨fun t=> ?_,fun t v=> ?_⟩
    ·show(B1 f (k / 2)).get _=_;rw[(ih _).1];cases t with
     |leaf=>rfl
     |node u l r=>simp only[WJ.get,h0,h1,cond_true,QS]
    ·cases t with
     |leaf=>
      show WJ.node none ((B1 f (k / 2)).set .leaf v) .leaf=_;rw[(ih _).2,zHh k v hk,h1];rfl
     |node u l r=>
      show WJ.node u ((B1 f (k / 2)).set l v) r=_;rw[(ih _).2,zHm k v u l r hk,h1];rfl
   ·have h1:Nat.beq (k % 2) 1=false:=by rw[hb];simp[ho]
    rw[h1];refine⟨fun t=> ?_,fun t v=> ?_⟩
    ·show(B1 f (k / 2-1)).get _=_;rw[(ih _).1];cases t with
     |leaf=>rfl
     |node u l r=>simp only[WJ.get,h0,h1,cond_true,QS]
    ·cases t with
     |leaf=>
      show WJ.node none .leaf ((B1 f (k / 2-1)).set .leaf v)=_;rw[(ih _).2,zHh k v hk,h1];rfl
     |node u l r=>
      show WJ.node u l ((B1 f (k / 2-1)).set r v)=_;rw[(ih _).2,zHm k v u l r hk,h1];rfl
structure CloE where
 ev:WJ Value->Value
def zl(x:Operand):CloE:=
 match x with
 | .tmp k=>⟨fun t=> @Option.rec Value (fun _=>Value) undef (fun v=>v) ((B1 64 k).get t)⟩
 | .const v=>⟨fun _=>v⟩
 | .global g=>⟨fun _=> .pointer (some ⟨g,0,none⟩)⟩
 | .func f=>⟨fun _=> .func (.func f) #[] #[]⟩
theorem zj(x:Operand)(t:WJ Value):(zl x).ev t=ev t x:=by
 cases x with
 |tmp k=>
  show @Option.rec Value (fun _=>Value) undef (fun v=>v) ((B1 64 k).get t)=(t.get k).getD undef;rw[(zFm 64 k).1];cases t.get k<;>rfl
 |_=>rfl
def zHW(h:WG)(g:Nat):Option Wn:=h.tab.getF g
theorem zEK(h:WG)(g:Nat):zHW h g=h.get g:=zF5 _ _
def zC6(h:WG)(o:Wn):WG:=⟨Nat.succ h.n,h.tab.putF (some o) h.n,h.mark,h.wr⟩
theorem zDq(h:WG)(o:Wn):zC6 h o=h.push o:=by unfold zC6 WG.push WJ.set;rw[zDa]
def zNi(h:WG)(g:Nat)(o:Wn):WG:=⟨h.n,h.tab.putF (some o) g,h.mark,h.log g⟩
theorem zNG(h:WG)(g:Nat)(o:Wn):zNi h g o=h.set g o:=by unfold zNi WG.set WJ.set;rw[zDa]
abbrev R:=Option Value
def Zh(x:Option (Value×WG))(K:Value->WG->R):R:=x.bind fun p=>K p.1 p.2
structure ExK where
 exec:WW->WT->WG->(WQ->WT->WG->R)->R
 call:FuncId->List Value->WG->(Value->WG->R)->R
structure Bc(e:Ex)(x:ExK):Prop where
 exec:∀ c fr h K,x.exec c fr h K=(e.exec c fr h).bind fun p=>K p.1 p.2.1 p.2.2
 call:∀ f args h K,x.call f args h K=Zh (e.call f args h) K
def zFi(v:Value)(k:Addr->R):R:=match v with
 | .pointer (some a)=>k a
 |_=>none
def Zf{α:Type}(x:Option α)(k:α->R):R:= @Option.rec α (fun _=>R) none k x
theorem ZC{α:Type}(x:Option α)(k:α->R):Zf x k=x.bind k:=by cases x<;>rfl
def zIO(h:WG)(g:Nat)(k:List Value->R):R:=Zf (zHW h g) fun o=>match o with
 | .row cells _ _=>k cells
 |_=>none
theorem zJu(h:WG)(g:Nat)(k:List Value->R):zIO h g k=(zt h g).bind k:=by
 unfold zIO zt;rw[ZC,zEK];cases h.get g with
 |none=>rfl
 |some o=>cases o<;>rfl
def zN1(v:Value)(k:IntKind->Int->R):R:=match v with
 | .int kk n=>k kk n
 |_=>none
def zPo(v:Value)(k:Nat->R):R:=match v with
 | .int _ (.ofNat n)=>k n
 |_=>none
theorem zOa(v:Value)(k:Nat->R):zPo v k=(BG v).bind k:=by
 cases v with
 |int kk n=>cases n<;>rfl
 |_=>rfl
def zC5(k:IntKind):Nat:= @IntKind.rec (fun _=>Nat) (nat_lit 0) (nat_lit 1) (nat_lit 2) (nat_lit 3) (nat_lit 4) (nat_lit 5) (nat_lit 6) (nat_lit 7) k
theorem zNw(k k':IntKind):Nat.beq (zC5 k) (zC5 k')=decide (k=k'):=by cases k<;>cases k'<;>rfl
def zCX(k:IntKind)(n:Int):Int:=match n with
 | .ofNat m=>yQ (Nat.ble m (nat_lit 127)) (.ofNat m) (yQ (Nat.beq (zC5 k) (nat_lit 3)) (yQ (Nat.ble m (nat_lit 9223372036854775807)) (.ofNat m) (k.wrap (.ofNat m))) (k.wrap (.ofNat m)))
 |n=>k.wrap n
theorem zAw(k:IntKind)(n:Int):zCX k n=k.wrap n:=by
 unfold zCX;cases n with
 |negSucc m=>rfl
 |ofNat m=>
  simp only[yO];cases h1:Nat.ble m 127 with
  |true=>
   have:m<=127:=QP h1;simp only[cond_true];have e:(Int.ofNat m:Int)=(m:Int):=rfl;rw[e];cases k<;>simp[IntKind.wrap,IntKind.signed,IntKind.bits]<;>omega
  |false=>
   simp only[QS];cases h2:Nat.beq (zC5 k) 3 with
   |false=>rfl
   |true=>
    simp only[cond_true];have hk:k=.i64:=by cases k<;>first|rfl|cases h2
    subst hk;cases h3:Nat.ble m 9223372036854775807 with
    |false=>rfl
    |true=>
     have:m<=9223372036854775807:=QP h3;simp only[cond_true];have e:(Int.ofNat m:Int)=(m:Int):=rfl;rw[e];simp[IntKind.wrap,IntKind.signed,IntKind.bits];omega
def ltF(a b:Int):Bool:=match a,b with
 | .ofNat m,.ofNat n=>Nat.ble (Nat.succ m) n
 | .negSucc _,.ofNat _=>true
 | .ofNat _,.negSucc _=>false
 | .negSucc m,.negSucc n=>Nat.ble (Nat.succ n) m
theorem zEc(a b:Int):ltF a b=decide (a<b):=by
 have hb:∀ a b:Nat,Nat.ble a b=decide (a<=b):=fun a b=>by rw[GK];simp
 have e1:∀ n:Nat,Int.ofNat n=(n:Int):=fun _=>rfl;have e2:∀ n:Nat,Int.negSucc n= -((n:Int)+1):=fun n=>by omega
 cases a<;>cases b<;>simp only[ltF,hb]<;>rw[GK]<;>simp only[QY,Qs,true_iff,JF,e1,e2]<;>omega
def eqF(a b:Int):Bool:=match a,b with
 | .ofNat m,.ofNat n=>Nat.beq m n
 | .negSucc m,.negSucc n=>Nat.beq m n
 |_,_=>false
theorem zGn(a b:Int):eqF a b=decide (a=b):=by
 have hb:∀ a b:Nat,Nat.beq a b=decide (a=b):=fun a b=>by rw[GK];simp
 have e1:∀ n:Nat,Int.ofNat n=(n:Int):=fun _=>rfl;have e2:∀ n:Nat,Int.negSucc n= -((n:Int)+1):=fun n=>by omega
 cases a<;>cases b<;>simp only[eqF,hb]<;>rw[GK]<;>simp only[QY,Qs,true_iff,JF,e1,e2]<;>omega
def zEs(x y:Value)(k:IntKind->Int->Int->R):R:=zN1 x fun kk a=>zN1 y fun kk' b=>yQ (Nat.beq (zC5 kk) (zC5 kk')) (k kk a b) none
structure CloB where
 run:Value->Value->(Value->R)->R
def zPt(op:BinOp):CloB:=
 match op with
 | .add=>⟨fun x y k=>zEs x y fun kk a b=>k (.int kk (zCX kk (Int.add a b)))⟩
 | .sub=>⟨fun x y k=>zEs x y fun kk a b=>k (.int kk (zCX kk (Int.sub a b)))⟩
 | .eql=>⟨fun x y k=>zEs x y fun _ a b=>k (.bool (eqF a b))⟩
 | .neq=>⟨fun x y k=>zEs x y fun _ a b=>k (.bool (!eqF a b))⟩
 | .lss=>⟨fun x y k=>zEs x y fun _ a b=>k (.bool (ltF a b))⟩
 | .gtr=>⟨fun x y k=>zEs x y fun _ a b=>k (.bool (ltF b a))⟩
 | .leq=>⟨fun x y k=>zEs x y fun _ a b=>k (.bool (!ltF b a))⟩
 | .geq=>⟨fun x y k=>zEs x y fun _ a b=>k (.bool (!ltF a b))⟩
 |op=>⟨fun x y k=>Zf (yB op x y) k⟩
theorem zOP(x y:Value)(k:IntKind->Int->Int->R):zEs x y k=match x,y with
  | .int kk a,.int kk' b=>if kk=kk' then k kk a b else none
  |_,_=>none:=by
 cases x with
 |int kk a=>
  cases y with
  |int kk' b=>
   show yQ (Nat.beq (zC5 kk) (zC5 kk')) (k kk a b) none=if kk=kk' then k kk a b else none;rw[yO,zNw];by_cases e:kk=kk'
   ·subst e;simp
   ·simp[e]
  |_=>rfl
 |_=>rfl
theorem zFo(a b:Int):(!ltF b a)=decide (a<=b):=by
 rw[zEc,GK];simp
theorem zOs(op:BinOp)(x y:Value)(k:Value->R):(zPt op).run x y k=(yB op x y).bind k:=by
 have two:∀ {f:IntKind->Int->Int->Value} {g:Option Value},(g=match x,y with
   | .int kk a,.int kk' b=>if kk=kk' then some (f kk a b)else none
   |_,_=>none)->(zEs x y fun kk a b=>k (f kk a b))=g.bind k:=by
  intro f g hg;rw[zOP,hg];split
  ·split<;>rfl
  ·rfl
 cases op with
 |add=>refine two (f:=fun kk a b=> .int kk (zCX kk (Int.add a b))) ?_;cases x<;>cases y<;>first|rfl|(simp only[yB,zAw];done)|(simp only[yB,zAw];rfl)
 |sub=>refine two (f:=fun kk a b=> .int kk (zCX kk (Int.sub a b))) ?_;cases x<;>cases y<;>first|rfl|(simp only[yB,zAw];done)|(simp only[yB,zAw];rfl)
 |eql=>refine two (f:=fun kk a b=> .bool (eqF a b)) ?_;cases x<;>cases y<;>first|rfl|(simp only[yB,zGn];done)|(simp only[yB,zGn];rfl)
 |neq=>refine two (f:=fun kk a b=> .bool (!eqF a b)) ?_;cases x<;>cases y<;>first|rfl|(simp only[yB,zGn];done)|(simp only[yB,zGn];rfl)
 |lss=>refine two (f:=fun kk a b=> .bool (ltF a b)) ?_;cases x<;>cases y<;>first|rfl|(simp only[yB,zEc];done)|(simp only[yB,zEc];rfl)
 |gtr=>refine two (f:=fun kk a b=> .bool (ltF b a)) ?_;cases x<;>cases y<;>first|rfl|(simp only[yB,zEc];done)|(simp only[yB,zEc];rfl)
 |leq=>refine two (f:=fun kk a b=> .bool (!ltF b a)) ?_;cases x<;>cases y<;>first|rfl|(simp only[yB,zFo];done)|(simp only[yB,zFo];rfl)
 |geq=>refine two (f:=fun kk a b=> .bool (!ltF a b)) ?_;cases x<;>cases y<;>first|rfl|(simp only[yB,zFo,ge_iff_le];done)|(simp only[yB,zFo,ge_iff_le];rfl)
 |_=>exact ZC _ _
def zLa(l:List Value):Nat->Option Value:=
 @List.rec Value (fun _=>Nat->Option Value) (fun _=>none) (fun v _ g n=> @Nat.rec (fun _=>Option Value) (some v) (fun m _=>g m) n) l
theorem zGT:∀ (l:List Value) (n:Nat),zLa l n=l[n]?
 |[],_=>rfl
 |v::l,0=>rfl
 |v::l,n+1=>by
  show zLa l n=_;rw[zGT l n];simp
theorem zMD(l:List Value)(n:Nat):(cut l n 1).bind (zI false)=l[n]?:=by
 unfold cut;cases hb:Nat.ble (n+1) l.length with
 |true=>
  have hn:n<l.length:=QP hb;have e:(l.drop n).take 1=[l[n]]:=by rw[GI hn];rfl
  rw[cond_true,QR,e,QB hn];rfl
 |false=>
  have hn:¬n<l.length:=fun e=>by
   have:Nat.ble (n+1) l.length=true:=QF e;rw[this]at hb;cases hb
  simp[hn]
def zFY(l:List Value):Nat->Option (List Value):=
 @List.rec Value (fun _=>Nat->Option (List Value)) (fun n=> @Nat.rec (fun _=>Option (List Value)) (some []) (fun _ _=>none) n)
  (fun v _ g n=> @Nat.rec (fun _=>Option (List Value)) (some []) (fun m _=> @Option.rec (List Value) (fun _=>Option (List Value)) none (fun r=>some (v::r)) (g m)) n) l
def zFu(l:List Value):Nat->Nat->Option (List Value):=
 @List.rec Value (fun _=>Nat->Nat->Option (List Value)) (fun off n=> @Nat.rec (fun _=>Option (List Value)) (zFY [] n) (fun _ _=>none) off)
  (fun v r g off n=> @Nat.rec (fun _=>Option (List Value)) (zFY (v::r) n) (fun m _=>g m n) off) l
theorem zEN:∀ (l:List Value) (n:Nat),zFY l n=bif Nat.ble n l.length then some (l.take n)else none
 |[],0=>rfl
 |[],n+1=>rfl
 |v::l,0=>rfl
 |v::l,n+1=>by
  show @Option.rec (List Value) (fun _=>Option (List Value)) none (fun r=>some (v::r)) (zFY l n)=_;rw[zEN l n];have:Nat.ble (n+1) (v::l).length=Nat.ble n l.length:=rfl;rw[this];cases Nat.ble n l.length<;>rfl
theorem zDc:∀ (l:List Value) (off n:Nat),zFu l off n=cut l off n
 |[],0,n=>by
  show zFY [] n=_;rw[zEN];unfold cut;rw[Qk];rfl
 |[],off+1,n=>by
  show none=cut [] (off+1) n;unfold cut;have:Nat.ble (off+1+n) ([]:List Value).length=false:=by
   rw[show off+1+n=(off+n)+1 by omega];rfl
  rw[this];rfl
 |v::l,0,n=>by
  show zFY (v::l) n=_;rw[zEN];unfold cut;rw[Qk];rfl
 |v::l,off+1,n=>by
  show zFu l off n=_;rw[zDc l off n];unfold cut;have:Nat.ble (off+1+n) (v::l).length=Nat.ble (off+n) l.length:=by
   rw[show off+1+n=(off+n)+1 by omega];rfl
  rw[this];rfl
def zGU(v:Value)(l:List Value):Nat->Option (List Value):=
 @List.rec Value (fun _=>Nat->Option (List Value)) (fun _=>none) (fun u r g n=> @Nat.rec (fun _=>Option (List Value)) (some (v::r)) (fun m _=> @Option.rec (List Value) (fun _=>Option (List Value)) none (fun r=>some (u::r)) (g m)) n) l
theorem zFN(v:Value):∀ (l:List Value) (n:Nat),zGU v l n=bif Nat.ble (n+1) l.length then some (zK l n [v])else none
 |[],n=>by
  have:Nat.ble (n+1) ([]:List Value).length=false:=rfl;rw[this];rfl
 |u::r,0=>rfl
 |u::r,n+1=>by
  show @Option.rec (List Value) (fun _=>Option (List Value)) none (fun r=>some (u::r)) (zGU v r n)=_;rw[zFN v r n];have:Nat.ble (n+1+1) (u::r).length=Nat.ble (n+1) r.length:=rfl;rw[this];cases Nat.ble (n+1) r.length<;>simp[zK]
structure CloV where
 run:ExK->WJ Value->WG->(Value->WG->R)->R
def zCv(v:Value)(k:Bool->R):R:=match v with
 | .bool b=>k b
 |_=>none
def zCO(h:WG)(a:Addr)(v:Value)(K:WG->R):R:=
 yQ a.spot.isNone (Zf (zHW h a.block) fun o=>match o with
  | .row cells true lo=>yQ (Nat.ble lo a.off) (match v with
   | .agg _=>none
   | .tuple _=>none
   |v=>Zf (zGU v cells a.off) fun cells=>K (zNi h a.block (.row cells true lo))) none
  |_=>none) none
theorem zJI(h:WG)(a:Addr)(v:Value)(hv:v.cells.size=1)(hn:∀ cs,v≠ .agg cs)(K:WG->R):zCO h a v K=(ze h a v.cells.toList).bind K:=by
 have hc:v.cells.toList=[v]:=by cases v<;>first|rfl|exact absurd rfl (hn _)
 unfold zCO ze;rw[hc,yO,ZC,zEK];cases hs:a.spot.isNone with
 |false=>
  simp only[QS];split
  ·simp
  ·rfl
 |true=>
  simp only[cond_true];cases h.get a.block with
  |none=>rfl
  |some o=>
   cases o with
   |row cells own lo=>
    cases own with
    |false=>rfl
    |true=>
     show yQ (Nat.ble lo a.off) _ none=_;rw[yO];have h1:∀ K':List Value->R,(Zf (zGU v cells a.off) K')=(bif Nat.ble (a.off+1) cells.length then some (zK cells a.off [v])else none).bind K':=fun K'=>by rw[ZC,zFN]
     cases h2:Nat.ble lo a.off with
     |false=>simp[h2]
     |true=>
      simp only[h2,cond_true,Qg,QZ];cases v<;>first
       |(exact absurd rfl (hn _))
       |(simp only[h1,zNG];cases Nat.ble (a.off+1) cells.length<;>simp[zH])
   |_=>rfl
def zFz(x:ExK)(l:Nat)(r:W2)(args:List Value)(h:WG)(K:Value->WG->R):R:=
 x.exec r.assign ⟨zBY r.params args r.tm,[],some l⟩ h fun e fr h1=>match e with
  | .normal=>(match h1.get l with
   |some (.loop r1)=>
    bif (match r1.state with| .ready=>true|_=>false)then
     x.exec r.body fr (h1.set l (.loop {r1 with state:= .busy})) fun e fr2 h2=>match fr2.dfs,h2.get l with
      |[],some (.loop r2)=>K (ZO l r2 h2 e).1 (ZO l r2 h2 e).2
      |_,_=>none
    else none
   |_=>none)
  |_=>none
def zGD(x:ExK)(f:Value)(args:List Value)(h:WG)(K:Value->WG->R):R:=
 match f with
 | .func (.func f) first cap=>x.call f (first.toList++(args++cap.toList)) h K
 | .func (.yield l) _ _=>
  match h.get l with
  |some (.loop r)=>bif Nat.beq args.length r.params.length then zFz x l r args h K else none
  |_=>none
 |_=>none
section
variable {P:Program}{e:Ex}{x:ExK}
theorem zLc(ok:Bc e x)(l:Nat)(r:W2)(args:List Value)(h:WG)(K:Value->WG->R):zFz x l r args h K=Zh (zAU e l r args h) K:=by
 unfold zFz zAU Zh;rw[ok.exec];cases e.exec r.assign ⟨zBY r.params args r.tm,[],some l⟩ h with
 |none=>rfl
 |some p=>
  obtain⟨ex,fr,h1⟩:=p;simp only[QR];cases ex with
  |normal=>
   simp only;cases h1.get l with
   |none=>rfl
   |some o=>
    cases o with
    |loop r1=>
     simp only;cases hst:r1.state with
     |ready=>
      simp only[cond_true];rw[ok.exec];cases e.exec r.body fr (h1.set l (.loop {r1 with state:= .busy}))with
      |none=>rfl
      |some p=>
       obtain⟨e2,fr2,h2⟩:=p;simp only[QR];cases fr2.dfs with
       |nil=>
        cases h2.get l with
        |none=>rfl
        |some o=>cases o<;>rfl
       |cons d ds=>rfl
     |_=>rfl
    |_=>rfl
  |_=>rfl
theorem zFc(ok:Bc e x)(f:Value)(args:List Value)(h:WG)(K:Value->WG->R):zGD x f args h K=Zh (zAR e f args h) K:=by
 cases f with
 |func fn first cap=>
  cases fn with
  |func f=>
   show x.call f (first.toList++(args++cap.toList)) h K=Zh (e.call f (first.toList++args++cap.toList) h) K;rw[ok.call,GD]
  |yield l=>
   show(match h.get l with
    |some (.loop r)=>bif Nat.beq args.length r.params.length then zFz x l r args h K else none
    |_=>none)=Zh (match h.get l with
    |some (.loop r)=>bif Nat.beq args.length r.params.length then zAU e l r args h else none
    |_=>none) K
   cases h.get l with
   |none=>rfl
   |some o=>
    cases o with
    |loop r=>
     simp only;cases Nat.beq args.length r.params.length with
     |true=>exact zLc ok _ _ _ _ _
     |false=>rfl
    |_=>rfl
  |_=>rfl
 |_=>rfl
def zOS(P:Program)(op:W6):CloV:=
 match op with
 | .mov a=>⟨fun _ t h K=>K ((zl a).ev t) h⟩
 | .pick c a b=>⟨fun _ t h K=>zCv ((zl c).ev t) fun q=>K (yQ q ((zl a).ev t) ((zl b).ev t)) h⟩
 | .bin op a b=>⟨fun _ t h K=>(zPt op).run ((zl a).ev t) ((zl b).ev t) fun v=>K v h⟩
 | .load agg n a=>yQ (Nat.beq n 1&& !agg)
   ⟨fun _ t h K=>zFi ((zl a).ev t) fun a=>yQ a.spot.isNone (zIO h a.block fun cells=>Zf (zLa cells a.off) fun v=>K v h) none⟩
   ⟨fun _ t h K=>zFi ((zl a).ev t) fun a=>yQ a.spot.isNone (zIO h a.block fun cells=>Zf (zFu cells a.off n) fun l=>Zf (zI agg l) fun v=>K v h) none⟩
 | .store n a b=>⟨fun _ t h K=>zFi ((zl a).ev t) fun a=>yQ (Nat.beq n 1) (match(zl b).ev t with
   | .agg cs=>bif Nat.beq cs.size n then(ze h a cs.toList).bind fun h=>K undef h else none
   |v=>zCO h a v fun h=>K undef h) (Zh (bif Nat.beq ((zl b).ev t).cells.size n then(ze h a ((zl b).ev t).cells.toList).map (undef,·)else none) K)⟩
 | .idx c a i=>⟨fun _ t h K=>match(zl a).ev t with
   | .slice (some a) len k=>zPo ((zl i).ev t) fun i=>yQ (Nat.ble (Nat.succ i) len) (yQ (Nat.beq k c) (yQ a.spot.isNone (K (.pointer (some ⟨a.block,Nat.add a.off (Nat.mul i c),none⟩)) h) none) none) none
   |_=>none⟩
 | .fld off a=>⟨fun _ t h K=>zFi ((zl a).ev t) fun a=>yQ a.spot.isNone (K (.pointer (some ⟨a.block,Nat.add a.off off,none⟩)) h) none⟩
 | .len a=>⟨fun _ t h K=>match(zl a).ev t with
   | .slice _ n _=>K (.int .i64 (Int.ofNat n)) h
   |_=>none⟩
 | .nilCheck a=>⟨fun _ t h K=>Zf (Zt ((zl a).ev t)) fun v=>K v h⟩
 | .extract a i=>⟨fun _ t h K=>match(zl a).ev t with
   | .tuple vs=>Zf (zLa vs.toList i) fun v=>K v h
   |_=>none⟩
 | .alloc zero=>⟨fun _ _ h K=>K (.pointer (some ⟨h.n,0,none⟩)) (zC6 h (.row zero true 0))⟩
 | .box a=>⟨fun _ t h K=>K (.pointer (some ⟨h.n,0,none⟩)) (zC6 h (.row ((zl a).ev t).cells.toList true 0))⟩
 | .call f args=>⟨fun x t h K=>zGD x ((zl f).ev t) (args.map fun a=>(zl a).ev t) h K⟩
 | .invoke a name args=>⟨fun x t h K=>match(zl a).ev t with
   | .iface ty v=>Zf (Yd P ty name) fun f=>x.call f (v::args.map fun a=>(zl a).ev t) h K
   |_=>Zh (WP P Ex.bot t h (.invoke a name args)) K⟩
 | .un op a=>⟨fun _ t h K=>Zf (unV op ((zl a).ev t)) fun v=>K v h⟩
 | .isNil kind neg a=>⟨fun _ t h K=>Zf (zDL kind ((zl a).ev t)) fun b=>K (.bool (if neg then !b else b)) h⟩
 | .binB neg a b=>⟨fun _ t h K=>zCv ((zl a).ev t) fun x=>zCv ((zl b).ev t) fun y=>K (.bool (if neg then x != y else x == y)) h⟩
 | .conv k a=>⟨fun _ t h K=>zN1 ((zl a).ev t) fun _ n=>K (.int k (zCX k n)) h⟩
 | .build zero parts=>⟨fun _ t h K=>Zf (y9 zero (parts.map fun(a,b,x)=>(a,b,(zl x).ev t))) fun cells=>K (.agg cells.toArray) h⟩
 | .buildSlice len c zero parts=>⟨fun _ t h K=>Zf (y9 (zS zero len) (parts.map fun(a,b,x)=>(a,b,(zl x).ev t))) fun cells=>K (.slice (some ⟨h.n,0,none⟩) len c) (zC6 h (.row cells true 0))⟩
 | .part agg off n a=>⟨fun _ t h K=>match(zl a).ev t with
   | .agg cs=>Zf (zFu cs.toList off n) fun l=>Zf (zI agg l) fun v=>K v h
   |_=>none⟩
 | .mkFunc fn first cap=>⟨fun _ t h K=>match fn with
   | .func f=>K (.func (.func f) (first.map fun a=>(zl a).ev t).toArray (cap.map fun a=>(zl a).ev t).toArray) h
   |_=>none⟩
 | .lenC n=>⟨fun _ _ h K=>K (.int .i64 (Int.ofNat n)) h⟩
 | .append c a b=>⟨fun _ t h K=>Zh (zz c ((zl a).ev t) ((zl b).ev t) h) K⟩
 |op=>⟨fun _ t h K=>Zh (WP P Ex.bot t h op) K⟩
theorem zEv(parts:List (Nat×Nat×Operand))(t:WJ Value):(parts.map fun(a,b,x)=>(a,b,(zl x).ev t))=zp t parts:=by
 unfold zp;apply Gz;rintro⟨a,b,x⟩ _;show(a,b,(zl x).ev t)=(a,b,ev t x);rw[zj]
theorem zBs(args:List Operand)(t:WJ Value):(args.map fun a=>(zl a).ev t)=args.map (ev t):=by
 apply Gz;intro a _;exact zj a t
theorem zOf(ok:Bc e x)(op:W6)(t:WJ Value)(h:WG)(K:Value->WG->R):(zOS P op).run x t h K=Zh (WP P e t h op) K:=by
 have slow:Y0 op=true->Zh (WP P Ex.bot t h op) K=Zh (WP P e t h op) K:=fun hp=>by rw[zJk e hp]
 cases op with
 |mov a=>show K ((zl a).ev t) h=_;rw[zj];rfl
 |pick c a b=>
  show zCv ((zl c).ev t) (fun q=>K (yQ q ((zl a).ev t) ((zl b).ev t)) h)=_;rw[zj,zj,zj];simp only[WP];cases ev t c with
  |bool q=>cases q<;>rfl
  |_=>rfl
 |bin op a b=>
  show(zPt op).run ((zl a).ev t) ((zl b).ev t) (fun v=>K v h)=_;rw[zj,zj,zOs];simp only[WP,Zh];cases yB op (ev t a) (ev t b)<;>rfl
 |load agg n a=>
  simp only[WP];cases hn:(Nat.beq n 1&& !agg)with
  |true=>
   rw[QJ]at hn;obtain⟨h1,h2⟩:=hn;have h1:=QK h1;have h2:agg=false:=by cases agg<;>simp_all
   subst h1 h2;show zFi ((zl a).ev t) (fun a=>yQ a.spot.isNone (zIO h a.block fun cells=>Zf (zLa cells a.off) fun v=>K v h) none)=_;rw[zj];cases ev t a with
   |pointer p=>
    cases p with
    |none=>rfl
    |some ad=>
     dsimp only;show yQ ad.spot.isNone _ none=_;rw[yO];cases ad.spot.isNone with
     |false=>rfl
     |true=>
      simp only[cond_true,zJu,Zh];cases zt h ad.block with
      |none=>rfl
      |some cells=>
       simp only[QR,ZC,zGT,zMD];cases cells[ad.off]?<;>rfl
   |_=>rfl
  |false=>
   have:zOS P (.load agg n a)=⟨fun _ t h K=>zFi ((zl a).ev t) fun a=>yQ a.spot.isNone (zIO h a.block fun cells=>Zf (zFu cells a.off n) fun l=>Zf (zI agg l) fun v=>K v h) none⟩:=by
    show yQ (Nat.beq n 1&& !agg) _ _=_;rw[hn];rfl
   rw[this];show zFi ((zl a).ev t) (fun a=>yQ a.spot.isNone (zIO h a.block fun cells=>Zf (zFu cells a.off n) fun l=>Zf (zI agg l) fun v=>K v h) none)=_;rw[zj];cases ev t a with
   |pointer p=>
    cases p with
    |none=>rfl
    |some ad=>
     dsimp only;show yQ ad.spot.isNone _ none=_;rw[yO];cases ad.spot.isNone with
     |false=>rfl
     |true=>
      simp only[cond_true,zJu,Zh];cases zt h ad.block with
      |none=>rfl
      |some cells=>
       simp only[QR,ZC,zDc];cases cut cells ad.off n with
       |none=>rfl
       |some l=>simp only[QR];cases zI agg l<;>rfl
   |_=>rfl
 |store n a b=>
  show zFi ((zl a).ev t) (fun a=>yQ (Nat.beq n 1) (match(zl b).ev t with
   | .agg cs=>bif Nat.beq cs.size n then(ze h a cs.toList).bind fun h=>K undef h else none
   |v=>zCO h a v fun h=>K undef h) (Zh (bif Nat.beq ((zl b).ev t).cells.size n then(ze h a ((zl b).ev t).cells.toList).map (undef,·)else none) K))=_
  rw[zj,zj];simp only[WP];cases ev t a with
  |pointer p=>
   cases p with
   |none=>rfl
   |some ad=>
    show yQ (Nat.beq n 1) _ _=_;rw[yO];cases hn:Nat.beq n 1 with
    |false=>rfl
    |true=>
     have:=QK hn;subst this;simp only[cond_true];have plain:∀ v:Value,v.cells.size=1->(∀ cs,v≠ .agg cs)->(zCO h ad v fun h=>K undef h)=Zh (bif Nat.beq v.cells.size 1 then(ze h ad v.cells.toList).map (undef,·)else none) K:=fun v h1 h2=>by
      have h3:Nat.beq v.cells.size 1=true:=by rw[h1];rfl
      rw[zJI h ad v h1 h2,h3,cond_true,Zh];cases ze h ad v.cells.toList<;>rfl
     cases ev t b with
     |agg cs=>
      simp only[Value.cells];cases Nat.beq cs.size 1 with
      |false=>rfl
      |true=>simp only[cond_true,Zh];cases ze h ad cs.toList<;>rfl
     |_=>exact plain _ rfl (fun cs=>by simp)
  |_=>rfl
 |idx c a i=>
  show(match(zl a).ev t with
   | .slice (some a) len k=>zPo ((zl i).ev t) fun i=>yQ (Nat.ble (Nat.succ i) len) (yQ (Nat.beq k c) (yQ a.spot.isNone (K (.pointer (some ⟨a.block,Nat.add a.off (Nat.mul i c),none⟩)) h) none) none) none
   |_=>none)=_
  rw[zj,zj];simp only[WP];cases ev t a with
  |slice p len k=>
   cases p with
   |none=>rfl
   |some ad=>
    simp only[zOa];cases BG (ev t i)with
    |none=>rfl
    |some j=>
     simp only[QR,yO];have hs:Nat.ble (Nat.succ j) len=Nat.ble (j+1) len:=rfl;rw[hs];cases Nat.ble (j+1) len<;>cases Nat.beq k c<;>cases ad.spot.isNone<;>rfl
  |_=>rfl
 |fld off a=>
  show zFi ((zl a).ev t) (fun a=>yQ a.spot.isNone (K (.pointer (some ⟨a.block,Nat.add a.off off,none⟩)) h) none)=_;rw[zj];simp only[WP];cases ev t a with
  |pointer p=>
   cases p with
   |none=>rfl
   |some ad=>dsimp only;show yQ ad.spot.isNone _ none=_;rw[yO];cases ad.spot.isNone<;>rfl
  |_=>rfl
 |len a=>
  show(match(zl a).ev t with
   | .slice _ n _=>K (.int .i64 (Int.ofNat n)) h
   |_=>none)=_
  rw[zj];simp only[WP];cases ev t a<;>rfl
 |nilCheck a=>
  show Zf (Zt ((zl a).ev t)) (fun v=>K v h)=_;rw[zj,ZC];simp only[WP,Zh];cases Zt (ev t a)<;>rfl
 |extract a i=>
  show(match(zl a).ev t with
   | .tuple vs=>Zf (zLa vs.toList i) fun v=>K v h
   |_=>none)=_
  rw[zj];simp only[WP];cases ev t a with
  |tuple vs=>
   simp only[ZC,zGT,Array.getElem?_toList];cases vs[i]?<;>rfl
  |_=>rfl
 |alloc zero=>show K _ (zC6 h _)=_;rw[zDq];rfl
 |box a=>show K _ (zC6 h (.row ((zl a).ev t).cells.toList true 0))=_;rw[zDq,zj];rfl
 |call f args=>
  show zGD x ((zl f).ev t) (args.map fun a=>(zl a).ev t) h K=_;rw[zBs,zj,zFc ok];rfl
 |invoke a name args=>
  show(match(zl a).ev t with
   | .iface ty v=>Zf (Yd P ty name) fun f=>x.call f (v::args.map fun a=>(zl a).ev t) h K
   |_=>Zh (WP P Ex.bot t h (.invoke a name args)) K)=_
  rw[zj,zBs];simp only[WP];cases hv:ev t a with
  |iface ty v=>
   simp only[Y3,ZC];cases Yd P ty name with
   |none=>rfl
   |some f=>simp only[QR];exact ok.call _ _ _ _
  |_=>rfl
 |un op a=>
  show Zf (unV op ((zl a).ev t)) (fun v=>K v h)=_;rw[zj,ZC];simp only[WP,Zh];cases unV op (ev t a)<;>rfl
 |isNil kind neg a=>
  show Zf (zDL kind ((zl a).ev t)) (fun b=>K (.bool (if neg then !b else b)) h)=_;rw[zj,ZC];simp only[WP,Zh];cases zDL kind (ev t a)<;>rfl
 |binB neg a b=>
  show zCv ((zl a).ev t) (fun x=>zCv ((zl b).ev t) fun y=>K (.bool (if neg then x != y else x == y)) h)=_;rw[zj,zj];simp only[WP];cases ev t a with
  |bool x=>cases ev t b<;>rfl
  |_=>rfl
 |conv k a=>
  show zN1 ((zl a).ev t) (fun _ n=>K (.int k (zCX k n)) h)=_;rw[zj];simp only[WP];cases ev t a with
  |int kk n=>show K (.int k (zCX k n)) h=_;rw[zAw];rfl
  |_=>rfl
 |build zero parts=>
  show Zf (y9 zero (parts.map fun(a,b,x)=>(a,b,(zl x).ev t))) (fun cells=>K (.agg cells.toArray) h)=_;rw[zEv,ZC];simp only[WP,Zh];cases y9 zero (zp t parts)<;>rfl
 |buildSlice len c zero parts=>
  show Zf (y9 (zS zero len) (parts.map fun(a,b,x)=>(a,b,(zl x).ev t))) (fun cells=>K (.slice (some ⟨h.n,0,none⟩) len c) (zC6 h (.row cells true 0)))=_;rw[zEv,ZC];simp only[WP,Zh,zDq];cases y9 (zS zero len) (zp t parts)<;>rfl
 |part agg off n a=>
  show(match(zl a).ev t with
   | .agg cs=>Zf (zFu cs.toList off n) fun l=>Zf (zI agg l) fun v=>K v h
   |_=>none)=_
  rw[zj];simp only[WP];cases ev t a with
  |agg cs=>
   simp only[zDc,ZC];cases cut cs.toList off n with
   |none=>rfl
   |some l=>simp only[QR];cases zI agg l<;>rfl
  |_=>rfl
 |mkFunc fn first cap=>
  show(match fn with
   | .func f=>K (.func (.func f) (first.map fun a=>(zl a).ev t).toArray (cap.map fun a=>(zl a).ev t).toArray) h
   |_=>none)=_
  rw[zBs,zBs];simp only[WP];cases fn<;>rfl
 |append c a b=>
  show Zh (zz c ((zl a).ev t) ((zl b).ev t) h) K=_;rw[zj,zj];rfl
 |dfr f args=>rfl
 |dfrClear _ _ _ _=>rfl
 |recover=>rfl
 |_=>first|rfl|(show Zh (WP P Ex.bot t h _) K=_;exact slow rfl)
end
abbrev FrK:=WT->WG->R
def frK(x:Option (WT×WG))(K:FrK):R:=x.bind fun p=>K p.1 p.2
structure CloO where
 run:ExK->WT->WG->FrK->R
structure CloD where
 set:WJ Value->Value->WJ Value
def zHZ(d:Option Nat):CloD:=
 match d with
 |some d=>⟨(B1 64 d).set⟩
 |none=>⟨fun t _=>t⟩
theorem zKL(d:Option Nat)(fr:WT)(v:Value):(⟨(zHZ d).set fr.tm v,fr.dfs,fr.round⟩:WT)=val d fr v:=by
 cases d with
 |none=>rfl
 |some d=>show(⟨(B1 64 d).set fr.tm v,fr.dfs,fr.round⟩:WT)=_;rw[(zFm 64 d).2];rfl
def zMt:W6->Bool
 | .dfr .. | .dfrClear .. | .recover=>true
 |_=>false
def zKZ(P:Program)(op:W6)(d:Option Nat):CloO:=
 yQ (zMt op) ⟨fun _ fr h K=>(zk P Ex.bot fr.tm fr.round h op).bind fun p=>K (val d {fr with dfs:=p.2.1++fr.dfs} p.1) p.2.2⟩
  ⟨fun x fr h K=>(zOS P op).run x fr.tm h fun v h=>K ⟨(zHZ d).set fr.tm v,fr.dfs,fr.round⟩ h⟩
def zLB(P:Program)(o:WH):CloO:=
 match o.guard with
 |none=>zKZ P o.op o.dst
 |some (j,want)=>⟨fun x fr h K=>match(zl (.tmp j)).ev fr.tm with
  | .bool b=>yQ (b == want) ((zKZ P o.op o.dst).run x fr h K) (K ⟨(zHZ o.dst).set fr.tm undef,fr.dfs,fr.round⟩ h)
  |_=>K ⟨(zHZ o.dst).set fr.tm undef,fr.dfs,fr.round⟩ h⟩
section
variable {P:Program}{e:Ex}{x:ExK}
theorem zN4(ok:Bc e x)(op:W6)(d:Option Nat)(fr:WT)(h:WG)(K:FrK):
  (zKZ P op d).run x fr h K=(zk P e fr.tm fr.round h op).bind fun p=>K (val d {fr with dfs:=p.2.1++fr.dfs} p.1) p.2.2:=by
 unfold zKZ;cases hd:zMt op with
 |true=>
  show(zk P Ex.bot fr.tm fr.round h op).bind _=_;have:zk P Ex.bot fr.tm fr.round h op=zk P e fr.tm fr.round h op:=by cases op<;>first|(cases hd;done)|rfl
  rw[this]
 |false=>
  show(zOS P op).run x fr.tm h (fun v h=>K ⟨(zHZ d).set fr.tm v,fr.dfs,fr.round⟩ h)=_;rw[zOf ok];have e1:zk P e fr.tm fr.round h op=match WP P e fr.tm h op with
   |some (v,h)=>some (v,[],h)
   |none=>none:=by cases op<;>first|(cases hd;done)|rfl
  rw[e1];cases WP P e fr.tm h op with
  |none=>rfl
  |some q=>
   obtain⟨v,h⟩:=q;show K ⟨(zHZ d).set fr.tm v,fr.dfs,fr.round⟩ h=K (val d {fr with dfs:=[]++fr.dfs} v) h;rw[zKL];rfl
theorem zKD(ok:Bc e x)(o:WH)(fr:WT)(h:WG)(K:FrK):(zLB P o).run x fr h K=frK (yC P e o fr h) K:=by
 obtain⟨d,g,op⟩:=o;have plain:(zKZ P op d).run x fr h K=frK (match zk P e fr.tm fr.round h op with
  |some (v,ds,h)=>some (val d {fr with dfs:=ds++fr.dfs} v,h)
  |none=>none) K:=by
  rw[zN4 ok];cases zk P e fr.tm fr.round h op<;>rfl
 cases g with
 |none=>exact plain
 |some g=>
  obtain⟨j,want⟩:=g;have e0:(zLB P ⟨d,some (j,want),op⟩).run x fr h K=(match(zl (.tmp j)).ev fr.tm with
   | .bool b=>yQ (b == want) ((zKZ P op d).run x fr h K) (K ⟨(zHZ d).set fr.tm undef,fr.dfs,fr.round⟩ h)
   |_=>K ⟨(zHZ d).set fr.tm undef,fr.dfs,fr.round⟩ h):=rfl
  have e1:yC P e ⟨d,some (j,want),op⟩ fr h=bif (match zC fr.tm j with| .bool b=>b == want|_=>false)then(match zk P e fr.tm fr.round h op with
   |some (v,ds,h)=>some (val d {fr with dfs:=ds++fr.dfs} v,h)
   |none=>none)else some (val d fr undef,h):=rfl
  rw[e0,e1,plain,zj,zKL];have e2:ev fr.tm (.tmp j)=zC fr.tm j:=rfl;rw[e2];cases zC fr.tm j with
  |bool b=>
   dsimp only;rw[yO];cases(b == want)<;>rfl
  |_=>rfl
def zKE(P:Program)(l:List WH):CloO:=
 @List.rec WH (fun _=>CloO) ⟨fun _ fr h K=>K fr h⟩ (fun o _ k=>⟨fun x fr h K=>(zLB P o).run x fr h fun fr h=>k.run x fr h K⟩) l
theorem zHV(ok:Bc e x):∀ (l:List WH) (fr:WT) (h:WG) (K:FrK),(zKE P l).run x fr h K=frK (yU P e l fr h) K
 |[],_,_,_=>rfl
 |o::l,fr,h,K=>by
  show(zLB P o).run x fr h (fun fr h=>(zKE P l).run x fr h K)=_;rw[zKD ok];simp only[yU,frK];cases yC P e o fr h with
  |none=>rfl
  |some q=>exact zHV ok l q.1 q.2 K
structure CloC where
 run:ExK->Nat->WT->WG->FrK->R
def zOC(P:Program)(o:WH):CloC:=
 yQ (Nat.beq (zG o.op) 3) ⟨fun _ g fr h K=>frK (z9 P Ex.bot g o fr h) K⟩ ⟨fun x _ fr h K=>(zLB P o).run x fr h K⟩
theorem zOp(ok:Bc e x)(o:WH)(g:Nat)(fr:WT)(h:WG)(K:FrK):(zOC P o).run x g fr h K=frK (z9 P e g o fr h) K:=by
 unfold zOC;cases hk:Nat.beq (zG o.op) 3 with
 |true=>
  show frK (z9 P Ex.bot g o fr h) K=_;unfold z9;simp only[hk,cond_true]
 |false=>
  show(zLB P o).run x fr h K=_;rw[zKD ok];unfold z9;simp only[hk,QS]
abbrev RsT:=List (Nat×Nat×Option (Nat×Nat×List Value))
structure CloR where
 run:ExK->Nat->Nat->List (Nat×Nat)->RsT->List (Nat×Nat)->WT->WG->(WT->WG->List (Nat×Nat)->R)->R
def okC(o:WH)(un:List Nat)(ws:List (Nat×Nat))(rs:RsT)(bs:List (Nat×Nat))(t:WJ Value)(h':WG):Bool:=
 (match zi t o with
  |some g=>(ws.all fun(j,g')=> !(Nat.beq g g'&&un.contains j))&&bs.all fun(j,n)=> !un.contains j||Nat.ble (g+1) n
  |none=>true)&&rs.all fun(j,g,vw)=> !(un.contains j&&h'.wr.contains g)||zCw h' g vw
def okF(o:WH)(un:List Nat)(ws:List (Nat×Nat))(rs:RsT)(bs:List (Nat×Nat))(t:WJ Value)(h':WG):Bool:=
 match un with
 |[]=>true
 |un=>okC o un ws rs bs t h'
theorem zQF(o:WH)(un:List Nat)(ws:List (Nat×Nat))(rs:RsT)(bs:List (Nat×Nat))(t:WJ Value)(h':WG):okF o un ws rs bs t h'=okC o un ws rs bs t h':=by
 cases un with
 |cons a l=>rfl
 |nil=>
  unfold okF okC;cases zi t o<;>simp
def zN2(P:Program)(l:List (WH×List Nat)):CloR:=
 @List.rec (WH×List Nat) (fun _=>CloR) ⟨fun _ _ _ ws _ _ fr h K=>K fr h ws⟩
  (fun o _ k=>⟨fun x i g ws rs bs fr h K=>(zOC P o.1).run x g fr ⟨h.n,h.tab,h.n,[]⟩ fun fr' h'=>
   yQ (okF o.1 o.2 ws rs bs fr.tm h') (k.run x (Nat.succ i) (yQ (Nat.beq (zG o.1.op) 3) (Nat.succ g) g) (h'.wr.map (fun g=>(i,g))++ws) (match zi fr.tm o.1 with
     |some g=>(i,g,Yi fr.tm h o.1.op)::rs
     |none=>rs) ((i,h.n)::bs) fr' h' K) none⟩) l
theorem zKF(ok:Bc e x):∀ (l:List (WH×List Nat)) (i g:Nat) (ws:List (Nat×Nat)) (rs:RsT) (bs:List (Nat×Nat)) (fr:WT) (h:WG) (K:WT->WG->List (Nat×Nat)->R),
  (zN2 P l).run x i g ws rs bs fr h K=(yE P e l i g ws rs bs fr h).bind fun p=>K p.1 p.2.1 p.2.2
 |[],_,_,_,_,_,_,_,_=>rfl
 |(o,un)::l,i,g,ws,rs,bs,fr,h,K=>by
  show(zOC P o).run x g fr ⟨h.n,h.tab,h.n,[]⟩ (fun fr' h'=>
   yQ (okF o un ws rs bs fr.tm h') ((zN2 P l).run x (Nat.succ i) (yQ (Nat.beq (zG o.op) 3) (Nat.succ g) g) (h'.wr.map (fun g=>(i,g))++ws) (match zi fr.tm o with
     |some g=>(i,g,Yi fr.tm h o.op)::rs
     |none=>rs) ((i,h.n)::bs) fr' h' K) none)=_
  rw[zOp ok,yE];show frK (z9 P e g o fr {h with mark:=h.n,wr:=[]}) _=_;cases z9 P e g o fr {h with mark:=h.n,wr:=[]} with
  |none=>rfl
  |some q=>
   obtain⟨fr',h'⟩:=q;show yQ (okF o un ws rs bs fr.tm h') _ none=(bif okC o un ws rs bs fr.tm h' then _ else none).bind _;rw[zQF,yO];cases okC o un ws rs bs fr.tm h' with
   |false=>rfl
   |true=>simp only[cond_true];rw[zKF ok l,yO];rfl
structure CloX where
 run:ExK->WT->WG->(WQ->WT->WG->R)->R
def zPx(l:List (WH×List Nat)):Nat:=(l.filter fun x=>Nat.beq (zG x.1.op) 3).length
def zGF(x:ExK)(b:WW)(n:Nat):WW->WT->WG->(WQ->WT->WG->R)->R:=
 @Nat.rec (fun _=>WW->WT->WG->(WQ->WT->WG->R)->R) (fun _ _ _ _=>none) (fun _ k c fr h K=>x.exec c fr h fun e fr h=>match e with
  | .goto l=>(match zw b l with
   |some rest=>k rest fr h K
   |none=>K (.goto l) fr h)
  |e=>K e fr h) n
def exK(x:Option (WQ×WT×WG))(K:WQ->WT->WG->R):R:=x.bind fun p=>K p.1 p.2.1 p.2.2
theorem zFG(ok:Bc e x)(b:WW):∀ (n:Nat) (c:WW) (fr:WT) (h:WG) (K:WQ->WT->WG->R),zGF x b n c fr h K=exK (Zg e n b c fr h) K
 |0,_,_,_,_=>rfl
 |n+1,c,fr,h,K=>by
  show x.exec c fr h (fun e fr h=>match e with
   | .goto l=>(match zw b l with
    |some rest=>zGF x b n rest fr h K
    |none=>K (.goto l) fr h)
   |e=>K e fr h)=_
  rw[ok.exec];simp only[Zg];cases e.exec c fr h with
  |none=>rfl
  |some p=>
   obtain⟨ex,fr1,h1⟩:=p;cases ex with
   |goto l=>
    simp only[QR];cases zw b l with
    |none=>rfl
    |some rest=>exact zFG ok b n rest fr1 h1 K
   |_=>rfl
def zDP(x:ExK)(f:Value)(params:List Nat)(assign body:WW)(fr:WT)(d:Nat)(mark:List Deferred)(h:WG)(K:WQ->WT->WG->R):R:=
 zGD x f [.func (.yield h.n) #[] #[]] (h.push (.loop {state:= .ready,pending:=none,fn:=0,tm:=fr.tm,params,assign,body,defers:=d})) fun _ h2=>
  match h2.get h.n with
  |some (.loop r)=>
   match r.state with
   | .busy=>none
   |_=>match r.pending with
    |none=>K .normal {fr with dfs:=mark++fr.dfs} (h2.set h.n (.loop {r with state:= .exhausted}))
    |some .ret=>K .ret {fr with dfs:=mark++fr.dfs} (h2.set h.n (.loop {r with state:= .exhausted}))
    |some (.exit id)=>K (.exit id) {fr with dfs:=mark++fr.dfs} (h2.set h.n (.loop {r with state:= .exhausted}))
    |some (.goto g)=>K (.goto g) {fr with dfs:=mark++fr.dfs} (h2.set h.n (.loop {r with state:= .exhausted}))
    |some _=>none
  |_=>none
theorem zD9(ok:Bc e x)(f:Value)(params:List Nat)(assign body:WW)(fr:WT)(d:Nat)(mark:List Deferred)(h:WG)(K:WQ->WT->WG->R):
  zDP x f params assign body fr d mark h K=exK (Yo e f params assign body fr d mark h) K:=by
 unfold zDP Yo;rw[zFc ok];cases zAR e f [.func (.yield h.n) #[] #[]] (h.push (.loop {state:= .ready,pending:=none,fn:=0,tm:=fr.tm,params,assign,body,defers:=d}))with
 |none=>rfl
 |some p=>
  obtain⟨v,h2⟩:=p;simp only[Zh,QR];cases h2.get h.n with
  |none=>rfl
  |some o=>
   cases o with
   |loop r=>
    simp only;cases r.state<;>(simp only;try rfl)<;>(cases r.pending with
     |none=>rfl
     |some c=>cases c<;>rfl)
   |_=>rfl
def zGg(x:ExK)(f:Value)(params:List Nat)(assign body:WW)(fr:WT)(h:WG)(K:WQ->WT->WG->R):R:=
 match fr.round with
 |none=>zDP x f params assign body fr h.n [{target:= .collected h.n,args:=#[]}] (h.push (.deferred (some []))) K
 |some l=>match h.get l with
  |some (.loop r)=>zDP x f params assign body fr r.defers [] h K
  |_=>none
theorem zKt(ok:Bc e x)(f:Value)(params:List Nat)(assign body:WW)(fr:WT)(h:WG)(K:WQ->WT->WG->R):zGg x f params assign body fr h K=exK (zAY e f params assign body fr h) K:=by
 unfold zGg zAY;cases fr.round with
 |none=>exact zD9 ok _ _ _ _ _ _ _ _ _
 |some l=>
  simp only;cases h.get l with
  |none=>rfl
  |some o=>
   cases o with
   |loop r=>exact zD9 ok _ _ _ _ _ _ _ _ _
   |_=>rfl
def zPj(P:Program)(c:WW):CloX:=
 match c with
 | .skip=>⟨fun _ fr h K=>K .normal fr h⟩
 | .label _=>⟨fun _ fr h K=>K .normal fr h⟩
 | .region ops=>⟨fun x fr h K=>(zKE P ops).run x fr h fun fr h=>K .normal fr h⟩
 | .regionC ops=>⟨fun x fr h K=>(zN2 P ops).run x 0 h.n [] [] [] fr ⟨Nat.add h.n (zPx ops),h.tab,h.mark,h.wr⟩ fun fr' h' ws=>K .normal fr' ⟨h'.n,h'.tab,h.mark,((ws.map (·.2)).filter fun g=> !Nat.ble h.mark g)++h.wr⟩⟩
 | .seq a b=>⟨fun x fr h K=>x.exec a fr h fun e fr h=>match e with
  | .normal=>x.exec b fr h K
  |e=>K e fr h⟩
 | .cond c a b=>⟨fun x fr h K=>zCv ((zl c).ev fr.tm) fun q=>yQ q (x.exec a fr h K) (x.exec b fr h K)⟩
 | .block id b=>⟨fun x fr h K=>x.exec b fr h fun e fr h=>match e with
  | .exit id'=>yQ (Nat.beq id' id) (K .normal fr h) (K (.exit id') fr h)
  |e=>K e fr h⟩
 | .loop b=>⟨fun x fr h K=>x.exec b fr h fun e fr h=>match e with
  | .normal=>x.exec (.loop b) fr h K
  |e=>K e fr h⟩
 | .exit id=>⟨fun _ fr h K=>K (.exit id) fr h⟩
 | .goto l=>⟨fun _ fr h K=>K (.goto l) fr h⟩
 | .ret=>⟨fun _ fr h K=>K .ret fr h⟩
 | .scope b=>⟨fun x fr h K=>zGF x b zFX b fr h K⟩
 | .rangeFunc f params assign body=>⟨fun x fr h K=>zGg x ((zl f).ev fr.tm) params assign body fr h K⟩
theorem zOh(ok:Bc e x)(c:WW)(fr:WT)(h:WG)(K:WQ->WT->WG->R):(zPj P c).run x fr h K=exK (zg P e c fr h) K:=by
 cases c with
 |region ops=>
  show(zKE P ops).run x fr h (fun fr h=>K .normal fr h)=_;rw[zHV ok];simp only[zg,frK,exK];cases yU P e ops fr h<;>rfl
 |regionC ops=>
  show(zN2 P ops).run x 0 h.n [] [] [] fr ⟨Nat.add h.n (zPx ops),h.tab,h.mark,h.wr⟩ (fun fr' h' ws=>K .normal fr' ⟨h'.n,h'.tab,h.mark,((ws.map (·.2)).filter fun g=> !Nat.ble h.mark g)++h.wr⟩)=_;rw[zKF ok];simp only[zg,exK,YK];have:(⟨Nat.add h.n (zPx ops),h.tab,h.mark,h.wr⟩:WG)={h with n:=h.n+(ops.filter fun x=>Nat.beq (zG x.1.op) 3).length}:=rfl;rw[this];cases yE P e ops 0 h.n [] [] [] fr {h with n:=h.n+(ops.filter fun x=>Nat.beq (zG x.1.op) 3).length}<;>rfl
 |seq a b=>
  show x.exec a fr h (fun e fr h=>match e with
   | .normal=>x.exec b fr h K
   |e=>K e fr h)=_
  rw[ok.exec];simp only[zg,exK];cases e.exec a fr h with
  |none=>rfl
  |some p=>
   obtain⟨ex,fr1,h1⟩:=p;cases ex with
   |normal=>exact ok.exec _ _ _ _
   |_=>rfl
 |cond c a b=>
  show zCv ((zl c).ev fr.tm) (fun q=>yQ q (x.exec a fr h K) (x.exec b fr h K))=_;rw[zj];simp only[zg,exK];cases ev fr.tm c with
  |bool q=>cases q<;>exact ok.exec _ _ _ _
  |_=>rfl
 |block id b=>
  show x.exec b fr h (fun e fr h=>match e with
   | .exit id'=>yQ (Nat.beq id' id) (K .normal fr h) (K (.exit id') fr h)
   |e=>K e fr h)=_
  rw[ok.exec];simp only[zg,exK];cases e.exec b fr h with
  |none=>rfl
  |some p=>
   obtain⟨ex,fr1,h1⟩:=p;cases ex with
   |exit i=>
    simp only[QR];rw[yO];by_cases hi:i=id
    ·subst hi;simp
    ·have:Nat.beq i id=false:=by rw[Bool.eq_false_iff];intro hb;exact hi (QK hb)
     rw[this,QC hi];rfl
   |_=>rfl
 |loop b=>
  show x.exec b fr h (fun e fr h=>match e with
   | .normal=>x.exec (.loop b) fr h K
   |e=>K e fr h)=_
  rw[ok.exec];simp only[zg,exK];cases e.exec b fr h with
  |none=>rfl
  |some p=>
   obtain⟨ex,fr1,h1⟩:=p;cases ex with
   |normal=>exact ok.exec _ _ _ _
   |_=>rfl
 |scope b=>
  show zGF x b zFX b fr h K=exK (Zg e zFX b b fr h) K;exact zFG ok b zFX b fr h K
 |rangeFunc f ps a b=>
  show zGg x ((zl f).ev fr.tm) ps a b fr h K=_;rw[zj];exact zKt ok _ _ _ _ _ _ _
 |_=>rfl
def zAT(x:ExK)(ds:List Deferred):WG->(WG->R)->R:=
 @List.rec Deferred (fun _=>WG->(WG->R)->R) (fun h K=>K h) (fun d _ k h K=>match d.target with
  | .fn (.func f) cap=>x.call f (d.args.toList++cap.toList) h fun _ h=>k h K
  | .builtin .clear _ _ _=>match d.args.toList with
   |[.map (some g)]=>match h.get g with
    |some (.map _ clock)=>k (h.set g (.map [] clock)) K
    |_=>none
   |_=>none
  | .collected g=>match h.get g with
   |some (.deferred (some []))=>k (h.set g (.deferred none)) K
   |_=>none
  |_=>none) ds
theorem zAa(ok:Bc e x):∀ (ds:List Deferred) (h:WG) (K:WG->R),zAT x ds h K=(yX e ds h).bind K
 |[],_,_=>rfl
 |d::ds,h,K=>by
  obtain⟨tg,as⟩:=d;show(match tg with
   | .fn (.func f) cap=>x.call f (as.toList++cap.toList) h fun _ h=>zAT x ds h K
   | .builtin .clear _ _ _=>match as.toList with
    |[.map (some g)]=>match h.get g with
     |some (.map _ clock)=>zAT x ds (h.set g (.map [] clock)) K
     |_=>none
    |_=>none
   | .collected g=>match h.get g with
    |some (.deferred (some []))=>zAT x ds (h.set g (.deferred none)) K
    |_=>none
   |_=>none)=_
  rw[yX];dsimp only;have mapK:∀ g,(match h.get g with
    |some (.map _ clock)=>zAT x ds (h.set g (.map [] clock)) K
    |_=>none)=(match h.get g with
    |some (.map _ clock)=>yX e ds (h.set g (.map [] clock))
    |_=>none).bind K:=fun g=>by
   cases h.get g with
   |none=>rfl
   |some o=>cases o<;>first|exact zAa ok ds _ K|rfl
  have defK:∀ g,(match h.get g with
    |some (.deferred (some []))=>zAT x ds (h.set g (.deferred none)) K
    |_=>none)=(match h.get g with
    |some (.deferred (some []))=>yX e ds (h.set g (.deferred none))
    |_=>none).bind K:=fun g=>by
   cases h.get g with
   |none=>rfl
   |some o=>
    cases o with
    |deferred q=>
     cases q with
     |none=>rfl
     |some l=>cases l<;>first|exact zAa ok ds _ K|rfl
    |_=>rfl
  cases tg with
  |fn f cap=>
   cases f with
   |func f=>
    dsimp only;rw[ok.call];simp only[Zh];cases e.call f (as.toList++cap.toList) h with
    |none=>rfl
    |some p=>exact zAa ok ds p.2 K
   |_=>rfl
  |builtin b ts ty cs=>
   cases b with
   |clear=>
    dsimp only;generalize as.toList=l;rcases l with _|⟨a,_|⟨b,l⟩⟩
    ·rfl
    ·cases a with
     |map r=>
      cases r with
      |none=>rfl
      |some g=>exact mapK g
     |_=>rfl
    ·cases a with
     |map r=>cases r<;>rfl
     |_=>rfl
   |_=>rfl
  |collected g=>exact defK g
  |_=>rfl
def zME(l:List Value):Nat->WJ Value->WJ Value:=
 @List.rec Value (fun _=>Nat->WJ Value->WJ Value) (fun _ t=>t) (fun v _ k n t=>k (Nat.succ n) ((B1 64 n).set t v)) l
theorem zG1:∀ (l:List Value) (k:Nat) (t:WJ Value),zME l k t=zDF l k t
 |[],_,_=>rfl
 |v::l,k,t=>by
  show zME l (k+1) ((B1 64 k).set t v)=_;rw[zG1 l,(zFm 64 k).2];rfl
def zPS(h:WG)(t:WJ Value)(r:Nat×Option (Bool×Nat)):Option Value:=
 match r with
 |(k,none)=>some ((zl (.tmp k)).ev t)
 |(k,some (agg,n))=>match(zl (.tmp k)).ev t with
  | .pointer (some a)=>yQ a.spot.isNone (match zHW h a.block with
   |some (.row cells _ _)=>(zFu cells a.off n).bind (zI agg)
   |_=>none) none
  |_=>none
theorem zN5(h:WG)(t:WJ Value)(r:Nat×Option (Bool×Nat)):zPS h t r=YM h t r:=by
 obtain⟨k,o⟩:=r;cases o with
 |none=>show some ((zl (.tmp k)).ev t)=some (zC t k);rw[zj];rfl
 |some q=>
  obtain⟨agg,n⟩:=q;show(match(zl (.tmp k)).ev t with
   | .pointer (some a)=>yQ a.spot.isNone (match zHW h a.block with
    |some (.row cells _ _)=>(zFu cells a.off n).bind (zI agg)
    |_=>none) none
   |_=>none)=(match zC t k with
   | .pointer (some a)=>bif a.spot.isNone then((zt h a.block).bind fun cells=>cut cells a.off n).bind (zI agg)else none
   |_=>none)
  rw[zj];have e2:ev t (.tmp k)=zC t k:=rfl;rw[e2];cases zC t k with
  |pointer p=>
   cases p with
   |none=>rfl
   |some a=>
    dsimp only;rw[yO,zEK];unfold zt;cases a.spot.isNone with
    |false=>rfl
    |true=>
     cases h.get a.block with
     |none=>rfl
     |some o=>cases o<;>first|(simp only[zDc];rfl)|rfl
  |_=>rfl
def zM3(h:WG)(t:WJ Value)(l:List (Nat×Option (Bool×Nat))):Option (List Value):=
 @List.rec (Nat×Option (Bool×Nat)) (fun _=>Option (List Value)) (some []) (fun r _ q=> @Option.rec Value (fun _=>Option (List Value)) none (fun v=> @Option.rec (List Value) (fun _=>Option (List Value)) none (fun vs=>some (v::vs)) q) (zPS h t r)) l
theorem zHq(h:WG)(t:WJ Value):∀ l,zM3 h t l=zx h t l
 |[]=>rfl
 |r::l=>by
  show @Option.rec Value (fun _=>Option (List Value)) none (fun v=> @Option.rec (List Value) (fun _=>Option (List Value)) none (fun vs=>some (v::vs)) (zM3 h t l)) (zPS h t r)=_;rw[zN5,zHq h t l,zx];cases YM h t r with
  |none=>rfl
  |some v=>cases zx h t l<;>rfl
def zJ8(tab:Ww)(x:ExK)(f:FuncId)(args:List Value)(h:WG)(K:Value->WG->R):R:=
 match tab.stub f with
 |some s=>Zh (s args h) K
 |none=>Zf (tab.code f) fun fn=>x.exec fn.body ⟨zME args 0 .leaf,[],none⟩ h fun e fr h=>
   yQ (match e with| .normal| .ret=>true|_=>false) (zAT x fr.dfs h fun h=>Zf (zM3 h fr.tm fn.results) fun vs=>K (one vs) h) none
theorem zMS(ok:Bc e x)(tab:Ww)(f:FuncId)(args:List Value)(h:WG)(K:Value->WG->R):zJ8 tab x f args h K=Zh (zAl P tab e f args h) K:=by
 unfold zJ8 zAl;cases tab.stub f with
 |some s=>rfl
 |none=>
  simp only;rw[ZC];unfold zCV;cases tab.code f with
  |none=>rfl
  |some fn=>
   simp only[QR];rw[ok.exec,zG1];cases e.exec fn.body ⟨zDF args 0 .leaf,[],none⟩ h with
   |none=>rfl
   |some p=>
    obtain⟨ex,fr,h1⟩:=p;simp only[QR,yO,zAa ok,ZC,zHq];cases ex<;>simp only[cond_true,QS,Zh,Option.bind_none];all_goals
     cases yX e fr.dfs h1 with
     |none=>rfl
     |some h2=>
      simp only[QR];cases zx h2 fr.tm fn.results<;>rfl
def zLG(P:Program)(tab:Ww)(n:Nat):ExK:=
 @Nat.rec (fun _=>ExK) ⟨fun _ _ _ _=>none,fun _ _ _ _=>none⟩ (fun _ x=>⟨fun c fr h K=>(zPj P c).run x fr h K,fun f args h K=>zJ8 tab x f args h K⟩) n
theorem zLM(P:Program)(tab:Ww)(n:Nat):zLG P tab (n+1)=⟨fun c fr h K=>(zPj P c).run (zLG P tab n) fr h K,fun f args h K=>zJ8 tab (zLG P tab n) f args h K⟩:=rfl
theorem zOb(P:Program)(tab:Ww)(n:Nat):Bc (BJ P tab n) (zLG P tab n):=by
 induction n with
 |zero=>exact⟨fun _ _ _ _=>rfl,fun _ _ _ _=>rfl⟩
 |succ n ih=>
  rw[zLM];refine⟨fun c fr h K=> ?_,fun f args h K=> ?_⟩
  ·have:=zOh ih c fr h K (P:=P);exact this
  ·have:=zMS (P:=P) ih tab f args h K;exact this
theorem zLy{P:Program}{tab:Ww}{n:Nat}{f:FuncId}{args:List Value}{h:WG}{v:Value}(hx:(zLG P tab n).call f args h (fun v _=>some v)=some v):
  ((BJ P tab n).call f args h).map (·.1)=some v:=by
 have e:=(zOb P tab n).call f args h fun v _=>some v;rw[hx]at e;cases hc:(BJ P tab n).call f args h with
 |none=>rw[hc]at e;cases e
 |some p=>rw[hc]at e;exact e.symm
end
end
end Go.Am
