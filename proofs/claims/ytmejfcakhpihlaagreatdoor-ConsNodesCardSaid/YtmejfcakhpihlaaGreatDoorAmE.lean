/- A part of the abstract machine for the model's programs and of the proof that what it yields the model's call yields (definitions, operations, runs, regions that draw their order); no statement of the seat is proved in this text. -/
import Derived.Test.YtmejfcakhpihlaaGreatDoorAmD
set_option linter.unusedVariables false
set_option linter.unusedSimpArgs false
namespace Go.Am
noncomputable section
def yR {α:Type}(b:Bool)(x y:α):α:= @Bool.rec (fun _=>α) y x b
theorem yP {α:Type}(b:Bool)(x y:α):yR b x y=bif b then x else y:=by cases b<;>rfl
def U5.getF {α:Type}(t:U5 α):Nat->Option α:=
 @U5.rec α (fun _=>Nat->Option α) (fun _=>none) (fun v _ _ gl gr k=> @Bool.rec (fun _=>Option α) (@Bool.rec (fun _=>Option α) (gr (Nat.pred (Nat.div k (nat_lit 2)))) (gl (Nat.div k (nat_lit 2))) (Nat.beq (Nat.mod k (nat_lit 2)) (nat_lit 1))) v (Nat.beq k (nat_lit 0))) t
theorem zHM {α:Type}:∀ (t:U5 α) (k:Nat),t.getF k=t.get k
 | .leaf,_=>rfl
 | .node v l r,k=>by
  show yR (Nat.beq k 0) v (yR (Nat.beq (k % 2) 1) (l.getF (k / 2)) (r.getF (k / 2 - 1)))=_;rw[yP,yP,zHM l,zHM r];rfl
def zKp {α:Type}(v:Option α)(f:Nat):Nat->U5 α:=
 @Nat.rec (fun _=>Nat->U5 α) (fun _=> .leaf) (fun _ p k=> @Bool.rec (fun _=>U5 α) (@Bool.rec (fun _=>U5 α) (.node none .leaf (p (Nat.pred (Nat.div k (nat_lit 2))))) (.node none (p (Nat.div k (nat_lit 2))) .leaf) (Nat.beq (Nat.mod k (nat_lit 2)) (nat_lit 1))) (.node v .leaf .leaf) (Nat.beq k (nat_lit 0))) f
theorem zEL {α:Type}(v:Option α):∀ (f k:Nat),zKp v f k=U5.put v f k .leaf
 |0,_=>rfl
 |f+1,k=>by
  show yR (Nat.beq k 0) _ (yR (Nat.beq (k % 2) 1) (U5.node none (zKp v f (k / 2)) .leaf) (.node none .leaf (zKp v f (k / 2 - 1))))=_;rw[yP,yP,zEL v f,zEL v f];rfl
def U5.putF {α:Type}(v:Option α)(t:U5 α):Nat->U5 α:=
 @U5.rec α (fun _=>Nat->U5 α) (fun k=>zKp v (Nat.succ k) k)
  (fun u l r pl pr k=> @Bool.rec (fun _=>U5 α) (@Bool.rec (fun _=>U5 α) (.node u l (pr (Nat.pred (Nat.div k (nat_lit 2))))) (.node u (pl (Nat.div k (nat_lit 2))) r) (Nat.beq (Nat.mod k (nat_lit 2)) (nat_lit 1))) (.node v l r) (Nat.beq k (nat_lit 0))) t
theorem zAc {α:Type}(v:Option α):∀ (f g k:Nat) (t:U5 α),k<f->k<g->U5.put v f k t=U5.put v g k t:=by
 intro f;induction f with
 |zero=>intro g k t h;omega
 |succ f ih=>
  intro g k t h1 h2;obtain⟨g,rfl⟩:∃ g',g=g'+1:=⟨g - 1,by omega⟩;have hb:∀ a b:Nat,Nat.beq a b=decide (a=b):=fun a b=>by rw[GO];simp
  cases t with
  |leaf=>
   simp only[U5.put,hb];by_cases hk:k=0
   ·simp[hk]
   ·simp only[hk,decide_false,QR];rw[ih g (k / 2) _ (by omega) (by omega),ih g (k / 2 - 1) _ (by omega) (by omega)]
  |node u l r=>
   simp only[U5.put,hb];by_cases hk:k=0
   ·simp[hk]
   ·simp only[hk,decide_false,QR];rw[ih g (k / 2) _ (by omega) (by omega),ih g (k / 2 - 1) _ (by omega) (by omega)]
theorem zDi {α:Type}(v:Option α):∀ (t:U5 α) (k:Nat),t.putF v k=U5.put v (k+1) k t
 | .leaf,k=>zEL v (k+1) k
 | .node u l r,k=>by
  show yR (Nat.beq k 0) (U5.node v l r) (yR (Nat.beq (k % 2) 1) (.node u (l.putF v (k / 2)) r) (.node u l (r.putF v (k / 2 - 1))))=_;rw[yP,yP,zDi v l,zDi v r];have hb:∀ a b:Nat,Nat.beq a b=decide (a=b):=fun a b=>by rw[GO];simp
  simp only[U5.put,hb];by_cases hk:k=0
  ·simp[hk]
  ·simp only[hk,decide_false,QR];rw[zAc v (k / 2+1) k (k / 2) l (by omega) (by omega),zAc v (k / 2 - 1+1) k (k / 2 - 1) r (by omega) (by omega)]
theorem zHm (k:Nat)(v:Value)(hk:¬k=0):(U5.leaf:U5 Value).set k v=yR (Nat.beq (k % 2) 1) (.node none (U5.leaf.set (k / 2) v) .leaf) (.node none .leaf (U5.leaf.set (k / 2 - 1) v)):=by
 have h0:Nat.beq k 0=false:=by cases hb:Nat.beq k 0 with
  |false=>rfl
  |true=>exact absurd (QI hb) hk
 have e:(U5.leaf:U5 Value).set k v=bif Nat.beq k 0 then U5.node (some v) .leaf .leaf else bif Nat.beq (k % 2) 1 then .node none (U5.put (some v) k (k / 2) .leaf) .leaf else .node none .leaf (U5.put (some v) k (k / 2 - 1) .leaf):=rfl;rw[e,h0,yP,QR,zAc _ k (k / 2+1) (k / 2) _ (by omega) (by omega),zAc _ k (k / 2 - 1+1) (k / 2 - 1) _ (by omega) (by omega)];rfl
theorem zH8 (k:Nat)(v:Value)(u:Option Value)(l r:U5 Value)(hk:¬k=0):(U5.node u l r).set k v=yR (Nat.beq (k % 2) 1) (.node u (l.set (k / 2) v) r) (.node u l (r.set (k / 2 - 1) v)):=by
 have h0:Nat.beq k 0=false:=by cases hb:Nat.beq k 0 with
  |false=>rfl
  |true=>exact absurd (QI hb) hk
 have e:(U5.node u l r).set k v=bif Nat.beq k 0 then U5.node (some v) l r else bif Nat.beq (k % 2) 1 then .node u (U5.put (some v) k (k / 2) l) r else .node u l (U5.put (some v) k (k / 2 - 1) r):=rfl;rw[e,h0,yP,QR,zAc _ k (k / 2+1) (k / 2) _ (by omega) (by omega),zAc _ k (k / 2 - 1+1) (k / 2 - 1) _ (by omega) (by omega)];rfl
structure CloG where
 get:U5 Value->Option Value
 set:U5 Value->Value->U5 Value
def Bn (f:Nat):Nat->CloG:=
 @Nat.rec (fun _=>Nat->CloG) (fun k=>⟨fun t=>t.get k,fun t v=>U5.put (some v) (k+1) k t⟩)
  (fun _ p k=> @Bool.rec (fun _=>CloG) (@Bool.rec (fun _=>CloG)
   ⟨fun t=>(p (Nat.pred (Nat.div k (nat_lit 2)))).get (@U5.rec Value (fun _=>U5 Value) .leaf (fun _ _ r _ _=>r) t),fun t v=> @U5.rec Value (fun _=>U5 Value) (.node none .leaf ((p (Nat.pred (Nat.div k (nat_lit 2)))).set .leaf v)) (fun u l r _ _=> .node u l ((p (Nat.pred (Nat.div k (nat_lit 2)))).set r v)) t⟩
   ⟨fun t=>(p (Nat.div k (nat_lit 2))).get (@U5.rec Value (fun _=>U5 Value) .leaf (fun _ l _ _ _=>l) t),fun t v=> @U5.rec Value (fun _=>U5 Value) (.node none ((p (Nat.div k (nat_lit 2))).set .leaf v) .leaf) (fun u l r _ _=> .node u ((p (Nat.div k (nat_lit 2))).set l v) r) t⟩
   (Nat.beq (Nat.mod k (nat_lit 2)) (nat_lit 1)))
   ⟨fun t=> @U5.rec Value (fun _=>Option Value) none (fun v _ _ _ _=>v) t,fun t v=> @U5.rec Value (fun _=>U5 Value) (.node (some v) .leaf .leaf) (fun _ l r _ _=> .node (some v) l r) t⟩
   (Nat.beq k (nat_lit 0))) f
theorem zGs:∀ (f k:Nat),(∀ t,(Bn f k).get t=t.get k)/\∀ t v,(Bn f k).set t v=t.set k v:=by
 intro f;induction f with
 |zero=>intro k;exact⟨fun _=>rfl,fun _ _=>rfl⟩
 |succ f ih=>
  intro k;have hb:∀ a b:Nat,Nat.beq a b=decide (a=b):=fun a b=>by rw[GO];simp
  have step:Bn (f+1) k=yR (Nat.beq k 0) ⟨fun t=> @U5.rec Value (fun _=>Option Value) none (fun v _ _ _ _=>v) t,fun t v=> @U5.rec Value (fun _=>U5 Value) (.node (some v) .leaf .leaf) (fun _ l r _ _=> .node (some v) l r) t⟩
   (yR (Nat.beq (k % 2) 1) ⟨fun t=>(Bn f (k / 2)).get (@U5.rec Value (fun _=>U5 Value) .leaf (fun _ l _ _ _=>l) t),fun t v=> @U5.rec Value (fun _=>U5 Value) (.node none ((Bn f (k / 2)).set .leaf v) .leaf) (fun u l r _ _=> .node u ((Bn f (k / 2)).set l v) r) t⟩
    ⟨fun t=>(Bn f (k / 2 - 1)).get (@U5.rec Value (fun _=>U5 Value) .leaf (fun _ _ r _ _=>r) t),fun t v=> @U5.rec Value (fun _=>U5 Value) (.node none .leaf ((Bn f (k / 2 - 1)).set .leaf v)) (fun u l r _ _=> .node u l ((Bn f (k / 2 - 1)).set r v)) t⟩):=rfl
  rw[step];by_cases hk:k=0
  ·subst hk;exact⟨fun t=>by cases t<;>rfl,fun t v=>by cases t<;>rfl⟩
  ·have h0:Nat.beq k 0=false:=by rw[hb];simp[hk]
   rw[h0];by_cases ho:k % 2=1
   ·have h1:Nat.beq (k % 2) 1=true:=by rw[hb];simp[ho]
    rw[h1];refine⟨fun t=> ?_,fun t v=> ?_⟩
    ·show (Bn f (k / 2)).get _=_;rw[(ih _).1];cases t with
     |leaf=>rfl
     |node u l r=>simp only[U5.get,h0,h1,cond_true,QR]
    ·cases t with
     |leaf=>
      show U5.node none ((Bn f (k / 2)).set .leaf v) .leaf=_;rw[(ih _).2,zHm k v hk,h1];rfl
     |node u l r=>
      show U5.node u ((Bn f (k / 2)).set l v) r=_;rw[(ih _).2,zH8 k v u l r hk,h1];rfl
   ·have h1:Nat.beq (k % 2) 1=false:=by rw[hb];simp[ho]
    rw[h1];refine⟨fun t=> ?_,fun t v=> ?_⟩
    ·show (Bn f (k / 2 - 1)).get _=_;rw[(ih _).1];cases t with
     |leaf=>rfl
     |node u l r=>simp only[U5.get,h0,h1,cond_true,QR]
    ·cases t with
     |leaf=>
      show U5.node none .leaf ((Bn f (k / 2 - 1)).set .leaf v)=_;rw[(ih _).2,zHm k v hk,h1];rfl
     |node u l r=>
      show U5.node u l ((Bn f (k / 2 - 1)).set r v)=_;rw[(ih _).2,zH8 k v u l r hk,h1];rfl
structure CloE where
 ev:U5 Value->Value
def zr (x:Operand):CloE:=
 match x with
 | .tmp k=>⟨fun t=> @Option.rec Value (fun _=>Value) undef (fun v=>v) ((Bn 64 k).get t)⟩
 | .const v=>⟨fun _=>v⟩
 | .global g=>⟨fun _=> .pointer (some ⟨g,0,none⟩)⟩
 | .func f=>⟨fun _=> .func (.func f) #[] #[]⟩
theorem zq (x:Operand)(t:U5 Value):(zr x).ev t=ev t x:=by
 cases x with
 |tmp k=>
  show @Option.rec Value (fun _=>Value) undef (fun v=>v) ((Bn 64 k).get t)=(t.get k).getD undef;rw[(zGs 64 k).1];cases t.get k<;>rfl
 |_=>rfl
def zIL (h:U0)(g:Nat):Option Wa:=h.tab.getF g
theorem zEr (h:U0)(g:Nat):zIL h g=h.get g:=zHM _ _
def zDX (h:U0)(o:Wa):U0:=⟨Nat.succ h.n,h.tab.putF (some o) h.n,h.mark,h.wr⟩
theorem zEC (h:U0)(o:Wa):zDX h o=h.push o:=by unfold zDX U0.push U5.set;rw[zDi]
def zOk (h:U0)(g:Nat)(o:Wa):U0:=⟨h.n,h.tab.putF (some o) g,h.mark,h.log g⟩
theorem zNq (h:U0)(g:Nat)(o:Wa):zOk h g o=h.set g o:=by unfold zOk U0.set U5.set;rw[zDi]
abbrev R:=Option Value
def Zo (x:Option (Value×U0))(K:Value->U0->R):R:=x.bind fun p=>K p.1 p.2
structure ExK where
 exec:U1->WB->U0->(U9->WB->U0->R)->R
 call:FuncId->List Value->U0->(Value->U0->R)->R
structure BO (e:Ex)(x:ExK):Prop where
 exec:∀ c fr h K,x.exec c fr h K=(e.exec c fr h).bind fun p=>K p.1 p.2.1 p.2.2
 call:∀ f args h K,x.call f args h K=Zo (e.call f args h) K
def zGu (v:Value)(k:Addr->R):R:=match v with
 | .pointer (some a)=>k a
 |_=>none
def Zm {α:Type}(x:Option α)(k:α->R):R:= @Option.rec α (fun _=>R) none k x
theorem ZE {α:Type}(x:Option α)(k:α->R):Zm x k=x.bind k:=by cases x<;>rfl
def zIu (h:U0)(g:Nat)(k:List Value->R):R:=Zm (zIL h g) fun o=>match o with
 | .row cells _ _=>k cells
 |_=>none
theorem zJ7 (h:U0)(g:Nat)(k:List Value->R):zIu h g k=(yD h g).bind k:=by
 unfold zIu yD;rw[ZE,zEr];cases h.get g with
 |none=>rfl
 |some o=>cases o<;>rfl
def zQ4 (v:Value)(k:IntKind->Int->R):R:=match v with
 | .int kk n=>k kk n
 |_=>none
def zUC (v:Value)(k:Nat->R):R:=match v with
 | .int _ (.ofNat n)=>k n
 |_=>none
theorem zSP (v:Value)(k:Nat->R):zUC v k=(W8 v).bind k:=by
 cases v with
 |int kk n=>cases n<;>rfl
 |_=>rfl
def zDZ (k:IntKind):Nat:= @IntKind.rec (fun _=>Nat) (nat_lit 0) (nat_lit 1) (nat_lit 2) (nat_lit 3) (nat_lit 4) (nat_lit 5) (nat_lit 6) (nat_lit 7) k
theorem zPM (k k':IntKind):Nat.beq (zDZ k) (zDZ k')=decide (k=k'):=by cases k<;>cases k'<;>rfl
def zCC (k:IntKind)(n:Int):Int:=match n with
 | .ofNat m=>yR (Nat.ble m (nat_lit 127)) (.ofNat m) (yR (Nat.beq (zDZ k) (nat_lit 3)) (yR (Nat.ble m (nat_lit 9223372036854775807)) (.ofNat m) (k.wrap (.ofNat m))) (k.wrap (.ofNat m)))
 |n=>k.wrap n
theorem zBI (k:IntKind)(n:Int):zCC k n=k.wrap n:=by
 unfold zCC;cases n with
 |negSucc m=>rfl
 |ofNat m=>
  simp only[yP];cases h1:Nat.ble m 127 with
  |true=>
   have:m<=127:=QN h1;simp only[cond_true];have e:(Int.ofNat m:Int)=(m:Int):=rfl;rw[e];cases k<;>simp[IntKind.wrap,IntKind.signed,IntKind.bits]<;>omega
  |false=>
   simp only[QR];cases h2:Nat.beq (zDZ k) 3 with
   |false=>rfl
   |true=>
    simp only[cond_true];have hk:k= .i64:=by cases k<;>first|rfl|cases h2
    subst hk;cases h3:Nat.ble m 9223372036854775807 with
    |false=>rfl
    |true=>
     have:m<=9223372036854775807:=QN h3;simp only[cond_true];have e:(Int.ofNat m:Int)=(m:Int):=rfl;rw[e];simp[IntKind.wrap,IntKind.signed,IntKind.bits];omega
def ltF (a b:Int):Bool:=match a,b with
 | .ofNat m,.ofNat n=>Nat.ble (Nat.succ m) n
 | .negSucc _,.ofNat _=>true
 | .ofNat _,.negSucc _=>false
 | .negSucc m,.negSucc n=>Nat.ble (Nat.succ n) m
theorem zD2 (a b:Int):ltF a b=decide (a<b):=by
 have hb:∀ a b:Nat,Nat.ble a b=decide (a<=b):=fun a b=>by rw[GO];simp
 have e1:∀ n:Nat,Int.ofNat n=(n:Int):=fun _=>rfl;have e2:∀ n:Nat,Int.negSucc n= -((n:Int)+1):=fun n=>by omega
 cases a<;>cases b<;>simp only[ltF,hb]<;>rw[GO]<;>simp only[QW,Qn,true_iff,JD,e1,e2]<;>omega
def eqF (a b:Int):Bool:=match a,b with
 | .ofNat m,.ofNat n=>Nat.beq m n
 | .negSucc m,.negSucc n=>Nat.beq m n
 |_,_=>false
theorem zGY (a b:Int):eqF a b=decide (a=b):=by
 have hb:∀ a b:Nat,Nat.beq a b=decide (a=b):=fun a b=>by rw[GO];simp
 have e1:∀ n:Nat,Int.ofNat n=(n:Int):=fun _=>rfl;have e2:∀ n:Nat,Int.negSucc n= -((n:Int)+1):=fun n=>by omega
 cases a<;>cases b<;>simp only[eqF,hb]<;>rw[GO]<;>simp only[QW,Qn,true_iff,JD,e1,e2]<;>omega
def zFL (x y:Value)(k:IntKind->Int->Int->R):R:=zQ4 x fun kk a=>zQ4 y fun kk' b=>yR (Nat.beq (zDZ kk) (zDZ kk')) (k kk a b) none
structure CloB where
 run:Value->Value->(Value->R)->R
def zUg (op:BinOp):CloB:=
 match op with
 | .add=>⟨fun x y k=>zFL x y fun kk a b=>k (.int kk (zCC kk (Int.add a b)))⟩
 | .sub=>⟨fun x y k=>zFL x y fun kk a b=>k (.int kk (zCC kk (Int.sub a b)))⟩
 | .eql=>⟨fun x y k=>zFL x y fun _ a b=>k (.bool (eqF a b))⟩
 | .neq=>⟨fun x y k=>zFL x y fun _ a b=>k (.bool (!eqF a b))⟩
 | .lss=>⟨fun x y k=>zFL x y fun _ a b=>k (.bool (ltF a b))⟩
 | .gtr=>⟨fun x y k=>zFL x y fun _ a b=>k (.bool (ltF b a))⟩
 | .leq=>⟨fun x y k=>zFL x y fun _ a b=>k (.bool (!ltF b a))⟩
 | .geq=>⟨fun x y k=>zFL x y fun _ a b=>k (.bool (!ltF a b))⟩
 |op=>⟨fun x y k=>Zm (yI op x y) k⟩
theorem zSI (x y:Value)(k:IntKind->Int->Int->R):zFL x y k=match x,y with
  | .int kk a,.int kk' b=>if kk=kk' then k kk a b else none
  |_,_=>none:=by
 cases x with
 |int kk a=>
  cases y with
  |int kk' b=>
   show yR (Nat.beq (zDZ kk) (zDZ kk')) (k kk a b) none=if kk=kk' then k kk a b else none;rw[yP,zPM];by_cases e:kk=kk'
   ·subst e;simp
   ·simp[e]
  |_=>rfl
 |_=>rfl
theorem zGf (a b:Int):(!ltF b a)=decide (a<=b):=by
 rw[zD2,GO];simp
theorem zRi (op:BinOp)(x y:Value)(k:Value->R):(zUg op).run x y k=(yI op x y).bind k:=by
 have two:∀ {f:IntKind->Int->Int->Value} {g:Option Value},(g=match x,y with
   | .int kk a,.int kk' b=>if kk=kk' then some (f kk a b) else none
   |_,_=>none)->(zFL x y fun kk a b=>k (f kk a b))=g.bind k:=by
  intro f g hg;rw[zSI,hg];split
  ·split<;>rfl
  ·rfl
 cases op with
 |add=>refine two (f:=fun kk a b=> .int kk (zCC kk (Int.add a b))) ?_;cases x<;>cases y<;>first|rfl|(simp only[yI,zBI];done)|(simp only[yI,zBI];rfl)
 |sub=>refine two (f:=fun kk a b=> .int kk (zCC kk (Int.sub a b))) ?_;cases x<;>cases y<;>first|rfl|(simp only[yI,zBI];done)|(simp only[yI,zBI];rfl)
 |eql=>refine two (f:=fun kk a b=> .bool (eqF a b)) ?_;cases x<;>cases y<;>first|rfl|(simp only[yI,zGY];done)|(simp only[yI,zGY];rfl)
 |neq=>refine two (f:=fun kk a b=> .bool (!eqF a b)) ?_;cases x<;>cases y<;>first|rfl|(simp only[yI,zGY];done)|(simp only[yI,zGY];rfl)
 |lss=>refine two (f:=fun kk a b=> .bool (ltF a b)) ?_;cases x<;>cases y<;>first|rfl|(simp only[yI,zD2];done)|(simp only[yI,zD2];rfl)
 |gtr=>refine two (f:=fun kk a b=> .bool (ltF b a)) ?_;cases x<;>cases y<;>first|rfl|(simp only[yI,zD2];done)|(simp only[yI,zD2];rfl)
 |leq=>refine two (f:=fun kk a b=> .bool (!ltF b a)) ?_;cases x<;>cases y<;>first|rfl|(simp only[yI,zGf];done)|(simp only[yI,zGf];rfl)
 |geq=>refine two (f:=fun kk a b=> .bool (!ltF a b)) ?_;cases x<;>cases y<;>first|rfl|(simp only[yI,zGf,ge_iff_le];done)|(simp only[yI,zGf,ge_iff_le];rfl)
 |_=>exact ZE _ _
def zLw (l:List Value):Nat->Option Value:=
 @List.rec Value (fun _=>Nat->Option Value) (fun _=>none) (fun v _ g n=> @Nat.rec (fun _=>Option Value) (some v) (fun m _=>g m) n) l
theorem zGg:∀ (l:List Value) (n:Nat),zLw l n=l[n]?
 |[],_=>rfl
 |v::l,0=>rfl
 |v::l,n+1=>by
  show zLw l n=_;rw[zGg l n];simp
theorem zOS (l:List Value)(n:Nat):(cut l n 1).bind (zH false)=l[n]?:=by
 unfold cut;cases hb:Nat.ble (n+1) l.length with
 |true=>
  have hn:n<l.length:=QN hb;have e:(l.drop n).take 1=[l[n]]:=by rw[GN hn];rfl
  rw[cond_true,QT,e,QB hn];rfl
 |false=>
  have hn:¬n<l.length:=fun e=>by
   have:Nat.ble (n+1) l.length=true:=QH e;rw[this]at hb;cases hb
  simp[hn]
def zFy (l:List Value):Nat->Option (List Value):=
 @List.rec Value (fun _=>Nat->Option (List Value)) (fun n=> @Nat.rec (fun _=>Option (List Value)) (some []) (fun _ _=>none) n)
  (fun v _ g n=> @Nat.rec (fun _=>Option (List Value)) (some []) (fun m _=> @Option.rec (List Value) (fun _=>Option (List Value)) none (fun r=>some (v::r)) (g m)) n) l
def zG7 (l:List Value):Nat->Nat->Option (List Value):=
 @List.rec Value (fun _=>Nat->Nat->Option (List Value)) (fun off n=> @Nat.rec (fun _=>Option (List Value)) (zFy [] n) (fun _ _=>none) off)
  (fun v r g off n=> @Nat.rec (fun _=>Option (List Value)) (zFy (v::r) n) (fun m _=>g m n) off) l
theorem zEY:∀ (l:List Value) (n:Nat),zFy l n=bif Nat.ble n l.length then some (l.take n) else none
 |[],0=>rfl
 |[],n+1=>rfl
 |v::l,0=>rfl
 |v::l,n+1=>by
  show @Option.rec (List Value) (fun _=>Option (List Value)) none (fun r=>some (v::r)) (zFy l n)=_;rw[zEY l n];have:Nat.ble (n+1) (v::l).length=Nat.ble n l.length:=rfl;rw[this];cases Nat.ble n l.length<;>rfl
theorem zDy:∀ (l:List Value) (off n:Nat),zG7 l off n=cut l off n
 |[],0,n=>by
  show zFy [] n=_;rw[zEY];unfold cut;rw[Q5];rfl
 |[],off+1,n=>by
  show none=cut [] (off+1) n;unfold cut;have:Nat.ble (off+1+n) ([]:List Value).length=false:=by
   rw[show off+1+n=(off+n)+1 by omega];rfl
  rw[this];rfl
 |v::l,0,n=>by
  show zFy (v::l) n=_;rw[zEY];unfold cut;rw[Q5];rfl
 |v::l,off+1,n=>by
  show zG7 l off n=_;rw[zDy l off n];unfold cut;have:Nat.ble (off+1+n) (v::l).length=Nat.ble (off+n) l.length:=by
   rw[show off+1+n=(off+n)+1 by omega];rfl
  rw[this];rfl
def zGb (v:Value)(l:List Value):Nat->Option (List Value):=
 @List.rec Value (fun _=>Nat->Option (List Value)) (fun _=>none) (fun u r g n=> @Nat.rec (fun _=>Option (List Value)) (some (v::r)) (fun m _=> @Option.rec (List Value) (fun _=>Option (List Value)) none (fun r=>some (u::r)) (g m)) n) l
theorem zFQ (v:Value):∀ (l:List Value) (n:Nat),zGb v l n=bif Nat.ble (n+1) l.length then some (za l n [v]) else none
 |[],n=>by
  have:Nat.ble (n+1) ([]:List Value).length=false:=rfl;rw[this];rfl
 |u::r,0=>rfl
 |u::r,n+1=>by
  show @Option.rec (List Value) (fun _=>Option (List Value)) none (fun r=>some (u::r)) (zGb v r n)=_;rw[zFQ v r n];have:Nat.ble (n+1+1) (u::r).length=Nat.ble (n+1) r.length:=rfl;rw[this];cases Nat.ble (n+1) r.length<;>simp[za]
structure CloV where
 run:ExK->U5 Value->U0->(Value->U0->R)->R
def zDD (v:Value)(k:Bool->R):R:=match v with
 | .bool b=>k b
 |_=>none
def zCc (h:U0)(a:Addr)(v:Value)(K:U0->R):R:=
 yR a.spot.isNone (Zm (zIL h a.block) fun o=>match o with
  | .row cells true lo=>yR (Nat.ble lo a.off) (match v with
   | .agg _=>none
   | .tuple _=>none
   |v=>Zm (zGb v cells a.off) fun cells=>K (zOk h a.block (.row cells true lo))) none
  |_=>none) none
theorem zJa (h:U0)(a:Addr)(v:Value)(hv:v.cells.size=1)(hn:∀ cs,v≠ .agg cs)(K:U0->R):zCc h a v K=(ze h a v.cells.toList).bind K:=by
 have hc:v.cells.toList=[v]:=by cases v<;>first|rfl|exact absurd rfl (hn _)
 unfold zCc ze;rw[hc,yP,ZE,zEr];cases hs:a.spot.isNone with
 |false=>
  simp only[QR];split
  ·simp
  ·rfl
 |true=>
  simp only[cond_true];cases h.get a.block with
  |none=>rfl
  |some o=>
   cases o with
   |row cells own lo=>
    cases own with
    |false=>rfl
    |true=>
     show yR (Nat.ble lo a.off) _ none=_;rw[yP];have h1:∀ K':List Value->R,(Zm (zGb v cells a.off) K')=(bif Nat.ble (a.off+1) cells.length then some (za cells a.off [v]) else none).bind K':=fun K'=>by rw[ZE,zFQ]
     cases h2:Nat.ble lo a.off with
     |false=>simp[h2]
     |true=>
      simp only[h2,cond_true,Qj,Qa];cases v<;>first
       |(exact absurd rfl (hn _))
       |(simp only[h1,zNq];cases Nat.ble (a.off+1) cells.length<;>simp[zK])
   |_=>rfl
def zGT (x:ExK)(l:Nat)(r:Wm)(args:List Value)(h:U0)(K:Value->U0->R):R:=
 x.exec r.assign ⟨zBi r.params args r.tm,[],some l⟩ h fun e fr h1=>match e with
  | .normal=>(match h1.get l with
   |some (.loop r1)=>
    bif (match r1.state with| .ready=>true|_=>false) then
     x.exec r.body fr (h1.set l (.loop {r1 with state:= .busy})) fun e fr2 h2=>match fr2.dfs,h2.get l with
      |[],some (.loop r2)=>K (ZT l r2 h2 e).1 (ZT l r2 h2 e).2
      |_,_=>none
    else none
   |_=>none)
  |_=>none
def zHI (x:ExK)(f:Value)(args:List Value)(h:U0)(K:Value->U0->R):R:=
 match f with
 | .func (.func f) first cap=>x.call f (first.toList++(args++cap.toList)) h K
 | .func (.yield l) _ _=>
  match h.get l with
  |some (.loop r)=>bif Nat.beq args.length r.params.length then zGT x l r args h K else none
  |_=>none
 |_=>none
section
variable {P:Program}{e:Ex}{x:ExK}
theorem zLk (ok:BO e x)(l:Nat)(r:Wm)(args:List Value)(h:U0)(K:Value->U0->R):zGT x l r args h K=Zo (zA1 e l r args h) K:=by
 unfold zGT zA1 Zo;rw[ok.exec];cases e.exec r.assign ⟨zBi r.params args r.tm,[],some l⟩ h with
 |none=>rfl
 |some p=>
  obtain⟨ex,fr,h1⟩:=p;simp only[QT];cases ex with
  |normal=>
   simp only;cases h1.get l with
   |none=>rfl
   |some o=>
    cases o with
    |loop r1=>
     simp only;cases hst:r1.state with
     |ready=>
      simp only[cond_true];rw[ok.exec];cases e.exec r.body fr (h1.set l (.loop {r1 with state:= .busy}))with
      |none=>rfl
      |some p=>
       obtain⟨e2,fr2,h2⟩:=p;simp only[QT];cases fr2.dfs with
       |nil=>
        cases h2.get l with
        |none=>rfl
        |some o=>cases o<;>rfl
       |cons d ds=>rfl
     |_=>rfl
    |_=>rfl
  |_=>rfl
theorem zFh (ok:BO e x)(f:Value)(args:List Value)(h:U0)(K:Value->U0->R):zHI x f args h K=Zo (zAe e f args h) K:=by
 cases f with
 |func fn first cap=>
  cases fn with
  |func f=>
   show x.call f (first.toList++(args++cap.toList)) h K=Zo (e.call f (first.toList++args++cap.toList) h) K;rw[ok.call,QZ]
  |yield l=>
   show (match h.get l with
    |some (.loop r)=>bif Nat.beq args.length r.params.length then zGT x l r args h K else none
    |_=>none)=Zo (match h.get l with
    |some (.loop r)=>bif Nat.beq args.length r.params.length then zA1 e l r args h else none
    |_=>none) K
   cases h.get l with
   |none=>rfl
   |some o=>
    cases o with
    |loop r=>
     simp only;cases Nat.beq args.length r.params.length with
     |true=>exact zLk ok _ _ _ _ _
     |false=>rfl
    |_=>rfl
  |_=>rfl
 |_=>rfl
def zRW (P:Program)(op:Wl):CloV:=
 match op with
 | .mov a=>⟨fun _ t h K=>K ((zr a).ev t) h⟩
 | .pick c a b=>⟨fun _ t h K=>zDD ((zr c).ev t) fun q=>K (yR q ((zr a).ev t) ((zr b).ev t)) h⟩
 | .bin op a b=>⟨fun _ t h K=>(zUg op).run ((zr a).ev t) ((zr b).ev t) fun v=>K v h⟩
 | .load agg n a=>yR (Nat.beq n 1&& !agg)
   ⟨fun _ t h K=>zGu ((zr a).ev t) fun a=>yR a.spot.isNone (zIu h a.block fun cells=>Zm (zLw cells a.off) fun v=>K v h) none⟩
   ⟨fun _ t h K=>zGu ((zr a).ev t) fun a=>yR a.spot.isNone (zIu h a.block fun cells=>Zm (zG7 cells a.off n) fun l=>Zm (zH agg l) fun v=>K v h) none⟩
 | .store n a b=>⟨fun _ t h K=>zGu ((zr a).ev t) fun a=>yR (Nat.beq n 1) (match (zr b).ev t with
   | .agg cs=>bif Nat.beq cs.size n then (ze h a cs.toList).bind fun h=>K undef h else none
   |v=>zCc h a v fun h=>K undef h) (Zo (bif Nat.beq ((zr b).ev t).cells.size n then (ze h a ((zr b).ev t).cells.toList).map (undef,·) else none) K)⟩
 | .idx c a i=>⟨fun _ t h K=>match (zr a).ev t with
   | .slice (some a) len k=>zUC ((zr i).ev t) fun i=>yR (Nat.ble (Nat.succ i) len) (yR (Nat.beq k c) (yR a.spot.isNone (K (.pointer (some ⟨a.block,Nat.add a.off (Nat.mul i c),none⟩)) h) none) none) none
   |_=>none⟩
 | .fld off a=>⟨fun _ t h K=>zGu ((zr a).ev t) fun a=>yR a.spot.isNone (K (.pointer (some ⟨a.block,Nat.add a.off off,none⟩)) h) none⟩
 | .len a=>⟨fun _ t h K=>match (zr a).ev t with
   | .slice _ n _=>K (.int .i64 (Int.ofNat n)) h
   |_=>none⟩
 | .nilCheck a=>⟨fun _ t h K=>Zm (Ys ((zr a).ev t)) fun v=>K v h⟩
 | .extract a i=>⟨fun _ t h K=>match (zr a).ev t with
   | .tuple vs=>Zm (zLw vs.toList i) fun v=>K v h
   |_=>none⟩
 | .alloc zero=>⟨fun _ _ h K=>K (.pointer (some ⟨h.n,0,none⟩)) (zDX h (.row zero true 0))⟩
 | .box a=>⟨fun _ t h K=>K (.pointer (some ⟨h.n,0,none⟩)) (zDX h (.row ((zr a).ev t).cells.toList true 0))⟩
 | .call f args=>⟨fun x t h K=>zHI x ((zr f).ev t) (args.map fun a=>(zr a).ev t) h K⟩
 | .invoke a name args=>⟨fun x t h K=>match (zr a).ev t with
   | .iface ty v=>Zm (Yk P ty name) fun f=>x.call f (v::args.map fun a=>(zr a).ev t) h K
   |_=>Zo (WA P Ex.bot t h (.invoke a name args)) K⟩
 | .un op a=>⟨fun _ t h K=>Zm (unV op ((zr a).ev t)) fun v=>K v h⟩
 | .isNil kind neg a=>⟨fun _ t h K=>Zm (zDh kind ((zr a).ev t)) fun b=>K (.bool (if neg then !b else b)) h⟩
 | .binB neg a b=>⟨fun _ t h K=>zDD ((zr a).ev t) fun x=>zDD ((zr b).ev t) fun y=>K (.bool (if neg then x != y else x == y)) h⟩
 | .conv k a=>⟨fun _ t h K=>zQ4 ((zr a).ev t) fun _ n=>K (.int k (zCC k n)) h⟩
 | .build zero parts=>⟨fun _ t h K=>Zm (yv zero (parts.map fun (a,b,x)=>(a,b,(zr x).ev t))) fun cells=>K (.agg cells.toArray) h⟩
 | .buildSlice len c zero parts=>⟨fun _ t h K=>Zm (yv (zX zero len) (parts.map fun (a,b,x)=>(a,b,(zr x).ev t))) fun cells=>K (.slice (some ⟨h.n,0,none⟩) len c) (zDX h (.row cells true 0))⟩
 | .part agg off n a=>⟨fun _ t h K=>match (zr a).ev t with
   | .agg cs=>Zm (zG7 cs.toList off n) fun l=>Zm (zH agg l) fun v=>K v h
   |_=>none⟩
 | .mkFunc fn first cap=>⟨fun _ t h K=>match fn with
   | .func f=>K (.func (.func f) (first.map fun a=>(zr a).ev t).toArray (cap.map fun a=>(zr a).ev t).toArray) h
   |_=>none⟩
 | .lenC n=>⟨fun _ _ h K=>K (.int .i64 (Int.ofNat n)) h⟩
 | .append c a b=>⟨fun _ t h K=>Zo (yW c ((zr a).ev t) ((zr b).ev t) h) K⟩
 |op=>⟨fun _ t h K=>Zo (WA P Ex.bot t h op) K⟩
theorem zFu (parts:List (Nat×Nat×Operand))(t:U5 Value):(parts.map fun (a,b,x)=>(a,b,(zr x).ev t))=zn t parts:=by
 unfold zn;apply GY;rintro⟨a,b,x⟩ _;show (a,b,(zr x).ev t)=(a,b,ev t x);rw[zq]
theorem zCB (args:List Operand)(t:U5 Value):(args.map fun a=>(zr a).ev t)=args.map (ev t):=by
 apply GY;intro a _;exact zq a t
theorem zSL (ok:BO e x)(op:Wl)(t:U5 Value)(h:U0)(K:Value->U0->R):(zRW P op).run x t h K=Zo (WA P e t h op) K:=by
 have slow:zAC op=true->Zo (WA P Ex.bot t h op) K=Zo (WA P e t h op) K:=fun hp=>by rw[zKc e hp]
 cases op with
 |mov a=>show K ((zr a).ev t) h=_;rw[zq];rfl
 |pick c a b=>
  show zDD ((zr c).ev t) (fun q=>K (yR q ((zr a).ev t) ((zr b).ev t)) h)=_;rw[zq,zq,zq];simp only[WA];cases ev t c with
  |bool q=>cases q<;>rfl
  |_=>rfl
 |bin op a b=>
  show (zUg op).run ((zr a).ev t) ((zr b).ev t) (fun v=>K v h)=_;rw[zq,zq,zRi];simp only[WA,Zo];cases yI op (ev t a) (ev t b)<;>rfl
 |load agg n a=>
  simp only[WA];cases hn:(Nat.beq n 1&& !agg)with
  |true=>
   rw[QF]at hn;obtain⟨h1,h2⟩:=hn;have h1:=QI h1;have h2:agg=false:=by cases agg<;>simp_all
   subst h1 h2;show zGu ((zr a).ev t) (fun a=>yR a.spot.isNone (zIu h a.block fun cells=>Zm (zLw cells a.off) fun v=>K v h) none)=_;rw[zq];cases ev t a with
   |pointer p=>
    cases p with
    |none=>rfl
    |some ad=>
     dsimp only;show yR ad.spot.isNone _ none=_;rw[yP];cases ad.spot.isNone with
     |false=>rfl
     |true=>
      simp only[cond_true,zJ7,Zo];cases yD h ad.block with
      |none=>rfl
      |some cells=>
       simp only[QT,ZE,zGg,zOS];cases cells[ad.off]?<;>rfl
   |_=>rfl
  |false=>
   have:zRW P (.load agg n a)=⟨fun _ t h K=>zGu ((zr a).ev t) fun a=>yR a.spot.isNone (zIu h a.block fun cells=>Zm (zG7 cells a.off n) fun l=>Zm (zH agg l) fun v=>K v h) none⟩:=by
    show yR (Nat.beq n 1&& !agg) _ _=_;rw[hn];rfl
   rw[this];show zGu ((zr a).ev t) (fun a=>yR a.spot.isNone (zIu h a.block fun cells=>Zm (zG7 cells a.off n) fun l=>Zm (zH agg l) fun v=>K v h) none)=_;rw[zq];cases ev t a with
   |pointer p=>
    cases p with
    |none=>rfl
    |some ad=>
     dsimp only;show yR ad.spot.isNone _ none=_;rw[yP];cases ad.spot.isNone with
     |false=>rfl
     |true=>
      simp only[cond_true,zJ7,Zo];cases yD h ad.block with
      |none=>rfl
      |some cells=>
       simp only[QT,ZE,zDy];cases cut cells ad.off n with
       |none=>rfl
       |some l=>simp only[QT];cases zH agg l<;>rfl
   |_=>rfl
 |store n a b=>
  show zGu ((zr a).ev t) (fun a=>yR (Nat.beq n 1) (match (zr b).ev t with
   | .agg cs=>bif Nat.beq cs.size n then (ze h a cs.toList).bind fun h=>K undef h else none
   |v=>zCc h a v fun h=>K undef h) (Zo (bif Nat.beq ((zr b).ev t).cells.size n then (ze h a ((zr b).ev t).cells.toList).map (undef,·) else none) K))=_
  rw[zq,zq];simp only[WA];cases ev t a with
  |pointer p=>
   cases p with
   |none=>rfl
   |some ad=>
    show yR (Nat.beq n 1) _ _=_;rw[yP];cases hn:Nat.beq n 1 with
    |false=>rfl
    |true=>
     have:=QI hn;subst this;simp only[cond_true];have plain:∀ v:Value,v.cells.size=1->(∀ cs,v≠ .agg cs)->(zCc h ad v fun h=>K undef h)=Zo (bif Nat.beq v.cells.size 1 then (ze h ad v.cells.toList).map (undef,·) else none) K:=fun v h1 h2=>by
      have h3:Nat.beq v.cells.size 1=true:=by rw[h1];rfl
      rw[zJa h ad v h1 h2,h3,cond_true,Zo];cases ze h ad v.cells.toList<;>rfl
     cases ev t b with
     |agg cs=>
      simp only[Value.cells];cases Nat.beq cs.size 1 with
      |false=>rfl
      |true=>simp only[cond_true,Zo];cases ze h ad cs.toList<;>rfl
     |_=>exact plain _ rfl (fun cs=>by simp)
  |_=>rfl
 |idx c a i=>
  show (match (zr a).ev t with
   | .slice (some a) len k=>zUC ((zr i).ev t) fun i=>yR (Nat.ble (Nat.succ i) len) (yR (Nat.beq k c) (yR a.spot.isNone (K (.pointer (some ⟨a.block,Nat.add a.off (Nat.mul i c),none⟩)) h) none) none) none
   |_=>none)=_
  rw[zq,zq];simp only[WA];cases ev t a with
  |slice p len k=>
   cases p with
   |none=>rfl
   |some ad=>
    simp only[zSP];cases W8 (ev t i)with
    |none=>rfl
    |some j=>
     simp only[QT,yP];have hs:Nat.ble (Nat.succ j) len=Nat.ble (j+1) len:=rfl;rw[hs];cases Nat.ble (j+1) len<;>cases Nat.beq k c<;>cases ad.spot.isNone<;>rfl
  |_=>rfl
 |fld off a=>
  show zGu ((zr a).ev t) (fun a=>yR a.spot.isNone (K (.pointer (some ⟨a.block,Nat.add a.off off,none⟩)) h) none)=_;rw[zq];simp only[WA];cases ev t a with
  |pointer p=>
   cases p with
   |none=>rfl
   |some ad=>dsimp only;show yR ad.spot.isNone _ none=_;rw[yP];cases ad.spot.isNone<;>rfl
  |_=>rfl
 |len a=>
  show (match (zr a).ev t with
   | .slice _ n _=>K (.int .i64 (Int.ofNat n)) h
   |_=>none)=_
  rw[zq];simp only[WA];cases ev t a<;>rfl
 |nilCheck a=>
  show Zm (Ys ((zr a).ev t)) (fun v=>K v h)=_;rw[zq,ZE];simp only[WA,Zo];cases Ys (ev t a)<;>rfl
 |extract a i=>
  show (match (zr a).ev t with
   | .tuple vs=>Zm (zLw vs.toList i) fun v=>K v h
   |_=>none)=_
  rw[zq];simp only[WA];cases ev t a with
  |tuple vs=>
   simp only[ZE,zGg,Array.getElem?_toList];cases vs[i]?<;>rfl
  |_=>rfl
 |alloc zero=>show K _ (zDX h _)=_;rw[zEC];rfl
 |box a=>show K _ (zDX h (.row ((zr a).ev t).cells.toList true 0))=_;rw[zEC,zq];rfl
 |call f args=>
  show zHI x ((zr f).ev t) (args.map fun a=>(zr a).ev t) h K=_;rw[zCB,zq,zFh ok];rfl
 |invoke a name args=>
  show (match (zr a).ev t with
   | .iface ty v=>Zm (Yk P ty name) fun f=>x.call f (v::args.map fun a=>(zr a).ev t) h K
   |_=>Zo (WA P Ex.bot t h (.invoke a name args)) K)=_
  rw[zq,zCB];simp only[WA];cases hv:ev t a with
  |iface ty v=>
   simp only[zAF,ZE];cases Yk P ty name with
   |none=>rfl
   |some f=>simp only[QT];exact ok.call _ _ _ _
  |_=>rfl
 |un op a=>
  show Zm (unV op ((zr a).ev t)) (fun v=>K v h)=_;rw[zq,ZE];simp only[WA,Zo];cases unV op (ev t a)<;>rfl
 |isNil kind neg a=>
  show Zm (zDh kind ((zr a).ev t)) (fun b=>K (.bool (if neg then !b else b)) h)=_;rw[zq,ZE];simp only[WA,Zo];cases zDh kind (ev t a)<;>rfl
 |binB neg a b=>
  show zDD ((zr a).ev t) (fun x=>zDD ((zr b).ev t) fun y=>K (.bool (if neg then x != y else x == y)) h)=_;rw[zq,zq];simp only[WA];cases ev t a with
  |bool x=>cases ev t b<;>rfl
  |_=>rfl
 |conv k a=>
  show zQ4 ((zr a).ev t) (fun _ n=>K (.int k (zCC k n)) h)=_;rw[zq];simp only[WA];cases ev t a with
  |int kk n=>show K (.int k (zCC k n)) h=_;rw[zBI];rfl
  |_=>rfl
 |build zero parts=>
  show Zm (yv zero (parts.map fun (a,b,x)=>(a,b,(zr x).ev t))) (fun cells=>K (.agg cells.toArray) h)=_;rw[zFu,ZE];simp only[WA,Zo];cases yv zero (zn t parts)<;>rfl
 |buildSlice len c zero parts=>
  show Zm (yv (zX zero len) (parts.map fun (a,b,x)=>(a,b,(zr x).ev t))) (fun cells=>K (.slice (some ⟨h.n,0,none⟩) len c) (zDX h (.row cells true 0)))=_;rw[zFu,ZE];simp only[WA,Zo,zEC];cases yv (zX zero len) (zn t parts)<;>rfl
 |part agg off n a=>
  show (match (zr a).ev t with
   | .agg cs=>Zm (zG7 cs.toList off n) fun l=>Zm (zH agg l) fun v=>K v h
   |_=>none)=_
  rw[zq];simp only[WA];cases ev t a with
  |agg cs=>
   simp only[zDy,ZE];cases cut cs.toList off n with
   |none=>rfl
   |some l=>simp only[QT];cases zH agg l<;>rfl
  |_=>rfl
 |mkFunc fn first cap=>
  show (match fn with
   | .func f=>K (.func (.func f) (first.map fun a=>(zr a).ev t).toArray (cap.map fun a=>(zr a).ev t).toArray) h
   |_=>none)=_
  rw[zCB,zCB];simp only[WA];cases fn<;>rfl
 |append c a b=>
  show Zo (yW c ((zr a).ev t) ((zr b).ev t) h) K=_;rw[zq,zq];rfl
 |dfr f args=>rfl
 |dfrClear _ _ _ _=>rfl
 |recover=>rfl
 |_=>first|rfl|(show Zo (WA P Ex.bot t h _) K=_;exact slow rfl)
end
abbrev FrK:=WB->U0->R
def frK (x:Option (WB×U0))(K:FrK):R:=x.bind fun p=>K p.1 p.2
structure CloO where
 run:ExK->WB->U0->FrK->R
structure CloD where
 set:U5 Value->Value->U5 Value
def zIf (d:Option Nat):CloD:=
 match d with
 |some d=>⟨(Bn 64 d).set⟩
 |none=>⟨fun t _=>t⟩
theorem zKd (d:Option Nat)(fr:WB)(v:Value):(⟨(zIf d).set fr.tm v,fr.dfs,fr.round⟩:WB)=val d fr v:=by
 cases d with
 |none=>rfl
 |some d=>show (⟨(Bn 64 d).set fr.tm v,fr.dfs,fr.round⟩:WB)=_;rw[(zGs 64 d).2];rfl
def zPT:Wl->Bool
 | .dfr .. | .dfrClear .. | .recover=>true
 |_=>false
def zMQ (P:Program)(op:Wl)(d:Option Nat):CloO:=
 yR (zPT op) ⟨fun _ fr h K=>(zt P Ex.bot fr.tm fr.round h op).bind fun p=>K (val d {fr with dfs:=p.2.1++fr.dfs} p.1) p.2.2⟩
  ⟨fun x fr h K=>(zRW P op).run x fr.tm h fun v h=>K ⟨(zIf d).set fr.tm v,fr.dfs,fr.round⟩ h⟩
def zLC (P:Program)(o:U2):CloO:=
 match o.guard with
 |none=>zMQ P o.op o.dst
 |some (j,want)=>⟨fun x fr h K=>match (zr (.tmp j)).ev fr.tm with
  | .bool b=>yR (b == want) ((zMQ P o.op o.dst).run x fr h K) (K ⟨(zIf o.dst).set fr.tm undef,fr.dfs,fr.round⟩ h)
  |_=>K ⟨(zIf o.dst).set fr.tm undef,fr.dfs,fr.round⟩ h⟩
section
variable {P:Program}{e:Ex}{x:ExK}
theorem zP3 (ok:BO e x)(op:Wl)(d:Option Nat)(fr:WB)(h:U0)(K:FrK):
  (zMQ P op d).run x fr h K=(zt P e fr.tm fr.round h op).bind fun p=>K (val d {fr with dfs:=p.2.1++fr.dfs} p.1) p.2.2:=by
 unfold zMQ;cases hd:zPT op with
 |true=>
  show (zt P Ex.bot fr.tm fr.round h op).bind _=_;have:zt P Ex.bot fr.tm fr.round h op=zt P e fr.tm fr.round h op:=by cases op<;>first|(cases hd;done)|rfl
  rw[this]
 |false=>
  show (zRW P op).run x fr.tm h (fun v h=>K ⟨(zIf d).set fr.tm v,fr.dfs,fr.round⟩ h)=_;rw[zSL ok];have e1:zt P e fr.tm fr.round h op=match WA P e fr.tm h op with
   |some (v,h)=>some (v,[],h)
   |none=>none:=by cases op<;>first|(cases hd;done)|rfl
  rw[e1];cases WA P e fr.tm h op with
  |none=>rfl
  |some q=>
   obtain⟨v,h⟩:=q;show K ⟨(zIf d).set fr.tm v,fr.dfs,fr.round⟩ h=K (val d {fr with dfs:=[]++fr.dfs} v) h;rw[zKd];rfl
theorem zKU (ok:BO e x)(o:U2)(fr:WB)(h:U0)(K:FrK):(zLC P o).run x fr h K=frK (yG P e o fr h) K:=by
 obtain⟨d,g,op⟩:=o;have plain:(zMQ P op d).run x fr h K=frK (match zt P e fr.tm fr.round h op with
  |some (v,ds,h)=>some (val d {fr with dfs:=ds++fr.dfs} v,h)
  |none=>none) K:=by
  rw[zP3 ok];cases zt P e fr.tm fr.round h op<;>rfl
 cases g with
 |none=>exact plain
 |some g=>
  obtain⟨j,want⟩:=g;have e0:(zLC P ⟨d,some (j,want),op⟩).run x fr h K=(match (zr (.tmp j)).ev fr.tm with
   | .bool b=>yR (b == want) ((zMQ P op d).run x fr h K) (K ⟨(zIf d).set fr.tm undef,fr.dfs,fr.round⟩ h)
   |_=>K ⟨(zIf d).set fr.tm undef,fr.dfs,fr.round⟩ h):=rfl
  have e1:yG P e ⟨d,some (j,want),op⟩ fr h=bif (match zB fr.tm j with| .bool b=>b == want|_=>false) then (match zt P e fr.tm fr.round h op with
   |some (v,ds,h)=>some (val d {fr with dfs:=ds++fr.dfs} v,h)
   |none=>none) else some (val d fr undef,h):=rfl
  rw[e0,e1,plain,zq,zKd];have e2:ev fr.tm (.tmp j)=zB fr.tm j:=rfl;rw[e2];cases zB fr.tm j with
  |bool b=>
   dsimp only;rw[yP];cases (b == want)<;>rfl
  |_=>rfl
def zKC (P:Program)(l:List U2):CloO:=
 @List.rec U2 (fun _=>CloO) ⟨fun _ fr h K=>K fr h⟩ (fun o _ k=>⟨fun x fr h K=>(zLC P o).run x fr h fun fr h=>k.run x fr h K⟩) l
theorem zHX (ok:BO e x):∀ (l:List U2) (fr:WB) (h:U0) (K:FrK),(zKC P l).run x fr h K=frK (yV P e l fr h) K
 |[],_,_,_=>rfl
 |o::l,fr,h,K=>by
  show (zLC P o).run x fr h (fun fr h=>(zKC P l).run x fr h K)=_;rw[zKU ok];simp only[yV,frK];cases yG P e o fr h with
  |none=>rfl
  |some q=>exact zHX ok l q.1 q.2 K
structure CloC where
 run:ExK->Nat->WB->U0->FrK->R
def zQr (P:Program)(o:U2):CloC:=
 yR (Nat.beq (zE o.op) 3) ⟨fun _ g fr h K=>frK (zw P Ex.bot g o fr h) K⟩ ⟨fun x _ fr h K=>(zLC P o).run x fr h K⟩
theorem zQs (ok:BO e x)(o:U2)(g:Nat)(fr:WB)(h:U0)(K:FrK):(zQr P o).run x g fr h K=frK (zw P e g o fr h) K:=by
 unfold zQr;cases hk:Nat.beq (zE o.op) 3 with
 |true=>
  show frK (zw P Ex.bot g o fr h) K=_;unfold zw;simp only[hk,cond_true]
 |false=>
  show (zLC P o).run x fr h K=_;rw[zKU ok];unfold zw;simp only[hk,QR]
abbrev RsT:=List (Nat×Nat×Option (Nat×Nat×List Value))
structure CloR where
 run:ExK->Nat->Nat->List (Nat×Nat)->RsT->List (Nat×Nat)->WB->U0->(WB->U0->List (Nat×Nat)->R)->R
def okC (o:U2)(un:List Nat)(ws:List (Nat×Nat))(rs:RsT)(bs:List (Nat×Nat))(t:U5 Value)(h':U0):Bool:=
 (match zY t o with
  |some g=>(ws.all fun (j,g')=> !(Nat.beq g g'&&un.contains j))&&bs.all fun (j,n)=> !un.contains j||Nat.ble (g+1) n
  |none=>true)&&rs.all fun (j,g,vw)=> !(un.contains j&&h'.wr.contains g)||zBj h' g vw
def okF (o:U2)(un:List Nat)(ws:List (Nat×Nat))(rs:RsT)(bs:List (Nat×Nat))(t:U5 Value)(h':U0):Bool:=
 match un with
 |[]=>true
 |un=>okC o un ws rs bs t h'
theorem zTZ (o:U2)(un:List Nat)(ws:List (Nat×Nat))(rs:RsT)(bs:List (Nat×Nat))(t:U5 Value)(h':U0):okF o un ws rs bs t h'=okC o un ws rs bs t h':=by
 cases un with
 |cons a l=>rfl
 |nil=>
  unfold okF okC;cases zY t o<;>simp
def zQE (P:Program)(l:List (U2×List Nat)):CloR:=
 @List.rec (U2×List Nat) (fun _=>CloR) ⟨fun _ _ _ ws _ _ fr h K=>K fr h ws⟩
  (fun o _ k=>⟨fun x i g ws rs bs fr h K=>(zQr P o.1).run x g fr ⟨h.n,h.tab,h.n,[]⟩ fun fr' h'=>
   yR (okF o.1 o.2 ws rs bs fr.tm h') (k.run x (Nat.succ i) (yR (Nat.beq (zE o.1.op) 3) (Nat.succ g) g) (h'.wr.map (fun g=>(i,g))++ws) (match zY fr.tm o.1 with
     |some g=>(i,g,Yd fr.tm h o.1.op)::rs
     |none=>rs) ((i,h.n)::bs) fr' h' K) none⟩) l
theorem zKO (ok:BO e x):∀ (l:List (U2×List Nat)) (i g:Nat) (ws:List (Nat×Nat)) (rs:RsT) (bs:List (Nat×Nat)) (fr:WB) (h:U0) (K:WB->U0->List (Nat×Nat)->R),
  (zQE P l).run x i g ws rs bs fr h K=(zx P e l i g ws rs bs fr h).bind fun p=>K p.1 p.2.1 p.2.2
 |[],_,_,_,_,_,_,_,_=>rfl
 |(o,un)::l,i,g,ws,rs,bs,fr,h,K=>by
  show (zQr P o).run x g fr ⟨h.n,h.tab,h.n,[]⟩ (fun fr' h'=>
   yR (okF o un ws rs bs fr.tm h') ((zQE P l).run x (Nat.succ i) (yR (Nat.beq (zE o.op) 3) (Nat.succ g) g) (h'.wr.map (fun g=>(i,g))++ws) (match zY fr.tm o with
     |some g=>(i,g,Yd fr.tm h o.op)::rs
     |none=>rs) ((i,h.n)::bs) fr' h' K) none)=_
  rw[zQs ok,zx];show frK (zw P e g o fr {h with mark:=h.n,wr:=[]}) _=_;cases zw P e g o fr {h with mark:=h.n,wr:=[]} with
  |none=>rfl
  |some q=>
   obtain⟨fr',h'⟩:=q;show yR (okF o un ws rs bs fr.tm h') _ none=(bif okC o un ws rs bs fr.tm h' then _ else none).bind _;rw[zTZ,yP];cases okC o un ws rs bs fr.tm h' with
   |false=>rfl
   |true=>simp only[cond_true];rw[zKO ok l,yP];rfl
structure CloX where
 run:ExK->WB->U0->(U9->WB->U0->R)->R
def zUH (l:List (U2×List Nat)):Nat:=(l.filter fun x=>Nat.beq (zE x.1.op) 3).length
def zGX (x:ExK)(b:U1)(n:Nat):U1->WB->U0->(U9->WB->U0->R)->R:=
 @Nat.rec (fun _=>U1->WB->U0->(U9->WB->U0->R)->R) (fun _ _ _ _=>none) (fun _ k c fr h K=>x.exec c fr h fun e fr h=>match e with
  | .goto l=>(match z9 b l with
   |some rest=>k rest fr h K
   |none=>K (.goto l) fr h)
  |e=>K e fr h) n
def exK (x:Option (U9×WB×U0))(K:U9->WB->U0->R):R:=x.bind fun p=>K p.1 p.2.1 p.2.2
theorem zFt (ok:BO e x)(b:U1):∀ (n:Nat) (c:U1) (fr:WB) (h:U0) (K:U9->WB->U0->R),zGX x b n c fr h K=exK (Zp e n b c fr h) K
 |0,_,_,_,_=>rfl
 |n+1,c,fr,h,K=>by
  show x.exec c fr h (fun e fr h=>match e with
   | .goto l=>(match z9 b l with
    |some rest=>zGX x b n rest fr h K
    |none=>K (.goto l) fr h)
   |e=>K e fr h)=_
  rw[ok.exec];simp only[Zp];cases e.exec c fr h with
  |none=>rfl
  |some p=>
   obtain⟨ex,fr1,h1⟩:=p;cases ex with
   |goto l=>
    simp only[QT];cases z9 b l with
    |none=>rfl
    |some rest=>exact zFt ok b n rest fr1 h1 K
   |_=>rfl
def zDw (x:ExK)(f:Value)(params:List Nat)(assign body:U1)(fr:WB)(d:Nat)(mark:List Deferred)(h:U0)(K:U9->WB->U0->R):R:=
 zHI x f [.func (.yield h.n) #[] #[]] (h.push (.loop {state:= .ready,pending:=none,fn:=0,tm:=fr.tm,params,assign,body,defers:=d})) fun _ h2=>
  match h2.get h.n with
  |some (.loop r)=>
   match r.state with
   | .busy=>none
   |_=>match r.pending with
    |none=>K .normal {fr with dfs:=mark++fr.dfs} (h2.set h.n (.loop {r with state:= .exhausted}))
    |some .ret=>K .ret {fr with dfs:=mark++fr.dfs} (h2.set h.n (.loop {r with state:= .exhausted}))
    |some (.exit id)=>K (.exit id) {fr with dfs:=mark++fr.dfs} (h2.set h.n (.loop {r with state:= .exhausted}))
    |some (.goto g)=>K (.goto g) {fr with dfs:=mark++fr.dfs} (h2.set h.n (.loop {r with state:= .exhausted}))
    |some _=>none
  |_=>none
theorem zEs (ok:BO e x)(f:Value)(params:List Nat)(assign body:U1)(fr:WB)(d:Nat)(mark:List Deferred)(h:U0)(K:U9->WB->U0->R):
  zDw x f params assign body fr d mark h K=exK (Yx e f params assign body fr d mark h) K:=by
 unfold zDw Yx;rw[zFh ok];cases zAe e f [.func (.yield h.n) #[] #[]] (h.push (.loop {state:= .ready,pending:=none,fn:=0,tm:=fr.tm,params,assign,body,defers:=d}))with
 |none=>rfl
 |some p=>
  obtain⟨v,h2⟩:=p;simp only[Zo,QT];cases h2.get h.n with
  |none=>rfl
  |some o=>
   cases o with
   |loop r=>
    simp only;cases r.state<;>(simp only;try rfl)<;>(cases r.pending with
     |none=>rfl
     |some c=>cases c<;>rfl)
   |_=>rfl
def zGW (x:ExK)(f:Value)(params:List Nat)(assign body:U1)(fr:WB)(h:U0)(K:U9->WB->U0->R):R:=
 match fr.round with
 |none=>zDw x f params assign body fr h.n [{target:= .collected h.n,args:=#[]}] (h.push (.deferred (some []))) K
 |some l=>match h.get l with
  |some (.loop r)=>zDw x f params assign body fr r.defers [] h K
  |_=>none
theorem zMo (ok:BO e x)(f:Value)(params:List Nat)(assign body:U1)(fr:WB)(h:U0)(K:U9->WB->U0->R):zGW x f params assign body fr h K=exK (zAy e f params assign body fr h) K:=by
 unfold zGW zAy;cases fr.round with
 |none=>exact zEs ok _ _ _ _ _ _ _ _ _
 |some l=>
  simp only;cases h.get l with
  |none=>rfl
  |some o=>
   cases o with
   |loop r=>exact zEs ok _ _ _ _ _ _ _ _ _
   |_=>rfl
def zT1 (P:Program)(c:U1):CloX:=
 match c with
 | .skip=>⟨fun _ fr h K=>K .normal fr h⟩
 | .label _=>⟨fun _ fr h K=>K .normal fr h⟩
 | .region ops=>⟨fun x fr h K=>(zKC P ops).run x fr h fun fr h=>K .normal fr h⟩
 | .regionC ops=>⟨fun x fr h K=>(zQE P ops).run x 0 h.n [] [] [] fr ⟨Nat.add h.n (zUH ops),h.tab,h.mark,h.wr⟩ fun fr' h' ws=>K .normal fr' ⟨h'.n,h'.tab,h.mark,((ws.map (·.2)).filter fun g=> !Nat.ble h.mark g)++h.wr⟩⟩
 | .seq a b=>⟨fun x fr h K=>x.exec a fr h fun e fr h=>match e with
  | .normal=>x.exec b fr h K
  |e=>K e fr h⟩
 | .cond c a b=>⟨fun x fr h K=>zDD ((zr c).ev fr.tm) fun q=>yR q (x.exec a fr h K) (x.exec b fr h K)⟩
 | .block id b=>⟨fun x fr h K=>x.exec b fr h fun e fr h=>match e with
  | .exit id'=>yR (Nat.beq id' id) (K .normal fr h) (K (.exit id') fr h)
  |e=>K e fr h⟩
 | .loop b=>⟨fun x fr h K=>x.exec b fr h fun e fr h=>match e with
  | .normal=>x.exec (.loop b) fr h K
  |e=>K e fr h⟩
 | .exit id=>⟨fun _ fr h K=>K (.exit id) fr h⟩
 | .goto l=>⟨fun _ fr h K=>K (.goto l) fr h⟩
 | .ret=>⟨fun _ fr h K=>K .ret fr h⟩
 | .scope b=>⟨fun x fr h K=>zGX x b zFw b fr h K⟩
 | .rangeFunc f params assign body=>⟨fun x fr h K=>zGW x ((zr f).ev fr.tm) params assign body fr h K⟩
theorem zRC (ok:BO e x)(c:U1)(fr:WB)(h:U0)(K:U9->WB->U0->R):(zT1 P c).run x fr h K=exK (zZ P e c fr h) K:=by
 cases c with
 |region ops=>
  show (zKC P ops).run x fr h (fun fr h=>K .normal fr h)=_;rw[zHX ok];simp only[zZ,frK,exK];cases yV P e ops fr h<;>rfl
 |regionC ops=>
  show (zQE P ops).run x 0 h.n [] [] [] fr ⟨Nat.add h.n (zUH ops),h.tab,h.mark,h.wr⟩ (fun fr' h' ws=>K .normal fr' ⟨h'.n,h'.tab,h.mark,((ws.map (·.2)).filter fun g=> !Nat.ble h.mark g)++h.wr⟩)=_;rw[zKO ok];simp only[zZ,exK,Z6];have:(⟨Nat.add h.n (zUH ops),h.tab,h.mark,h.wr⟩:U0)={h with n:=h.n+(ops.filter fun x=>Nat.beq (zE x.1.op) 3).length}:=rfl;rw[this];cases zx P e ops 0 h.n [] [] [] fr {h with n:=h.n+(ops.filter fun x=>Nat.beq (zE x.1.op) 3).length}<;>rfl
 |seq a b=>
  show x.exec a fr h (fun e fr h=>match e with
   | .normal=>x.exec b fr h K
   |e=>K e fr h)=_
  rw[ok.exec];simp only[zZ,exK];cases e.exec a fr h with
  |none=>rfl
  |some p=>
   obtain⟨ex,fr1,h1⟩:=p;cases ex with
   |normal=>exact ok.exec _ _ _ _
   |_=>rfl
 |cond c a b=>
  show zDD ((zr c).ev fr.tm) (fun q=>yR q (x.exec a fr h K) (x.exec b fr h K))=_;rw[zq];simp only[zZ,exK];cases ev fr.tm c with
  |bool q=>cases q<;>exact ok.exec _ _ _ _
  |_=>rfl
 |block id b=>
  show x.exec b fr h (fun e fr h=>match e with
   | .exit id'=>yR (Nat.beq id' id) (K .normal fr h) (K (.exit id') fr h)
   |e=>K e fr h)=_
  rw[ok.exec];simp only[zZ,exK];cases e.exec b fr h with
  |none=>rfl
  |some p=>
   obtain⟨ex,fr1,h1⟩:=p;cases ex with
   |exit i=>
    simp only[QT];rw[yP];by_cases hi:i=id
    ·subst hi;simp
    ·have:Nat.beq i id=false:=by rw[Bool.eq_false_iff];intro hb;exact hi (QI hb)
     rw[this,QC hi];rfl
   |_=>rfl
 |loop b=>
  show x.exec b fr h (fun e fr h=>match e with
   | .normal=>x.exec (.loop b) fr h K
   |e=>K e fr h)=_
  rw[ok.exec];simp only[zZ,exK];cases e.exec b fr h with
  |none=>rfl
  |some p=>
   obtain⟨ex,fr1,h1⟩:=p;cases ex with
   |normal=>exact ok.exec _ _ _ _
   |_=>rfl
 |scope b=>
  show zGX x b zFw b fr h K=exK (Zp e zFw b b fr h) K;exact zFt ok b zFw b fr h K
 |rangeFunc f ps a b=>
  show zGW x ((zr f).ev fr.tm) ps a b fr h K=_;rw[zq];exact zMo ok _ _ _ _ _ _ _
 |_=>rfl
def zAr (x:ExK)(ds:List Deferred):U0->(U0->R)->R:=
 @List.rec Deferred (fun _=>U0->(U0->R)->R) (fun h K=>K h) (fun d _ k h K=>match d.target with
  | .fn (.func f) cap=>x.call f (d.args.toList++cap.toList) h fun _ h=>k h K
  | .builtin .clear _ _ _=>match d.args.toList with
   |[.map (some g)]=>match h.get g with
    |some (.map _ clock)=>k (h.set g (.map [] clock)) K
    |_=>none
   |_=>none
  | .collected g=>match h.get g with
   |some (.deferred (some []))=>k (h.set g (.deferred none)) K
   |_=>none
  |_=>none) ds
theorem zA4 (ok:BO e x):∀ (ds:List Deferred) (h:U0) (K:U0->R),zAr x ds h K=(yY e ds h).bind K
 |[],_,_=>rfl
 |d::ds,h,K=>by
  obtain⟨tg,as⟩:=d;show (match tg with
   | .fn (.func f) cap=>x.call f (as.toList++cap.toList) h fun _ h=>zAr x ds h K
   | .builtin .clear _ _ _=>match as.toList with
    |[.map (some g)]=>match h.get g with
     |some (.map _ clock)=>zAr x ds (h.set g (.map [] clock)) K
     |_=>none
    |_=>none
   | .collected g=>match h.get g with
    |some (.deferred (some []))=>zAr x ds (h.set g (.deferred none)) K
    |_=>none
   |_=>none)=_
  rw[yY];dsimp only;have mapK:∀ g,(match h.get g with
    |some (.map _ clock)=>zAr x ds (h.set g (.map [] clock)) K
    |_=>none)=(match h.get g with
    |some (.map _ clock)=>yY e ds (h.set g (.map [] clock))
    |_=>none).bind K:=fun g=>by
   cases h.get g with
   |none=>rfl
   |some o=>cases o<;>first|exact zA4 ok ds _ K|rfl
  have defK:∀ g,(match h.get g with
    |some (.deferred (some []))=>zAr x ds (h.set g (.deferred none)) K
    |_=>none)=(match h.get g with
    |some (.deferred (some []))=>yY e ds (h.set g (.deferred none))
    |_=>none).bind K:=fun g=>by
   cases h.get g with
   |none=>rfl
   |some o=>
    cases o with
    |deferred q=>
     cases q with
     |none=>rfl
     |some l=>cases l<;>first|exact zA4 ok ds _ K|rfl
    |_=>rfl
  cases tg with
  |fn f cap=>
   cases f with
   |func f=>
    dsimp only;rw[ok.call];simp only[Zo];cases e.call f (as.toList++cap.toList) h with
    |none=>rfl
    |some p=>exact zA4 ok ds p.2 K
   |_=>rfl
  |builtin b ts ty cs=>
   cases b with
   |clear=>
    dsimp only;generalize as.toList=l;rcases l with _|⟨a,_|⟨b,l⟩⟩
    ·rfl
    ·cases a with
     |map r=>
      cases r with
      |none=>rfl
      |some g=>exact mapK g
     |_=>rfl
    ·cases a with
     |map r=>cases r<;>rfl
     |_=>rfl
   |_=>rfl
  |collected g=>exact defK g
  |_=>rfl
def zOM (l:List Value):Nat->U5 Value->U5 Value:=
 @List.rec Value (fun _=>Nat->U5 Value->U5 Value) (fun _ t=>t) (fun v _ k n t=>k (Nat.succ n) ((Bn 64 n).set t v)) l
theorem zH4:∀ (l:List Value) (k:Nat) (t:U5 Value),zOM l k t=zDg l k t
 |[],_,_=>rfl
 |v::l,k,t=>by
  show zOM l (k+1) ((Bn 64 k).set t v)=_;rw[zH4 l,(zGs 64 k).2];rfl
def zUi (h:U0)(t:U5 Value)(r:Nat×Option (Bool×Nat)):Option Value:=
 match r with
 |(k,none)=>some ((zr (.tmp k)).ev t)
 |(k,some (agg,n))=>match (zr (.tmp k)).ev t with
  | .pointer (some a)=>yR a.spot.isNone (match zIL h a.block with
   |some (.row cells _ _)=>(zG7 cells a.off n).bind (zH agg)
   |_=>none) none
  |_=>none
theorem zQT (h:U0)(t:U5 Value)(r:Nat×Option (Bool×Nat)):zUi h t r=Ya h t r:=by
 obtain⟨k,o⟩:=r;cases o with
 |none=>show some ((zr (.tmp k)).ev t)=some (zB t k);rw[zq];rfl
 |some q=>
  obtain⟨agg,n⟩:=q;show (match (zr (.tmp k)).ev t with
   | .pointer (some a)=>yR a.spot.isNone (match zIL h a.block with
    |some (.row cells _ _)=>(zG7 cells a.off n).bind (zH agg)
    |_=>none) none
   |_=>none)=(match zB t k with
   | .pointer (some a)=>bif a.spot.isNone then ((yD h a.block).bind fun cells=>cut cells a.off n).bind (zH agg) else none
   |_=>none)
  rw[zq];have e2:ev t (.tmp k)=zB t k:=rfl;rw[e2];cases zB t k with
  |pointer p=>
   cases p with
   |none=>rfl
   |some a=>
    dsimp only;rw[yP,zEr];unfold yD;cases a.spot.isNone with
    |false=>rfl
    |true=>
     cases h.get a.block with
     |none=>rfl
     |some o=>cases o<;>first|(simp only[zDy];rfl)|rfl
  |_=>rfl
def zNy (h:U0)(t:U5 Value)(l:List (Nat×Option (Bool×Nat))):Option (List Value):=
 @List.rec (Nat×Option (Bool×Nat)) (fun _=>Option (List Value)) (some []) (fun r _ q=> @Option.rec Value (fun _=>Option (List Value)) none (fun v=> @Option.rec (List Value) (fun _=>Option (List Value)) none (fun vs=>some (v::vs)) q) (zUi h t r)) l
theorem zHx (h:U0)(t:U5 Value):∀ l,zNy h t l=yA h t l
 |[]=>rfl
 |r::l=>by
  show @Option.rec Value (fun _=>Option (List Value)) none (fun v=> @Option.rec (List Value) (fun _=>Option (List Value)) none (fun vs=>some (v::vs)) (zNy h t l)) (zUi h t r)=_;rw[zQT,zHx h t l,yA];cases Ya h t r with
  |none=>rfl
  |some v=>cases yA h t l<;>rfl
def zKL (tab:Wg)(x:ExK)(f:FuncId)(args:List Value)(h:U0)(K:Value->U0->R):R:=
 match tab.stub f with
 |some s=>Zo (s args h) K
 |none=>Zm (tab.code f) fun fn=>x.exec fn.body ⟨zOM args 0 .leaf,[],none⟩ h fun e fr h=>
   yR (match e with| .normal| .ret=>true|_=>false) (zAr x fr.dfs h fun h=>Zm (zNy h fr.tm fn.results) fun vs=>K (one vs) h) none
theorem zOh (ok:BO e x)(tab:Wg)(f:FuncId)(args:List Value)(h:U0)(K:Value->U0->R):zKL tab x f args h K=Zo (zA7 P tab e f args h) K:=by
 unfold zKL zA7;cases tab.stub f with
 |some s=>rfl
 |none=>
  simp only;rw[ZE];unfold zCf;cases tab.code f with
  |none=>rfl
  |some fn=>
   simp only[QT];rw[ok.exec,zH4];cases e.exec fn.body ⟨zDg args 0 .leaf,[],none⟩ h with
   |none=>rfl
   |some p=>
    obtain⟨ex,fr,h1⟩:=p;simp only[QT,yP,zA4 ok,ZE,zHx];cases ex<;>simp only[cond_true,QR,Zo,Option.bind_none];all_goals
     cases yY e fr.dfs h1 with
     |none=>rfl
     |some h2=>
      simp only[QT];cases yA h2 fr.tm fn.results<;>rfl
def zJy (P:Program)(tab:Wg)(n:Nat):ExK:=
 @Nat.rec (fun _=>ExK) ⟨fun _ _ _ _=>none,fun _ _ _ _=>none⟩ (fun _ x=>⟨fun c fr h K=>(zT1 P c).run x fr h K,fun f args h K=>zKL tab x f args h K⟩) n
theorem zLu (P:Program)(tab:Wg)(n:Nat):zJy P tab (n+1)=⟨fun c fr h K=>(zT1 P c).run (zJy P tab n) fr h K,fun f args h K=>zKL tab (zJy P tab n) f args h K⟩:=rfl
theorem zKt (P:Program)(tab:Wg)(n:Nat):BO (Wv P tab n) (zJy P tab n):=by
 induction n with
 |zero=>exact⟨fun _ _ _ _=>rfl,fun _ _ _ _=>rfl⟩
 |succ n ih=>
  rw[zLu];refine⟨fun c fr h K=> ?_,fun f args h K=> ?_⟩
  ·have:=zRC ih c fr h K (P:=P);exact this
  ·have:=zOh (P:=P) ih tab f args h K;exact this
theorem zM4 {P:Program}{tab:Wg}{n:Nat}{f:FuncId}{args:List Value}{h:U0}{v:Value}(hx:(zJy P tab n).call f args h (fun v _=>some v)=some v):
  ((Wv P tab n).call f args h).map (·.1)=some v:=by
 have e:=(zKt P tab n).call f args h fun v _=>some v;rw[hx]at e;cases hc:(Wv P tab n).call f args h with
 |none=>rw[hc]at e;cases e
 |some p=>rw[hc]at e;exact e.symm
end
end
end Go.Am
