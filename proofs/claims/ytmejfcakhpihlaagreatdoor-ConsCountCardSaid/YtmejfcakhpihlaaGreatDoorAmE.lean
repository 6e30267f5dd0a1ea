/- A part of the abstract machine for the model's programs and of the proof that what it yields the model's call yields (definitions, operations, runs, regions that draw their order); no statement of the seat is proved in this text. -/
import Derived.Test.YtmejfcakhpihlaaGreatDoorAmD
set_option linter.unusedVariables false
set_option linter.unusedSimpArgs false
namespace Go.Am
noncomputable section
def yM {α:Type}(b:Bool)(x y:α):α:= @Bool.rec (fun _=>α) y x b
theorem yK {α:Type}(b:Bool)(x y:α):yM b x y=bif b then x else y:=by cases b<;>rfl
def U4.getF {α:Type}(t:U4 α):Nat->Option α:=
 @U4.rec α (fun _=>Nat->Option α) (fun _=>none) (fun v _ _ gl gr k=> @Bool.rec (fun _=>Option α) (@Bool.rec (fun _=>Option α) (gr (Nat.pred (Nat.div k (nat_lit 2)))) (gl (Nat.div k (nat_lit 2))) (Nat.beq (Nat.mod k (nat_lit 2)) (nat_lit 1))) v (Nat.beq k (nat_lit 0))) t
theorem zG7 {α:Type}:∀ (t:U4 α) (k:Nat),t.getF k=t.get k
 | .leaf,_=>rfl
 | .node v l r,k=>by
  show yM (Nat.beq k 0) v (yM (Nat.beq (k % 2) 1) (l.getF (k / 2)) (r.getF (k / 2 - 1)))=_;rw[yK,yK,zG7 l,zG7 r];rfl
def zKo {α:Type}(v:Option α)(f:Nat):Nat->U4 α:=
 @Nat.rec (fun _=>Nat->U4 α) (fun _=> .leaf) (fun _ p k=> @Bool.rec (fun _=>U4 α) (@Bool.rec (fun _=>U4 α) (.node none .leaf (p (Nat.pred (Nat.div k (nat_lit 2))))) (.node none (p (Nat.div k (nat_lit 2))) .leaf) (Nat.beq (Nat.mod k (nat_lit 2)) (nat_lit 1))) (.node v .leaf .leaf) (Nat.beq k (nat_lit 0))) f
theorem zEe {α:Type}(v:Option α):∀ (f k:Nat),zKo v f k=U4.put v f k .leaf
 |0,_=>rfl
 |f+1,k=>by
  show yM (Nat.beq k 0) _ (yM (Nat.beq (k % 2) 1) (U4.node none (zKo v f (k / 2)) .leaf) (.node none .leaf (zKo v f (k / 2 - 1))))=_;rw[yK,yK,zEe v f,zEe v f];rfl
def U4.putF {α:Type}(v:Option α)(t:U4 α):Nat->U4 α:=
 @U4.rec α (fun _=>Nat->U4 α) (fun k=>zKo v (Nat.succ k) k)
  (fun u l r pl pr k=> @Bool.rec (fun _=>U4 α) (@Bool.rec (fun _=>U4 α) (.node u l (pr (Nat.pred (Nat.div k (nat_lit 2))))) (.node u (pl (Nat.div k (nat_lit 2))) r) (Nat.beq (Nat.mod k (nat_lit 2)) (nat_lit 1))) (.node v l r) (Nat.beq k (nat_lit 0))) t
theorem zAa {α:Type}(v:Option α):∀ (f g k:Nat) (t:U4 α),k<f->k<g->U4.put v f k t=U4.put v g k t:=by
 intro f;induction f with
 |zero=>intro g k t h;omega
 |succ f ih=>
  intro g k t h1 h2;obtain⟨g,rfl⟩:∃ g',g=g'+1:=⟨g - 1,by omega⟩;have hb:∀ a b:Nat,Nat.beq a b=decide (a=b):=fun a b=>by rw[GN];simp
  cases t with
  |leaf=>
   simp only[U4.put,hb];by_cases hk:k=0
   ·simp[hk]
   ·simp only[hk,decide_false,QR];rw[ih g (k / 2) _ (by omega) (by omega),ih g (k / 2 - 1) _ (by omega) (by omega)]
  |node u l r=>
   simp only[U4.put,hb];by_cases hk:k=0
   ·simp[hk]
   ·simp only[hk,decide_false,QR];rw[ih g (k / 2) _ (by omega) (by omega),ih g (k / 2 - 1) _ (by omega) (by omega)]
theorem zDu {α:Type}(v:Option α):∀ (t:U4 α) (k:Nat),t.putF v k=U4.put v (k+1) k t
 | .leaf,k=>zEe v (k+1) k
 | .node u l r,k=>by
  show yM (Nat.beq k 0) (U4.node v l r) (yM (Nat.beq (k % 2) 1) (.node u (l.putF v (k / 2)) r) (.node u l (r.putF v (k / 2 - 1))))=_;rw[yK,yK,zDu v l,zDu v r];have hb:∀ a b:Nat,Nat.beq a b=decide (a=b):=fun a b=>by rw[GN];simp
  simp only[U4.put,hb];by_cases hk:k=0
  ·simp[hk]
  ·simp only[hk,decide_false,QR];rw[zAa v (k / 2+1) k (k / 2) l (by omega) (by omega),zAa v (k / 2 - 1+1) k (k / 2 - 1) r (by omega) (by omega)]
theorem zH2 (k:Nat)(v:Value)(hk:¬k=0):(U4.leaf:U4 Value).set k v=yM (Nat.beq (k % 2) 1) (.node none (U4.leaf.set (k / 2) v) .leaf) (.node none .leaf (U4.leaf.set (k / 2 - 1) v)):=by
 have h0:Nat.beq k 0=false:=by cases hb:Nat.beq k 0 with
  |false=>rfl
  |true=>exact absurd (QI hb) hk
 have e:(U4.leaf:U4 Value).set k v=bif Nat.beq k 0 then U4.node (some v) .leaf .leaf else bif Nat.beq (k % 2) 1 then .node none (U4.put (some v) k (k / 2) .leaf) .leaf else .node none .leaf (U4.put (some v) k (k / 2 - 1) .leaf):=rfl;rw[e,h0,yK,QR,zAa _ k (k / 2+1) (k / 2) _ (by omega) (by omega),zAa _ k (k / 2 - 1+1) (k / 2 - 1) _ (by omega) (by omega)];rfl
theorem zHm (k:Nat)(v:Value)(u:Option Value)(l r:U4 Value)(hk:¬k=0):(U4.node u l r).set k v=yM (Nat.beq (k % 2) 1) (.node u (l.set (k / 2) v) r) (.node u l (r.set (k / 2 - 1) v)):=by
 have h0:Nat.beq k 0=false:=by cases hb:Nat.beq k 0 with
  |false=>rfl
  |true=>exact absurd (QI hb) hk
 have e:(U4.node u l r).set k v=bif Nat.beq k 0 then U4.node (some v) l r else bif Nat.beq (k % 2) 1 then .node u (U4.put (some v) k (k / 2) l) r else .node u l (U4.put (some v) k (k / 2 - 1) r):=rfl;rw[e,h0,yK,QR,zAa _ k (k / 2+1) (k / 2) _ (by omega) (by omega),zAa _ k (k / 2 - 1+1) (k / 2 - 1) _ (by omega) (by omega)];rfl
structure CloG where
 get:U4 Value->Option Value
 set:U4 Value->Value->U4 Value
def Bh (f:Nat):Nat->CloG:=
 @Nat.rec (fun _=>Nat->CloG) (fun k=>⟨fun t=>t.get k,fun t v=>U4.put (some v) (k+1) k t⟩)
  (fun _ p k=> @Bool.rec (fun _=>CloG) (@Bool.rec (fun _=>CloG)
   ⟨fun t=>(p (Nat.pred (Nat.div k (nat_lit 2)))).get (@U4.rec Value (fun _=>U4 Value) .leaf (fun _ _ r _ _=>r) t),fun t v=> @U4.rec Value (fun _=>U4 Value) (.node none .leaf ((p (Nat.pred (Nat.div k (nat_lit 2)))).set .leaf v)) (fun u l r _ _=> .node u l ((p (Nat.pred (Nat.div k (nat_lit 2)))).set r v)) t⟩
   ⟨fun t=>(p (Nat.div k (nat_lit 2))).get (@U4.rec Value (fun _=>U4 Value) .leaf (fun _ l _ _ _=>l) t),fun t v=> @U4.rec Value (fun _=>U4 Value) (.node none ((p (Nat.div k (nat_lit 2))).set .leaf v) .leaf) (fun u l r _ _=> .node u ((p (Nat.div k (nat_lit 2))).set l v) r) t⟩
   (Nat.beq (Nat.mod k (nat_lit 2)) (nat_lit 1)))
   ⟨fun t=> @U4.rec Value (fun _=>Option Value) none (fun v _ _ _ _=>v) t,fun t v=> @U4.rec Value (fun _=>U4 Value) (.node (some v) .leaf .leaf) (fun _ l r _ _=> .node (some v) l r) t⟩
   (Nat.beq k (nat_lit 0))) f
theorem zG1:∀ (f k:Nat),(∀ t,(Bh f k).get t=t.get k)/\∀ t v,(Bh f k).set t v=t.set k v:=by
 intro f;induction f with
 |zero=>intro k;exact⟨fun _=>rfl,fun _ _=>rfl⟩
 |succ f ih=>
  intro k;have hb:∀ a b:Nat,Nat.beq a b=decide (a=b):=fun a b=>by rw[GN];simp
  have step:Bh (f+1) k=yM (Nat.beq k 0) ⟨fun t=> @U4.rec Value (fun _=>Option Value) none (fun v _ _ _ _=>v) t,fun t v=> @U4.rec Value (fun _=>U4 Value) (.node (some v) .leaf .leaf) (fun _ l r _ _=> .node (some v) l r) t⟩
   (yM (Nat.beq (k % 2) 1) ⟨fun t=>(Bh f (k / 2)).get (@U4.rec Value (fun _=>U4 Value) .leaf (fun _ l _ _ _=>l) t),fun t v=> @U4.rec Value (fun _=>U4 Value) (.node none ((Bh f (k / 2)).set .leaf v) .leaf) (fun u l r _ _=> .node u ((Bh f (k / 2)).set l v) r) t⟩
    ⟨fun t=>(Bh f (k / 2 - 1)).get (@U4.rec Value (fun _=>U4 Value) .leaf (fun _ _ r _ _=>r) t),fun t v=> @U4.rec Value (fun _=>U4 Value) (.node none .leaf ((Bh f (k / 2 - 1)).set .leaf v)) (fun u l r _ _=> .node u l ((Bh f (k / 2 - 1)).set r v)) t⟩):=rfl
  rw[step];by_cases hk:k=0
  ·subst hk;exact⟨fun t=>by cases t<;>rfl,fun t v=>by cases t<;>rfl⟩
  ·have h0:Nat.beq k 0=false:=by rw[hb];simp[hk]
   rw[h0];by_cases ho:k % 2=1
   ·have h1:Nat.beq (k % 2) 1=true:=by rw[hb];simp[ho]
    rw[h1];refine⟨fun t=> ?_,fun t v=> ?_⟩
    ·show (Bh f (k / 2)).get _=_;rw[(ih _).1];cases t with
     |leaf=>rfl
     |node u l r=>simp only[U4.get,h0,h1,cond_true,QR]
    ·cases t with
     |leaf=>
      show U4.node none ((Bh f (k / 2)).set .leaf v) .leaf=_;rw[(ih _).2,zH2 k v hk,h1];rfl
     |node u l r=>
      show U4.node u ((Bh f (k / 2)).set l v) r=_;rw[(ih _).2,zHm k v u l r hk,h1];rfl
   ·have h1:Nat.beq (k % 2) 1=false:=by rw[hb];simp[ho]
    rw[h1];refine⟨fun t=> ?_,fun t v=> ?_⟩
    ·show (Bh f (k / 2 - 1)).get _=_;rw[(ih _).1];cases t with
     |leaf=>rfl
     |node u l r=>simp only[U4.get,h0,h1,cond_true,QR]
    ·cases t with
     |leaf=>
      show U4.node none .leaf ((Bh f (k / 2 - 1)).set .leaf v)=_;rw[(ih _).2,zH2 k v hk,h1];rfl
     |node u l r=>
      show U4.node u l ((Bh f (k / 2 - 1)).set r v)=_;rw[(ih _).2,zHm k v u l r hk,h1];rfl
structure CloE where
 ev:U4 Value->Value
def zo (x:Operand):CloE:=
 match x with
 | .tmp k=>⟨fun t=> @Option.rec Value (fun _=>Value) undef (fun v=>v) ((Bh 64 k).get t)⟩
 | .const v=>⟨fun _=>v⟩
 | .global g=>⟨fun _=> .pointer (some ⟨g,0,none⟩)⟩
 | .func f=>⟨fun _=> .func (.func f) #[] #[]⟩
theorem zj (x:Operand)(t:U4 Value):(zo x).ev t=ev t x:=by
 cases x with
 |tmp k=>
  show @Option.rec Value (fun _=>Value) undef (fun v=>v) ((Bh 64 k).get t)=(t.get k).getD undef;rw[(zG1 64 k).1];cases t.get k<;>rfl
 |_=>rfl
def zHx (h:Uz)(g:Nat):Option Wa:=h.tab.getF g
theorem zEH (h:Uz)(g:Nat):zHx h g=h.get g:=zG7 _ _
def zDD (h:Uz)(o:Wa):Uz:=⟨Nat.succ h.n,h.tab.putF (some o) h.n,h.mark,h.wr⟩
theorem zED (h:Uz)(o:Wa):zDD h o=h.push o:=by unfold zDD Uz.push U4.set;rw[zDu]
def zON (h:Uz)(g:Nat)(o:Wa):Uz:=⟨h.n,h.tab.putF (some o) g,h.mark,h.log g⟩
theorem zNY (h:Uz)(g:Nat)(o:Wa):zON h g o=h.set g o:=by unfold zON Uz.set U4.set;rw[zDu]
abbrev R:=Option Value
def Zm (x:Option (Value×Uz))(K:Value->Uz->R):R:=x.bind fun p=>K p.1 p.2
structure ExK where
 exec:U0->WA->Uz->(U8->WA->Uz->R)->R
 call:FuncId->List Value->Uz->(Value->Uz->R)->R
structure BM (e:Ex)(x:ExK):Prop where
 exec:∀ c fr h K,x.exec c fr h K=(e.exec c fr h).bind fun p=>K p.1 p.2.1 p.2.2
 call:∀ f args h K,x.call f args h K=Zm (e.call f args h) K
def zGj (v:Value)(k:Addr->R):R:=match v with
 | .pointer (some a)=>k a
 |_=>none
def Zg {α:Type}(x:Option α)(k:α->R):R:= @Option.rec α (fun _=>R) none k x
theorem ZE {α:Type}(x:Option α)(k:α->R):Zg x k=x.bind k:=by cases x<;>rfl
def zJZ (h:Uz)(g:Nat)(k:List Value->R):R:=Zg (zHx h g) fun o=>match o with
 | .row cells _ _=>k cells
 |_=>none
theorem zKe (h:Uz)(g:Nat)(k:List Value->R):zJZ h g k=(z8 h g).bind k:=by
 unfold zJZ z8;rw[ZE,zEH];cases h.get g with
 |none=>rfl
 |some o=>cases o<;>rfl
def zP9 (v:Value)(k:IntKind->Int->R):R:=match v with
 | .int kk n=>k kk n
 |_=>none
def zUH (v:Value)(k:Nat->R):R:=match v with
 | .int _ (.ofNat n)=>k n
 |_=>none
theorem zQt (v:Value)(k:Nat->R):zUH v k=(W4 v).bind k:=by
 cases v with
 |int kk n=>cases n<;>rfl
 |_=>rfl
def zDT (k:IntKind):Nat:= @IntKind.rec (fun _=>Nat) (nat_lit 0) (nat_lit 1) (nat_lit 2) (nat_lit 3) (nat_lit 4) (nat_lit 5) (nat_lit 6) (nat_lit 7) k
theorem zPT (k k':IntKind):Nat.beq (zDT k) (zDT k')=decide (k=k'):=by cases k<;>cases k'<;>rfl
def zCt (k:IntKind)(n:Int):Int:=match n with
 | .ofNat m=>yM (Nat.ble m (nat_lit 127)) (.ofNat m) (yM (Nat.beq (zDT k) (nat_lit 3)) (yM (Nat.ble m (nat_lit 9223372036854775807)) (.ofNat m) (k.wrap (.ofNat m))) (k.wrap (.ofNat m)))
 |n=>k.wrap n
theorem zBM (k:IntKind)(n:Int):zCt k n=k.wrap n:=by
 unfold zCt;cases n with
 |negSucc m=>rfl
 |ofNat m=>
  simp only[yK];cases h1:Nat.ble m 127 with
  |true=>
   have:m<=127:=QN h1;simp only[cond_true];have e:(Int.ofNat m:Int)=(m:Int):=rfl;rw[e];cases k<;>simp[IntKind.wrap,IntKind.signed,IntKind.bits]<;>omega
  |false=>
   simp only[QR];cases h2:Nat.beq (zDT k) 3 with
   |false=>rfl
   |true=>
    simp only[cond_true];have hk:k= .i64:=by cases k<;>first|rfl|cases h2
    subst hk;cases h3:Nat.ble m 9223372036854775807 with
    |false=>rfl
    |true=>
     have:m<=9223372036854775807:=QN h3;simp only[cond_true];have e:(Int.ofNat m:Int)=(m:Int):=rfl;rw[e];simp[IntKind.wrap,IntKind.signed,IntKind.bits];omega
def ltF (a b:Int):Bool:=match a,b with
 | .ofNat m,.ofNat n=>Nat.ble (Nat.succ m) n
 | .negSucc _,.ofNat _=>true
 | .ofNat _,.negSucc _=>false
 | .negSucc m,.negSucc n=>Nat.ble (Nat.succ n) m
theorem zE2 (a b:Int):ltF a b=decide (a<b):=by
 have hb:∀ a b:Nat,Nat.ble a b=decide (a<=b):=fun a b=>by rw[GN];simp
 have e1:∀ n:Nat,Int.ofNat n=(n:Int):=fun _=>rfl;have e2:∀ n:Nat,Int.negSucc n= -((n:Int)+1):=fun n=>by omega
 cases a<;>cases b<;>simp only[ltF,hb]<;>rw[GN]<;>simp only[QX,Qn,true_iff,JE,e1,e2]<;>omega
def eqF (a b:Int):Bool:=match a,b with
 | .ofNat m,.ofNat n=>Nat.beq m n
 | .negSucc m,.negSucc n=>Nat.beq m n
 |_,_=>false
theorem zHE (a b:Int):eqF a b=decide (a=b):=by
 have hb:∀ a b:Nat,Nat.beq a b=decide (a=b):=fun a b=>by rw[GN];simp
 have e1:∀ n:Nat,Int.ofNat n=(n:Int):=fun _=>rfl;have e2:∀ n:Nat,Int.negSucc n= -((n:Int)+1):=fun n=>by omega
 cases a<;>cases b<;>simp only[eqF,hb]<;>rw[GN]<;>simp only[QX,Qn,true_iff,JE,e1,e2]<;>omega
def zE7 (x y:Value)(k:IntKind->Int->Int->R):R:=zP9 x fun kk a=>zP9 y fun kk' b=>yM (Nat.beq (zDT kk) (zDT kk')) (k kk a b) none
structure CloB where
 run:Value->Value->(Value->R)->R
def zUM (op:BinOp):CloB:=
 match op with
 | .add=>⟨fun x y k=>zE7 x y fun kk a b=>k (.int kk (zCt kk (Int.add a b)))⟩
 | .sub=>⟨fun x y k=>zE7 x y fun kk a b=>k (.int kk (zCt kk (Int.sub a b)))⟩
 | .eql=>⟨fun x y k=>zE7 x y fun _ a b=>k (.bool (eqF a b))⟩
 | .neq=>⟨fun x y k=>zE7 x y fun _ a b=>k (.bool (!eqF a b))⟩
 | .lss=>⟨fun x y k=>zE7 x y fun _ a b=>k (.bool (ltF a b))⟩
 | .gtr=>⟨fun x y k=>zE7 x y fun _ a b=>k (.bool (ltF b a))⟩
 | .leq=>⟨fun x y k=>zE7 x y fun _ a b=>k (.bool (!ltF b a))⟩
 | .geq=>⟨fun x y k=>zE7 x y fun _ a b=>k (.bool (!ltF a b))⟩
 |op=>⟨fun x y k=>Zg (yG op x y) k⟩
theorem zQq (x y:Value)(k:IntKind->Int->Int->R):zE7 x y k=match x,y with
  | .int kk a,.int kk' b=>if kk=kk' then k kk a b else none
  |_,_=>none:=by
 cases x with
 |int kk a=>
  cases y with
  |int kk' b=>
   show yM (Nat.beq (zDT kk) (zDT kk')) (k kk a b) none=if kk=kk' then k kk a b else none;rw[yK,zPT];by_cases e:kk=kk'
   ·subst e;simp
   ·simp[e]
  |_=>rfl
 |_=>rfl
theorem zGd (a b:Int):(!ltF b a)=decide (a<=b):=by
 rw[zE2,GN];simp
theorem zRZ (op:BinOp)(x y:Value)(k:Value->R):(zUM op).run x y k=(yG op x y).bind k:=by
 have two:∀ {f:IntKind->Int->Int->Value} {g:Option Value},(g=match x,y with
   | .int kk a,.int kk' b=>if kk=kk' then some (f kk a b) else none
   |_,_=>none)->(zE7 x y fun kk a b=>k (f kk a b))=g.bind k:=by
  intro f g hg;rw[zQq,hg];split
  ·split<;>rfl
  ·rfl
 cases op with
 |add=>refine two (f:=fun kk a b=> .int kk (zCt kk (Int.add a b))) ?_;cases x<;>cases y<;>first|rfl|(simp only[yG,zBM];done)|(simp only[yG,zBM];rfl)
 |sub=>refine two (f:=fun kk a b=> .int kk (zCt kk (Int.sub a b))) ?_;cases x<;>cases y<;>first|rfl|(simp only[yG,zBM];done)|(simp only[yG,zBM];rfl)
 |eql=>refine two (f:=fun kk a b=> .bool (eqF a b)) ?_;cases x<;>cases y<;>first|rfl|(simp only[yG,zHE];done)|(simp only[yG,zHE];rfl)
 |neq=>refine two (f:=fun kk a b=> .bool (!eqF a b)) ?_;cases x<;>cases y<;>first|rfl|(simp only[yG,zHE];done)|(simp only[yG,zHE];rfl)
 |lss=>refine two (f:=fun kk a b=> .bool (ltF a b)) ?_;cases x<;>cases y<;>first|rfl|(simp only[yG,zE2];done)|(simp only[yG,zE2];rfl)
 |gtr=>refine two (f:=fun kk a b=> .bool (ltF b a)) ?_;cases x<;>cases y<;>first|rfl|(simp only[yG,zE2];done)|(simp only[yG,zE2];rfl)
 |leq=>refine two (f:=fun kk a b=> .bool (!ltF b a)) ?_;cases x<;>cases y<;>first|rfl|(simp only[yG,zGd];done)|(simp only[yG,zGd];rfl)
 |geq=>refine two (f:=fun kk a b=> .bool (!ltF a b)) ?_;cases x<;>cases y<;>first|rfl|(simp only[yG,zGd,ge_iff_le];done)|(simp only[yG,zGd,ge_iff_le];rfl)
 |_=>exact ZE _ _
def zLm (l:List Value):Nat->Option Value:=
 @List.rec Value (fun _=>Nat->Option Value) (fun _=>none) (fun v _ g n=> @Nat.rec (fun _=>Option Value) (some v) (fun m _=>g m) n) l
theorem zGI:∀ (l:List Value) (n:Nat),zLm l n=l[n]?
 |[],_=>rfl
 |v::l,0=>rfl
 |v::l,n+1=>by
  show zLm l n=_;rw[zGI l n];simp
theorem zOv (l:List Value)(n:Nat):(cut l n 1).bind (zH false)=l[n]?:=by
 unfold cut;cases hb:Nat.ble (n+1) l.length with
 |true=>
  have hn:n<l.length:=QN hb;have e:(l.drop n).take 1=[l[n]]:=by rw[GH hn];rfl
  rw[cond_true,QS,e,QD hn];rfl
 |false=>
  have hn:¬n<l.length:=fun e=>by
   have:Nat.ble (n+1) l.length=true:=QH e;rw[this]at hb;cases hb
  simp[hn]
def zFX (l:List Value):Nat->Option (List Value):=
 @List.rec Value (fun _=>Nat->Option (List Value)) (fun n=> @Nat.rec (fun _=>Option (List Value)) (some []) (fun _ _=>none) n)
  (fun v _ g n=> @Nat.rec (fun _=>Option (List Value)) (some []) (fun m _=> @Option.rec (List Value) (fun _=>Option (List Value)) none (fun r=>some (v::r)) (g m)) n) l
def zGT (l:List Value):Nat->Nat->Option (List Value):=
 @List.rec Value (fun _=>Nat->Nat->Option (List Value)) (fun off n=> @Nat.rec (fun _=>Option (List Value)) (zFX [] n) (fun _ _=>none) off)
  (fun v r g off n=> @Nat.rec (fun _=>Option (List Value)) (zFX (v::r) n) (fun m _=>g m n) off) l
theorem zEn:∀ (l:List Value) (n:Nat),zFX l n=bif Nat.ble n l.length then some (l.take n) else none
 |[],0=>rfl
 |[],n+1=>rfl
 |v::l,0=>rfl
 |v::l,n+1=>by
  show @Option.rec (List Value) (fun _=>Option (List Value)) none (fun r=>some (v::r)) (zFX l n)=_;rw[zEn l n];have:Nat.ble (n+1) (v::l).length=Nat.ble n l.length:=rfl;rw[this];cases Nat.ble n l.length<;>rfl
theorem zDi:∀ (l:List Value) (off n:Nat),zGT l off n=cut l off n
 |[],0,n=>by
  show zFX [] n=_;rw[zEn];unfold cut;rw[Q4];rfl
 |[],off+1,n=>by
  show none=cut [] (off+1) n;unfold cut;have:Nat.ble (off+1+n) ([]:List Value).length=false:=by
   rw[show off+1+n=(off+n)+1 by omega];rfl
  rw[this];rfl
 |v::l,0,n=>by
  show zFX (v::l) n=_;rw[zEn];unfold cut;rw[Q4];rfl
 |v::l,off+1,n=>by
  show zGT l off n=_;rw[zDi l off n];unfold cut;have:Nat.ble (off+1+n) (v::l).length=Nat.ble (off+n) l.length:=by
   rw[show off+1+n=(off+n)+1 by omega];rfl
  rw[this];rfl
def zGO (v:Value)(l:List Value):Nat->Option (List Value):=
 @List.rec Value (fun _=>Nat->Option (List Value)) (fun _=>none) (fun u r g n=> @Nat.rec (fun _=>Option (List Value)) (some (v::r)) (fun m _=> @Option.rec (List Value) (fun _=>Option (List Value)) none (fun r=>some (u::r)) (g m)) n) l
theorem zFM (v:Value):∀ (l:List Value) (n:Nat),zGO v l n=bif Nat.ble (n+1) l.length then some (za l n [v]) else none
 |[],n=>by
  have:Nat.ble (n+1) ([]:List Value).length=false:=rfl;rw[this];rfl
 |u::r,0=>rfl
 |u::r,n+1=>by
  show @Option.rec (List Value) (fun _=>Option (List Value)) none (fun r=>some (u::r)) (zGO v r n)=_;rw[zFM v r n];have:Nat.ble (n+1+1) (u::r).length=Nat.ble (n+1) r.length:=rfl;rw[this];cases Nat.ble (n+1) r.length<;>simp[za]
structure CloV where
 run:ExK->U4 Value->Uz->(Value->Uz->R)->R
def zDF (v:Value)(k:Bool->R):R:=match v with
 | .bool b=>k b
 |_=>none
def zCv (h:Uz)(a:Addr)(v:Value)(K:Uz->R):R:=
 yM a.spot.isNone (Zg (zHx h a.block) fun o=>match o with
  | .row cells true lo=>yM (Nat.ble lo a.off) (match v with
   | .agg _=>none
   | .tuple _=>none
   |v=>Zg (zGO v cells a.off) fun cells=>K (zON h a.block (.row cells true lo))) none
  |_=>none) none
theorem zJo (h:Uz)(a:Addr)(v:Value)(hv:v.cells.size=1)(hn:∀ cs,v≠ .agg cs)(K:Uz->R):zCv h a v K=(zc h a v.cells.toList).bind K:=by
 have hc:v.cells.toList=[v]:=by cases v<;>first|rfl|exact absurd rfl (hn _)
 unfold zCv zc;rw[hc,yK,ZE,zEH];cases hs:a.spot.isNone with
 |false=>
  simp only[QR];split
  ·simp
  ·rfl
 |true=>
  simp only[cond_true];cases h.get a.block with
  |none=>rfl
  |some o=>
   cases o with
   |row cells own lo=>
    cases own with
    |false=>rfl
    |true=>
     show yM (Nat.ble lo a.off) _ none=_;rw[yK];have h1:∀ K':List Value->R,(Zg (zGO v cells a.off) K')=(bif Nat.ble (a.off+1) cells.length then some (za cells a.off [v]) else none).bind K':=fun K'=>by rw[ZE,zFM]
     cases h2:Nat.ble lo a.off with
     |false=>simp[h2]
     |true=>
      simp only[h2,cond_true,Qh,Qa];cases v<;>first
       |(exact absurd rfl (hn _))
       |(simp only[h1,zNY];cases Nat.ble (a.off+1) cells.length<;>simp[zJ])
   |_=>rfl
def zGK (x:ExK)(l:Nat)(r:Wm)(args:List Value)(h:Uz)(K:Value->Uz->R):R:=
 x.exec r.assign ⟨zBf r.params args r.tm,[],some l⟩ h fun e fr h1=>match e with
  | .normal=>(match h1.get l with
   |some (.loop r1)=>
    bif (match r1.state with| .ready=>true|_=>false) then
     x.exec r.body fr (h1.set l (.loop {r1 with state:= .busy})) fun e fr2 h2=>match fr2.dfs,h2.get l with
      |[],some (.loop r2)=>K (ZR l r2 h2 e).1 (ZR l r2 h2 e).2
      |_,_=>none
    else none
   |_=>none)
  |_=>none
def zGP (x:ExK)(f:Value)(args:List Value)(h:Uz)(K:Value->Uz->R):R:=
 match f with
 | .func (.func f) first cap=>x.call f (first.toList++(args++cap.toList)) h K
 | .func (.yield l) _ _=>
  match h.get l with
  |some (.loop r)=>bif Nat.beq args.length r.params.length then zGK x l r args h K else none
  |_=>none
 |_=>none
section
variable {P:Program}{e:Ex}{x:ExK}
theorem zL9 (ok:BM e x)(l:Nat)(r:Wm)(args:List Value)(h:Uz)(K:Value->Uz->R):zGK x l r args h K=Zm (zAl e l r args h) K:=by
 unfold zGK zAl Zm;rw[ok.exec];cases e.exec r.assign ⟨zBf r.params args r.tm,[],some l⟩ h with
 |none=>rfl
 |some p=>
  obtain⟨ex,fr,h1⟩:=p;simp only[QS];cases ex with
  |normal=>
   simp only;cases h1.get l with
   |none=>rfl
   |some o=>
    cases o with
    |loop r1=>
     simp only;cases hst:r1.state with
     |ready=>
      simp only[cond_true];rw[ok.exec];cases e.exec r.body fr (h1.set l (.loop {r1 with state:= .busy}))with
      |none=>rfl
      |some p=>
       obtain⟨e2,fr2,h2⟩:=p;simp only[QS];cases fr2.dfs with
       |nil=>
        cases h2.get l with
        |none=>rfl
        |some o=>cases o<;>rfl
       |cons d ds=>rfl
     |_=>rfl
    |_=>rfl
  |_=>rfl
theorem zFU (ok:BM e x)(f:Value)(args:List Value)(h:Uz)(K:Value->Uz->R):zGP x f args h K=Zm (zAV e f args h) K:=by
 cases f with
 |func fn first cap=>
  cases fn with
  |func f=>
   show x.call f (first.toList++(args++cap.toList)) h K=Zm (e.call f (first.toList++args++cap.toList) h) K;rw[ok.call,QZ]
  |yield l=>
   show (match h.get l with
    |some (.loop r)=>bif Nat.beq args.length r.params.length then zGK x l r args h K else none
    |_=>none)=Zm (match h.get l with
    |some (.loop r)=>bif Nat.beq args.length r.params.length then zAl e l r args h else none
    |_=>none) K
   cases h.get l with
   |none=>rfl
   |some o=>
    cases o with
    |loop r=>
     simp only;cases Nat.beq args.length r.params.length with
     |true=>exact zL9 ok _ _ _ _ _
     |false=>rfl
    |_=>rfl
  |_=>rfl
 |_=>rfl
def zSE (P:Program)(op:Wk):CloV:=
 match op with
 | .mov a=>⟨fun _ t h K=>K ((zo a).ev t) h⟩
 | .pick c a b=>⟨fun _ t h K=>zDF ((zo c).ev t) fun q=>K (yM q ((zo a).ev t) ((zo b).ev t)) h⟩
 | .bin op a b=>⟨fun _ t h K=>(zUM op).run ((zo a).ev t) ((zo b).ev t) fun v=>K v h⟩
 | .load agg n a=>yM (Nat.beq n 1&& !agg)
   ⟨fun _ t h K=>zGj ((zo a).ev t) fun a=>yM a.spot.isNone (zJZ h a.block fun cells=>Zg (zLm cells a.off) fun v=>K v h) none⟩
   ⟨fun _ t h K=>zGj ((zo a).ev t) fun a=>yM a.spot.isNone (zJZ h a.block fun cells=>Zg (zGT cells a.off n) fun l=>Zg (zH agg l) fun v=>K v h) none⟩
 | .store n a b=>⟨fun _ t h K=>zGj ((zo a).ev t) fun a=>yM (Nat.beq n 1) (match (zo b).ev t with
   | .agg cs=>bif Nat.beq cs.size n then (zc h a cs.toList).bind fun h=>K undef h else none
   |v=>zCv h a v fun h=>K undef h) (Zm (bif Nat.beq ((zo b).ev t).cells.size n then (zc h a ((zo b).ev t).cells.toList).map (undef,·) else none) K)⟩
 | .idx c a i=>⟨fun _ t h K=>match (zo a).ev t with
   | .slice (some a) len k=>zUH ((zo i).ev t) fun i=>yM (Nat.ble (Nat.succ i) len) (yM (Nat.beq k c) (yM a.spot.isNone (K (.pointer (some ⟨a.block,Nat.add a.off (Nat.mul i c),none⟩)) h) none) none) none
   |_=>none⟩
 | .fld off a=>⟨fun _ t h K=>zGj ((zo a).ev t) fun a=>yM a.spot.isNone (K (.pointer (some ⟨a.block,Nat.add a.off off,none⟩)) h) none⟩
 | .len a=>⟨fun _ t h K=>match (zo a).ev t with
   | .slice _ n _=>K (.int .i64 (Int.ofNat n)) h
   |_=>none⟩
 | .nilCheck a=>⟨fun _ t h K=>Zg (Yp ((zo a).ev t)) fun v=>K v h⟩
 | .extract a i=>⟨fun _ t h K=>match (zo a).ev t with
   | .tuple vs=>Zg (zLm vs.toList i) fun v=>K v h
   |_=>none⟩
 | .alloc zero=>⟨fun _ _ h K=>K (.pointer (some ⟨h.n,0,none⟩)) (zDD h (.row zero true 0))⟩
 | .box a=>⟨fun _ t h K=>K (.pointer (some ⟨h.n,0,none⟩)) (zDD h (.row ((zo a).ev t).cells.toList true 0))⟩
 | .call f args=>⟨fun x t h K=>zGP x ((zo f).ev t) (args.map fun a=>(zo a).ev t) h K⟩
 | .invoke a name args=>⟨fun x t h K=>match (zo a).ev t with
   | .iface ty v=>Zg (Yl P ty name) fun f=>x.call f (v::args.map fun a=>(zo a).ev t) h K
   |_=>Zm (U9 P Ex.bot t h (.invoke a name args)) K⟩
 | .un op a=>⟨fun _ t h K=>Zg (unV op ((zo a).ev t)) fun v=>K v h⟩
 | .isNil kind neg a=>⟨fun _ t h K=>Zg (zDb kind ((zo a).ev t)) fun b=>K (.bool (if neg then !b else b)) h⟩
 | .binB neg a b=>⟨fun _ t h K=>zDF ((zo a).ev t) fun x=>zDF ((zo b).ev t) fun y=>K (.bool (if neg then x != y else x == y)) h⟩
 | .conv k a=>⟨fun _ t h K=>zP9 ((zo a).ev t) fun _ n=>K (.int k (zCt k n)) h⟩
 | .build zero parts=>⟨fun _ t h K=>Zg (yx zero (parts.map fun (a,b,x)=>(a,b,(zo x).ev t))) fun cells=>K (.agg cells.toArray) h⟩
 | .buildSlice len c zero parts=>⟨fun _ t h K=>Zg (yx (zW zero len) (parts.map fun (a,b,x)=>(a,b,(zo x).ev t))) fun cells=>K (.slice (some ⟨h.n,0,none⟩) len c) (zDD h (.row cells true 0))⟩
 | .part agg off n a=>⟨fun _ t h K=>match (zo a).ev t with
   | .agg cs=>Zg (zGT cs.toList off n) fun l=>Zg (zH agg l) fun v=>K v h
   |_=>none⟩
 | .mkFunc fn first cap=>⟨fun _ t h K=>match fn with
   | .func f=>K (.func (.func f) (first.map fun a=>(zo a).ev t).toArray (cap.map fun a=>(zo a).ev t).toArray) h
   |_=>none⟩
 | .lenC n=>⟨fun _ _ h K=>K (.int .i64 (Int.ofNat n)) h⟩
 | .append c a b=>⟨fun _ t h K=>Zm (yT c ((zo a).ev t) ((zo b).ev t) h) K⟩
 |op=>⟨fun _ t h K=>Zm (U9 P Ex.bot t h op) K⟩
theorem zFL (parts:List (Nat×Nat×Operand))(t:U4 Value):(parts.map fun (a,b,x)=>(a,b,(zo x).ev t))=zg t parts:=by
 unfold zg;apply Qu;rintro⟨a,b,x⟩ _;show (a,b,(zo x).ev t)=(a,b,ev t x);rw[zj]
theorem zCN (args:List Operand)(t:U4 Value):(args.map fun a=>(zo a).ev t)=args.map (ev t):=by
 apply Qu;intro a _;exact zj a t
theorem zP8 (ok:BM e x)(op:Wk)(t:U4 Value)(h:Uz)(K:Value->Uz->R):(zSE P op).run x t h K=Zm (U9 P e t h op) K:=by
 have slow:zAC op=true->Zm (U9 P Ex.bot t h op) K=Zm (U9 P e t h op) K:=fun hp=>by rw[zKg e hp]
 cases op with
 |mov a=>show K ((zo a).ev t) h=_;rw[zj];rfl
 |pick c a b=>
  show zDF ((zo c).ev t) (fun q=>K (yM q ((zo a).ev t) ((zo b).ev t)) h)=_;rw[zj,zj,zj];simp only[U9];cases ev t c with
  |bool q=>cases q<;>rfl
  |_=>rfl
 |bin op a b=>
  show (zUM op).run ((zo a).ev t) ((zo b).ev t) (fun v=>K v h)=_;rw[zj,zj,zRZ];simp only[U9,Zm];cases yG op (ev t a) (ev t b)<;>rfl
 |load agg n a=>
  simp only[U9];cases hn:(Nat.beq n 1&& !agg)with
  |true=>
   rw[QF]at hn;obtain⟨h1,h2⟩:=hn;have h1:=QI h1;have h2:agg=false:=by cases agg<;>simp_all
   subst h1 h2;show zGj ((zo a).ev t) (fun a=>yM a.spot.isNone (zJZ h a.block fun cells=>Zg (zLm cells a.off) fun v=>K v h) none)=_;rw[zj];cases ev t a with
   |pointer p=>
    cases p with
    |none=>rfl
    |some ad=>
     dsimp only;show yM ad.spot.isNone _ none=_;rw[yK];cases ad.spot.isNone with
     |false=>rfl
     |true=>
      simp only[cond_true,zKe,Zm];cases z8 h ad.block with
      |none=>rfl
      |some cells=>
       simp only[QS,ZE,zGI,zOv];cases cells[ad.off]?<;>rfl
   |_=>rfl
  |false=>
   have:zSE P (.load agg n a)=⟨fun _ t h K=>zGj ((zo a).ev t) fun a=>yM a.spot.isNone (zJZ h a.block fun cells=>Zg (zGT cells a.off n) fun l=>Zg (zH agg l) fun v=>K v h) none⟩:=by
    show yM (Nat.beq n 1&& !agg) _ _=_;rw[hn];rfl
   rw[this];show zGj ((zo a).ev t) (fun a=>yM a.spot.isNone (zJZ h a.block fun cells=>Zg (zGT cells a.off n) fun l=>Zg (zH agg l) fun v=>K v h) none)=_;rw[zj];cases ev t a with
   |pointer p=>
    cases p with
    |none=>rfl
    |some ad=>
     dsimp only;show yM ad.spot.isNone _ none=_;rw[yK];cases ad.spot.isNone with
     |false=>rfl
     |true=>
      simp only[cond_true,zKe,Zm];cases z8 h ad.block with
      |none=>rfl
      |some cells=>
       simp only[QS,ZE,zDi];cases cut cells ad.off n with
       |none=>rfl
       |some l=>simp only[QS];cases zH agg l<;>rfl
   |_=>rfl
 |store n a b=>
  show zGj ((zo a).ev t) (fun a=>yM (Nat.beq n 1) (match (zo b).ev t with
   | .agg cs=>bif Nat.beq cs.size n then (zc h a cs.toList).bind fun h=>K undef h else none
   |v=>zCv h a v fun h=>K undef h) (Zm (bif Nat.beq ((zo b).ev t).cells.size n then (zc h a ((zo b).ev t).cells.toList).map (undef,·) else none) K))=_
  rw[zj,zj];simp only[U9];cases ev t a with
  |pointer p=>
   cases p with
   |none=>rfl
   |some ad=>
    show yM (Nat.beq n 1) _ _=_;rw[yK];cases hn:Nat.beq n 1 with
    |false=>rfl
    |true=>
     have:=QI hn;subst this;simp only[cond_true];have plain:∀ v:Value,v.cells.size=1->(∀ cs,v≠ .agg cs)->(zCv h ad v fun h=>K undef h)=Zm (bif Nat.beq v.cells.size 1 then (zc h ad v.cells.toList).map (undef,·) else none) K:=fun v h1 h2=>by
      have h3:Nat.beq v.cells.size 1=true:=by rw[h1];rfl
      rw[zJo h ad v h1 h2,h3,cond_true,Zm];cases zc h ad v.cells.toList<;>rfl
     cases ev t b with
     |agg cs=>
      simp only[Value.cells];cases Nat.beq cs.size 1 with
      |false=>rfl
      |true=>simp only[cond_true,Zm];cases zc h ad cs.toList<;>rfl
     |_=>exact plain _ rfl (fun cs=>by simp)
  |_=>rfl
 |idx c a i=>
  show (match (zo a).ev t with
   | .slice (some a) len k=>zUH ((zo i).ev t) fun i=>yM (Nat.ble (Nat.succ i) len) (yM (Nat.beq k c) (yM a.spot.isNone (K (.pointer (some ⟨a.block,Nat.add a.off (Nat.mul i c),none⟩)) h) none) none) none
   |_=>none)=_
  rw[zj,zj];simp only[U9];cases ev t a with
  |slice p len k=>
   cases p with
   |none=>rfl
   |some ad=>
    simp only[zQt];cases W4 (ev t i)with
    |none=>rfl
    |some j=>
     simp only[QS,yK];have hs:Nat.ble (Nat.succ j) len=Nat.ble (j+1) len:=rfl;rw[hs];cases Nat.ble (j+1) len<;>cases Nat.beq k c<;>cases ad.spot.isNone<;>rfl
  |_=>rfl
 |fld off a=>
  show zGj ((zo a).ev t) (fun a=>yM a.spot.isNone (K (.pointer (some ⟨a.block,Nat.add a.off off,none⟩)) h) none)=_;rw[zj];simp only[U9];cases ev t a with
  |pointer p=>
   cases p with
   |none=>rfl
   |some ad=>dsimp only;show yM ad.spot.isNone _ none=_;rw[yK];cases ad.spot.isNone<;>rfl
  |_=>rfl
 |len a=>
  show (match (zo a).ev t with
   | .slice _ n _=>K (.int .i64 (Int.ofNat n)) h
   |_=>none)=_
  rw[zj];simp only[U9];cases ev t a<;>rfl
 |nilCheck a=>
  show Zg (Yp ((zo a).ev t)) (fun v=>K v h)=_;rw[zj,ZE];simp only[U9,Zm];cases Yp (ev t a)<;>rfl
 |extract a i=>
  show (match (zo a).ev t with
   | .tuple vs=>Zg (zLm vs.toList i) fun v=>K v h
   |_=>none)=_
  rw[zj];simp only[U9];cases ev t a with
  |tuple vs=>
   simp only[ZE,zGI,Array.getElem?_toList];cases vs[i]?<;>rfl
  |_=>rfl
 |alloc zero=>show K _ (zDD h _)=_;rw[zED];rfl
 |box a=>show K _ (zDD h (.row ((zo a).ev t).cells.toList true 0))=_;rw[zED,zj];rfl
 |call f args=>
  show zGP x ((zo f).ev t) (args.map fun a=>(zo a).ev t) h K=_;rw[zCN,zj,zFU ok];rfl
 |invoke a name args=>
  show (match (zo a).ev t with
   | .iface ty v=>Zg (Yl P ty name) fun f=>x.call f (v::args.map fun a=>(zo a).ev t) h K
   |_=>Zm (U9 P Ex.bot t h (.invoke a name args)) K)=_
  rw[zj,zCN];simp only[U9];cases hv:ev t a with
  |iface ty v=>
   simp only[zAI,ZE];cases Yl P ty name with
   |none=>rfl
   |some f=>simp only[QS];exact ok.call _ _ _ _
  |_=>rfl
 |un op a=>
  show Zg (unV op ((zo a).ev t)) (fun v=>K v h)=_;rw[zj,ZE];simp only[U9,Zm];cases unV op (ev t a)<;>rfl
 |isNil kind neg a=>
  show Zg (zDb kind ((zo a).ev t)) (fun b=>K (.bool (if neg then !b else b)) h)=_;rw[zj,ZE];simp only[U9,Zm];cases zDb kind (ev t a)<;>rfl
 |binB neg a b=>
  show zDF ((zo a).ev t) (fun x=>zDF ((zo b).ev t) fun y=>K (.bool (if neg then x != y else x == y)) h)=_;rw[zj,zj];simp only[U9];cases ev t a with
  |bool x=>cases ev t b<;>rfl
  |_=>rfl
 |conv k a=>
  show zP9 ((zo a).ev t) (fun _ n=>K (.int k (zCt k n)) h)=_;rw[zj];simp only[U9];cases ev t a with
  |int kk n=>show K (.int k (zCt k n)) h=_;rw[zBM];rfl
  |_=>rfl
 |build zero parts=>
  show Zg (yx zero (parts.map fun (a,b,x)=>(a,b,(zo x).ev t))) (fun cells=>K (.agg cells.toArray) h)=_;rw[zFL,ZE];simp only[U9,Zm];cases yx zero (zg t parts)<;>rfl
 |buildSlice len c zero parts=>
  show Zg (yx (zW zero len) (parts.map fun (a,b,x)=>(a,b,(zo x).ev t))) (fun cells=>K (.slice (some ⟨h.n,0,none⟩) len c) (zDD h (.row cells true 0)))=_;rw[zFL,ZE];simp only[U9,Zm,zED];cases yx (zW zero len) (zg t parts)<;>rfl
 |part agg off n a=>
  show (match (zo a).ev t with
   | .agg cs=>Zg (zGT cs.toList off n) fun l=>Zg (zH agg l) fun v=>K v h
   |_=>none)=_
  rw[zj];simp only[U9];cases ev t a with
  |agg cs=>
   simp only[zDi,ZE];cases cut cs.toList off n with
   |none=>rfl
   |some l=>simp only[QS];cases zH agg l<;>rfl
  |_=>rfl
 |mkFunc fn first cap=>
  show (match fn with
   | .func f=>K (.func (.func f) (first.map fun a=>(zo a).ev t).toArray (cap.map fun a=>(zo a).ev t).toArray) h
   |_=>none)=_
  rw[zCN,zCN];simp only[U9];cases fn<;>rfl
 |append c a b=>
  show Zm (yT c ((zo a).ev t) ((zo b).ev t) h) K=_;rw[zj,zj];rfl
 |dfr f args=>rfl
 |dfrClear _ _ _ _=>rfl
 |recover=>rfl
 |_=>first|rfl|(show Zm (U9 P Ex.bot t h _) K=_;exact slow rfl)
end
abbrev FrK:=WA->Uz->R
def frK (x:Option (WA×Uz))(K:FrK):R:=x.bind fun p=>K p.1 p.2
structure CloO where
 run:ExK->WA->Uz->FrK->R
structure CloD where
 set:U4 Value->Value->U4 Value
def zIX (d:Option Nat):CloD:=
 match d with
 |some d=>⟨(Bh 64 d).set⟩
 |none=>⟨fun t _=>t⟩
theorem zKY (d:Option Nat)(fr:WA)(v:Value):(⟨(zIX d).set fr.tm v,fr.dfs,fr.round⟩:WA)=val d fr v:=by
 cases d with
 |none=>rfl
 |some d=>show (⟨(Bh 64 d).set fr.tm v,fr.dfs,fr.round⟩:WA)=_;rw[(zG1 64 d).2];rfl
def zNc:Wk->Bool
 | .dfr .. | .dfrClear .. | .recover=>true
 |_=>false
def zMk (P:Program)(op:Wk)(d:Option Nat):CloO:=
 yM (zNc op) ⟨fun _ fr h K=>(zl P Ex.bot fr.tm fr.round h op).bind fun p=>K (val d {fr with dfs:=p.2.1++fr.dfs} p.1) p.2.2⟩
  ⟨fun x fr h K=>(zSE P op).run x fr.tm h fun v h=>K ⟨(zIX d).set fr.tm v,fr.dfs,fr.round⟩ h⟩
def zLh (P:Program)(o:U1):CloO:=
 match o.guard with
 |none=>zMk P o.op o.dst
 |some (j,want)=>⟨fun x fr h K=>match (zo (.tmp j)).ev fr.tm with
  | .bool b=>yM (b == want) ((zMk P o.op o.dst).run x fr h K) (K ⟨(zIX o.dst).set fr.tm undef,fr.dfs,fr.round⟩ h)
  |_=>K ⟨(zIX o.dst).set fr.tm undef,fr.dfs,fr.round⟩ h⟩
section
variable {P:Program}{e:Ex}{x:ExK}
theorem zQr (ok:BM e x)(op:Wk)(d:Option Nat)(fr:WA)(h:Uz)(K:FrK):
  (zMk P op d).run x fr h K=(zl P e fr.tm fr.round h op).bind fun p=>K (val d {fr with dfs:=p.2.1++fr.dfs} p.1) p.2.2:=by
 unfold zMk;cases hd:zNc op with
 |true=>
  show (zl P Ex.bot fr.tm fr.round h op).bind _=_;have:zl P Ex.bot fr.tm fr.round h op=zl P e fr.tm fr.round h op:=by cases op<;>first|(cases hd;done)|rfl
  rw[this]
 |false=>
  show (zSE P op).run x fr.tm h (fun v h=>K ⟨(zIX d).set fr.tm v,fr.dfs,fr.round⟩ h)=_;rw[zP8 ok];have e1:zl P e fr.tm fr.round h op=match U9 P e fr.tm h op with
   |some (v,h)=>some (v,[],h)
   |none=>none:=by cases op<;>first|(cases hd;done)|rfl
  rw[e1];cases U9 P e fr.tm h op with
  |none=>rfl
  |some q=>
   obtain⟨v,h⟩:=q;show K ⟨(zIX d).set fr.tm v,fr.dfs,fr.round⟩ h=K (val d {fr with dfs:=[]++fr.dfs} v) h;rw[zKY];rfl
theorem zKX (ok:BM e x)(o:U1)(fr:WA)(h:Uz)(K:FrK):(zLh P o).run x fr h K=frK (yD P e o fr h) K:=by
 obtain⟨d,g,op⟩:=o;have plain:(zMk P op d).run x fr h K=frK (match zl P e fr.tm fr.round h op with
  |some (v,ds,h)=>some (val d {fr with dfs:=ds++fr.dfs} v,h)
  |none=>none) K:=by
  rw[zQr ok];cases zl P e fr.tm fr.round h op<;>rfl
 cases g with
 |none=>exact plain
 |some g=>
  obtain⟨j,want⟩:=g;have e0:(zLh P ⟨d,some (j,want),op⟩).run x fr h K=(match (zo (.tmp j)).ev fr.tm with
   | .bool b=>yM (b == want) ((zMk P op d).run x fr h K) (K ⟨(zIX d).set fr.tm undef,fr.dfs,fr.round⟩ h)
   |_=>K ⟨(zIX d).set fr.tm undef,fr.dfs,fr.round⟩ h):=rfl
  have e1:yD P e ⟨d,some (j,want),op⟩ fr h=bif (match zB fr.tm j with| .bool b=>b == want|_=>false) then (match zl P e fr.tm fr.round h op with
   |some (v,ds,h)=>some (val d {fr with dfs:=ds++fr.dfs} v,h)
   |none=>none) else some (val d fr undef,h):=rfl
  rw[e0,e1,plain,zj,zKY];have e2:ev fr.tm (.tmp j)=zB fr.tm j:=rfl;rw[e2];cases zB fr.tm j with
  |bool b=>
   dsimp only;rw[yK];cases (b == want)<;>rfl
  |_=>rfl
def zKJ (P:Program)(l:List U1):CloO:=
 @List.rec U1 (fun _=>CloO) ⟨fun _ fr h K=>K fr h⟩ (fun o _ k=>⟨fun x fr h K=>(zLh P o).run x fr h fun fr h=>k.run x fr h K⟩) l
theorem zIZ (ok:BM e x):∀ (l:List U1) (fr:WA) (h:Uz) (K:FrK),(zKJ P l).run x fr h K=frK (yR P e l fr h) K
 |[],_,_,_=>rfl
 |o::l,fr,h,K=>by
  show (zLh P o).run x fr h (fun fr h=>(zKJ P l).run x fr h K)=_;rw[zKX ok];simp only[yR,frK];cases yD P e o fr h with
  |none=>rfl
  |some q=>exact zIZ ok l q.1 q.2 K
structure CloC where
 run:ExK->Nat->WA->Uz->FrK->R
def zRx (P:Program)(o:U1):CloC:=
 yM (Nat.beq (zE o.op) 3) ⟨fun _ g fr h K=>frK (zv P Ex.bot g o fr h) K⟩ ⟨fun x _ fr h K=>(zLh P o).run x fr h K⟩
theorem zRd (ok:BM e x)(o:U1)(g:Nat)(fr:WA)(h:Uz)(K:FrK):(zRx P o).run x g fr h K=frK (zv P e g o fr h) K:=by
 unfold zRx;cases hk:Nat.beq (zE o.op) 3 with
 |true=>
  show frK (zv P Ex.bot g o fr h) K=_;unfold zv;simp only[hk,cond_true]
 |false=>
  show (zLh P o).run x fr h K=_;rw[zKX ok];unfold zv;simp only[hk,QR]
abbrev RsT:=List (Nat×Nat×Option (Nat×Nat×List Value))
structure CloR where
 run:ExK->Nat->Nat->List (Nat×Nat)->RsT->List (Nat×Nat)->WA->Uz->(WA->Uz->List (Nat×Nat)->R)->R
def okC (o:U1)(un:List Nat)(ws:List (Nat×Nat))(rs:RsT)(bs:List (Nat×Nat))(t:U4 Value)(h':Uz):Bool:=
 (match zX t o with
  |some g=>(ws.all fun (j,g')=> !(Nat.beq g g'&&un.contains j))&&bs.all fun (j,n)=> !un.contains j||Nat.ble (g+1) n
  |none=>true)&&rs.all fun (j,g,vw)=> !(un.contains j&&h'.wr.contains g)||zBg h' g vw
def okF (o:U1)(un:List Nat)(ws:List (Nat×Nat))(rs:RsT)(bs:List (Nat×Nat))(t:U4 Value)(h':Uz):Bool:=
 match un with
 |[]=>true
 |un=>okC o un ws rs bs t h'
theorem zTh (o:U1)(un:List Nat)(ws:List (Nat×Nat))(rs:RsT)(bs:List (Nat×Nat))(t:U4 Value)(h':Uz):okF o un ws rs bs t h'=okC o un ws rs bs t h':=by
 cases un with
 |cons a l=>rfl
 |nil=>
  unfold okF okC;cases zX t o<;>simp
def zRm (P:Program)(l:List (U1×List Nat)):CloR:=
 @List.rec (U1×List Nat) (fun _=>CloR) ⟨fun _ _ _ ws _ _ fr h K=>K fr h ws⟩
  (fun o _ k=>⟨fun x i g ws rs bs fr h K=>(zRx P o.1).run x g fr ⟨h.n,h.tab,h.n,[]⟩ fun fr' h'=>
   yM (okF o.1 o.2 ws rs bs fr.tm h') (k.run x (Nat.succ i) (yM (Nat.beq (zE o.1.op) 3) (Nat.succ g) g) (h'.wr.map (fun g=>(i,g))++ws) (match zX fr.tm o.1 with
     |some g=>(i,g,Yc fr.tm h o.1.op)::rs
     |none=>rs) ((i,h.n)::bs) fr' h' K) none⟩) l
theorem zKP (ok:BM e x):∀ (l:List (U1×List Nat)) (i g:Nat) (ws:List (Nat×Nat)) (rs:RsT) (bs:List (Nat×Nat)) (fr:WA) (h:Uz) (K:WA->Uz->List (Nat×Nat)->R),
  (zRm P l).run x i g ws rs bs fr h K=(zu P e l i g ws rs bs fr h).bind fun p=>K p.1 p.2.1 p.2.2
 |[],_,_,_,_,_,_,_,_=>rfl
 |(o,un)::l,i,g,ws,rs,bs,fr,h,K=>by
  show (zRx P o).run x g fr ⟨h.n,h.tab,h.n,[]⟩ (fun fr' h'=>
   yM (okF o un ws rs bs fr.tm h') ((zRm P l).run x (Nat.succ i) (yM (Nat.beq (zE o.op) 3) (Nat.succ g) g) (h'.wr.map (fun g=>(i,g))++ws) (match zX fr.tm o with
     |some g=>(i,g,Yc fr.tm h o.op)::rs
     |none=>rs) ((i,h.n)::bs) fr' h' K) none)=_
  rw[zRd ok,zu];show frK (zv P e g o fr {h with mark:=h.n,wr:=[]}) _=_;cases zv P e g o fr {h with mark:=h.n,wr:=[]} with
  |none=>rfl
  |some q=>
   obtain⟨fr',h'⟩:=q;show yM (okF o un ws rs bs fr.tm h') _ none=(bif okC o un ws rs bs fr.tm h' then _ else none).bind _;rw[zTh,yK];cases okC o un ws rs bs fr.tm h' with
   |false=>rfl
   |true=>simp only[cond_true];rw[zKP ok l,yK];rfl
structure CloX where
 run:ExK->WA->Uz->(U8->WA->Uz->R)->R
def Bt (l:List (U1×List Nat)):Nat:=(l.filter fun x=>Nat.beq (zE x.1.op) 3).length
def zGM (x:ExK)(b:U0)(n:Nat):U0->WA->Uz->(U8->WA->Uz->R)->R:=
 @Nat.rec (fun _=>U0->WA->Uz->(U8->WA->Uz->R)->R) (fun _ _ _ _=>none) (fun _ k c fr h K=>x.exec c fr h fun e fr h=>match e with
  | .goto l=>(match zy b l with
   |some rest=>k rest fr h K
   |none=>K (.goto l) fr h)
  |e=>K e fr h) n
def exK (x:Option (U8×WA×Uz))(K:U8->WA->Uz->R):R:=x.bind fun p=>K p.1 p.2.1 p.2.2
theorem zFp (ok:BM e x)(b:U0):∀ (n:Nat) (c:U0) (fr:WA) (h:Uz) (K:U8->WA->Uz->R),zGM x b n c fr h K=exK (Zk e n b c fr h) K
 |0,_,_,_,_=>rfl
 |n+1,c,fr,h,K=>by
  show x.exec c fr h (fun e fr h=>match e with
   | .goto l=>(match zy b l with
    |some rest=>zGM x b n rest fr h K
    |none=>K (.goto l) fr h)
   |e=>K e fr h)=_
  rw[ok.exec];simp only[Zk];cases e.exec c fr h with
  |none=>rfl
  |some p=>
   obtain⟨ex,fr1,h1⟩:=p;cases ex with
   |goto l=>
    simp only[QS];cases zy b l with
    |none=>rfl
    |some rest=>exact zFp ok b n rest fr1 h1 K
   |_=>rfl
def zDs (x:ExK)(f:Value)(params:List Nat)(assign body:U0)(fr:WA)(d:Nat)(mark:List Deferred)(h:Uz)(K:U8->WA->Uz->R):R:=
 zGP x f [.func (.yield h.n) #[] #[]] (h.push (.loop {state:= .ready,pending:=none,fn:=0,tm:=fr.tm,params,assign,body,defers:=d})) fun _ h2=>
  match h2.get h.n with
  |some (.loop r)=>
   match r.state with
   | .busy=>none
   |_=>match r.pending with
    |none=>K .normal {fr with dfs:=mark++fr.dfs} (h2.set h.n (.loop {r with state:= .exhausted}))
    |some .ret=>K .ret {fr with dfs:=mark++fr.dfs} (h2.set h.n (.loop {r with state:= .exhausted}))
    |some (.exit id)=>K (.exit id) {fr with dfs:=mark++fr.dfs} (h2.set h.n (.loop {r with state:= .exhausted}))
    |some (.goto g)=>K (.goto g) {fr with dfs:=mark++fr.dfs} (h2.set h.n (.loop {r with state:= .exhausted}))
    |some _=>none
  |_=>none
theorem zER (ok:BM e x)(f:Value)(params:List Nat)(assign body:U0)(fr:WA)(d:Nat)(mark:List Deferred)(h:Uz)(K:U8->WA->Uz->R):
  zDs x f params assign body fr d mark h K=exK (Y0 e f params assign body fr d mark h) K:=by
 unfold zDs Y0;rw[zFU ok];cases zAV e f [.func (.yield h.n) #[] #[]] (h.push (.loop {state:= .ready,pending:=none,fn:=0,tm:=fr.tm,params,assign,body,defers:=d}))with
 |none=>rfl
 |some p=>
  obtain⟨v,h2⟩:=p;simp only[Zm,QS];cases h2.get h.n with
  |none=>rfl
  |some o=>
   cases o with
   |loop r=>
    simp only;cases r.state<;>(simp only;try rfl)<;>(cases r.pending with
     |none=>rfl
     |some c=>cases c<;>rfl)
   |_=>rfl
def zGa (x:ExK)(f:Value)(params:List Nat)(assign body:U0)(fr:WA)(h:Uz)(K:U8->WA->Uz->R):R:=
 match fr.round with
 |none=>zDs x f params assign body fr h.n [{target:= .collected h.n,args:=#[]}] (h.push (.deferred (some []))) K
 |some l=>match h.get l with
  |some (.loop r)=>zDs x f params assign body fr r.defers [] h K
  |_=>none
theorem zKv (ok:BM e x)(f:Value)(params:List Nat)(assign body:U0)(fr:WA)(h:Uz)(K:U8->WA->Uz->R):zGa x f params assign body fr h K=exK (zAs e f params assign body fr h) K:=by
 unfold zGa zAs;cases fr.round with
 |none=>exact zER ok _ _ _ _ _ _ _ _ _
 |some l=>
  simp only;cases h.get l with
  |none=>rfl
  |some o=>
   cases o with
   |loop r=>exact zER ok _ _ _ _ _ _ _ _ _
   |_=>rfl
def zTt (P:Program)(c:U0):CloX:=
 match c with
 | .skip=>⟨fun _ fr h K=>K .normal fr h⟩
 | .label _=>⟨fun _ fr h K=>K .normal fr h⟩
 | .region ops=>⟨fun x fr h K=>(zKJ P ops).run x fr h fun fr h=>K .normal fr h⟩
 | .regionC ops=>⟨fun x fr h K=>(zRm P ops).run x 0 h.n [] [] [] fr ⟨Nat.add h.n (Bt ops),h.tab,h.mark,h.wr⟩ fun fr' h' ws=>K .normal fr' ⟨h'.n,h'.tab,h.mark,((ws.map (·.2)).filter fun g=> !Nat.ble h.mark g)++h.wr⟩⟩
 | .seq a b=>⟨fun x fr h K=>x.exec a fr h fun e fr h=>match e with
  | .normal=>x.exec b fr h K
  |e=>K e fr h⟩
 | .cond c a b=>⟨fun x fr h K=>zDF ((zo c).ev fr.tm) fun q=>yM q (x.exec a fr h K) (x.exec b fr h K)⟩
 | .block id b=>⟨fun x fr h K=>x.exec b fr h fun e fr h=>match e with
  | .exit id'=>yM (Nat.beq id' id) (K .normal fr h) (K (.exit id') fr h)
  |e=>K e fr h⟩
 | .loop b=>⟨fun x fr h K=>x.exec b fr h fun e fr h=>match e with
  | .normal=>x.exec (.loop b) fr h K
  |e=>K e fr h⟩
 | .exit id=>⟨fun _ fr h K=>K (.exit id) fr h⟩
 | .goto l=>⟨fun _ fr h K=>K (.goto l) fr h⟩
 | .ret=>⟨fun _ fr h K=>K .ret fr h⟩
 | .scope b=>⟨fun x fr h K=>zGM x b zFw b fr h K⟩
 | .rangeFunc f params assign body=>⟨fun x fr h K=>zGa x ((zo f).ev fr.tm) params assign body fr h K⟩
theorem zRH (ok:BM e x)(c:U0)(fr:WA)(h:Uz)(K:U8->WA->Uz->R):(zTt P c).run x fr h K=exK (zb P e c fr h) K:=by
 cases c with
 |region ops=>
  show (zKJ P ops).run x fr h (fun fr h=>K .normal fr h)=_;rw[zIZ ok];simp only[zb,frK,exK];cases yR P e ops fr h<;>rfl
 |regionC ops=>
  show (zRm P ops).run x 0 h.n [] [] [] fr ⟨Nat.add h.n (Bt ops),h.tab,h.mark,h.wr⟩ (fun fr' h' ws=>K .normal fr' ⟨h'.n,h'.tab,h.mark,((ws.map (·.2)).filter fun g=> !Nat.ble h.mark g)++h.wr⟩)=_;rw[zKP ok];simp only[zb,exK,Z8];have:(⟨Nat.add h.n (Bt ops),h.tab,h.mark,h.wr⟩:Uz)={h with n:=h.n+(ops.filter fun x=>Nat.beq (zE x.1.op) 3).length}:=rfl;rw[this];cases zu P e ops 0 h.n [] [] [] fr {h with n:=h.n+(ops.filter fun x=>Nat.beq (zE x.1.op) 3).length}<;>rfl
 |seq a b=>
  show x.exec a fr h (fun e fr h=>match e with
   | .normal=>x.exec b fr h K
   |e=>K e fr h)=_
  rw[ok.exec];simp only[zb,exK];cases e.exec a fr h with
  |none=>rfl
  |some p=>
   obtain⟨ex,fr1,h1⟩:=p;cases ex with
   |normal=>exact ok.exec _ _ _ _
   |_=>rfl
 |cond c a b=>
  show zDF ((zo c).ev fr.tm) (fun q=>yM q (x.exec a fr h K) (x.exec b fr h K))=_;rw[zj];simp only[zb,exK];cases ev fr.tm c with
  |bool q=>cases q<;>exact ok.exec _ _ _ _
  |_=>rfl
 |block id b=>
  show x.exec b fr h (fun e fr h=>match e with
   | .exit id'=>yM (Nat.beq id' id) (K .normal fr h) (K (.exit id') fr h)
   |e=>K e fr h)=_
  rw[ok.exec];simp only[zb,exK];cases e.exec b fr h with
  |none=>rfl
  |some p=>
   obtain⟨ex,fr1,h1⟩:=p;cases ex with
   |exit i=>
    simp only[QS];rw[yK];by_cases hi:i=id
    ·subst hi;simp
    ·have:Nat.beq i id=false:=by rw[Bool.eq_false_iff];intro hb;exact hi (QI hb)
     rw[this,QB hi];rfl
   |_=>rfl
 |loop b=>
  show x.exec b fr h (fun e fr h=>match e with
   | .normal=>x.exec (.loop b) fr h K
   |e=>K e fr h)=_
  rw[ok.exec];simp only[zb,exK];cases e.exec b fr h with
  |none=>rfl
  |some p=>
   obtain⟨ex,fr1,h1⟩:=p;cases ex with
   |normal=>exact ok.exec _ _ _ _
   |_=>rfl
 |scope b=>
  show zGM x b zFw b fr h K=exK (Zk e zFw b b fr h) K;exact zFp ok b zFw b fr h K
 |rangeFunc f ps a b=>
  show zGa x ((zo f).ev fr.tm) ps a b fr h K=_;rw[zj];exact zKv ok _ _ _ _ _ _ _
 |_=>rfl
def zAt (x:ExK)(ds:List Deferred):Uz->(Uz->R)->R:=
 @List.rec Deferred (fun _=>Uz->(Uz->R)->R) (fun h K=>K h) (fun d _ k h K=>match d.target with
  | .fn (.func f) cap=>x.call f (d.args.toList++cap.toList) h fun _ h=>k h K
  | .builtin .clear _ _ _=>match d.args.toList with
   |[.map (some g)]=>match h.get g with
    |some (.map _ clock)=>k (h.set g (.map [] clock)) K
    |_=>none
   |_=>none
  | .collected g=>match h.get g with
   |some (.deferred (some []))=>k (h.set g (.deferred none)) K
   |_=>none
  |_=>none) ds
theorem zAn (ok:BM e x):∀ (ds:List Deferred) (h:Uz) (K:Uz->R),zAt x ds h K=(yY e ds h).bind K
 |[],_,_=>rfl
 |d::ds,h,K=>by
  obtain⟨tg,as⟩:=d;show (match tg with
   | .fn (.func f) cap=>x.call f (as.toList++cap.toList) h fun _ h=>zAt x ds h K
   | .builtin .clear _ _ _=>match as.toList with
    |[.map (some g)]=>match h.get g with
     |some (.map _ clock)=>zAt x ds (h.set g (.map [] clock)) K
     |_=>none
    |_=>none
   | .collected g=>match h.get g with
    |some (.deferred (some []))=>zAt x ds (h.set g (.deferred none)) K
    |_=>none
   |_=>none)=_
  rw[yY];dsimp only;have mapK:∀ g,(match h.get g with
    |some (.map _ clock)=>zAt x ds (h.set g (.map [] clock)) K
    |_=>none)=(match h.get g with
    |some (.map _ clock)=>yY e ds (h.set g (.map [] clock))
    |_=>none).bind K:=fun g=>by
   cases h.get g with
   |none=>rfl
   |some o=>cases o<;>first|exact zAn ok ds _ K|rfl
  have defK:∀ g,(match h.get g with
    |some (.deferred (some []))=>zAt x ds (h.set g (.deferred none)) K
    |_=>none)=(match h.get g with
    |some (.deferred (some []))=>yY e ds (h.set g (.deferred none))
    |_=>none).bind K:=fun g=>by
   cases h.get g with
   |none=>rfl
   |some o=>
    cases o with
    |deferred q=>
     cases q with
     |none=>rfl
     |some l=>cases l<;>first|exact zAn ok ds _ K|rfl
    |_=>rfl
  cases tg with
  |fn f cap=>
   cases f with
   |func f=>
    dsimp only;rw[ok.call];simp only[Zm];cases e.call f (as.toList++cap.toList) h with
    |none=>rfl
    |some p=>exact zAn ok ds p.2 K
   |_=>rfl
  |builtin b ts ty cs=>
   cases b with
   |clear=>
    dsimp only;generalize as.toList=l;rcases l with _|⟨a,_|⟨b,l⟩⟩
    ·rfl
    ·cases a with
     |map r=>
      cases r with
      |none=>rfl
      |some g=>exact mapK g
     |_=>rfl
    ·cases a with
     |map r=>cases r<;>rfl
     |_=>rfl
   |_=>rfl
  |collected g=>exact defK g
  |_=>rfl
def zOx (l:List Value):Nat->U4 Value->U4 Value:=
 @List.rec Value (fun _=>Nat->U4 Value->U4 Value) (fun _ t=>t) (fun v _ k n t=>k (Nat.succ n) ((Bh 64 n).set t v)) l
theorem zIg:∀ (l:List Value) (k:Nat) (t:U4 Value),zOx l k t=zDa l k t
 |[],_,_=>rfl
 |v::l,k,t=>by
  show zOx l (k+1) ((Bh 64 k).set t v)=_;rw[zIg l,(zG1 64 k).2];rfl
def zS1 (h:Uz)(t:U4 Value)(r:Nat×Option (Bool×Nat)):Option Value:=
 match r with
 |(k,none)=>some ((zo (.tmp k)).ev t)
 |(k,some (agg,n))=>match (zo (.tmp k)).ev t with
  | .pointer (some a)=>yM a.spot.isNone (match zHx h a.block with
   |some (.row cells _ _)=>(zGT cells a.off n).bind (zH agg)
   |_=>none) none
  |_=>none
theorem zQ5 (h:Uz)(t:U4 Value)(r:Nat×Option (Bool×Nat)):zS1 h t r=YY h t r:=by
 obtain⟨k,o⟩:=r;cases o with
 |none=>show some ((zo (.tmp k)).ev t)=some (zB t k);rw[zj];rfl
 |some q=>
  obtain⟨agg,n⟩:=q;show (match (zo (.tmp k)).ev t with
   | .pointer (some a)=>yM a.spot.isNone (match zHx h a.block with
    |some (.row cells _ _)=>(zGT cells a.off n).bind (zH agg)
    |_=>none) none
   |_=>none)=(match zB t k with
   | .pointer (some a)=>bif a.spot.isNone then ((z8 h a.block).bind fun cells=>cut cells a.off n).bind (zH agg) else none
   |_=>none)
  rw[zj];have e2:ev t (.tmp k)=zB t k:=rfl;rw[e2];cases zB t k with
  |pointer p=>
   cases p with
   |none=>rfl
   |some a=>
    dsimp only;rw[yK,zEH];unfold z8;cases a.spot.isNone with
    |false=>rfl
    |true=>
     cases h.get a.block with
     |none=>rfl
     |some o=>cases o<;>first|(simp only[zDi];rfl)|rfl
  |_=>rfl
def zOj (h:Uz)(t:U4 Value)(l:List (Nat×Option (Bool×Nat))):Option (List Value):=
 @List.rec (Nat×Option (Bool×Nat)) (fun _=>Option (List Value)) (some []) (fun r _ q=> @Option.rec Value (fun _=>Option (List Value)) none (fun v=> @Option.rec (List Value) (fun _=>Option (List Value)) none (fun vs=>some (v::vs)) q) (zS1 h t r)) l
theorem zHp (h:Uz)(t:U4 Value):∀ l,zOj h t l=z0 h t l
 |[]=>rfl
 |r::l=>by
  show @Option.rec Value (fun _=>Option (List Value)) none (fun v=> @Option.rec (List Value) (fun _=>Option (List Value)) none (fun vs=>some (v::vs)) (zOj h t l)) (zS1 h t r)=_;rw[zQ5,zHp h t l,z0];cases YY h t r with
  |none=>rfl
  |some v=>cases z0 h t l<;>rfl
def zKl (tab:Wd)(x:ExK)(f:FuncId)(args:List Value)(h:Uz)(K:Value->Uz->R):R:=
 match tab.stub f with
 |some s=>Zm (s args h) K
 |none=>Zg (tab.code f) fun fn=>x.exec fn.body ⟨zOx args 0 .leaf,[],none⟩ h fun e fr h=>
   yM (match e with| .normal| .ret=>true|_=>false) (zAt x fr.dfs h fun h=>Zg (zOj h fr.tm fn.results) fun vs=>K (one vs) h) none
theorem zOT (ok:BM e x)(tab:Wd)(f:FuncId)(args:List Value)(h:Uz)(K:Value->Uz->R):zKl tab x f args h K=Zm (zA3 P tab e f args h) K:=by
 unfold zKl zA3;cases tab.stub f with
 |some s=>rfl
 |none=>
  simp only;rw[ZE];unfold zCZ;cases tab.code f with
  |none=>rfl
  |some fn=>
   simp only[QS];rw[ok.exec,zIg];cases e.exec fn.body ⟨zDa args 0 .leaf,[],none⟩ h with
   |none=>rfl
   |some p=>
    obtain⟨ex,fr,h1⟩:=p;simp only[QS,yK,zAn ok,ZE,zHp];cases ex<;>simp only[cond_true,QR,Zm,Option.bind_none];all_goals
     cases yY e fr.dfs h1 with
     |none=>rfl
     |some h2=>
      simp only[QS];cases z0 h2 fr.tm fn.results<;>rfl
def zIl (P:Program)(tab:Wd)(n:Nat):ExK:=
 @Nat.rec (fun _=>ExK) ⟨fun _ _ _ _=>none,fun _ _ _ _=>none⟩ (fun _ x=>⟨fun c fr h K=>(zTt P c).run x fr h K,fun f args h K=>zKl tab x f args h K⟩) n
theorem zLv (P:Program)(tab:Wd)(n:Nat):zIl P tab (n+1)=⟨fun c fr h K=>(zTt P c).run (zIl P tab n) fr h K,fun f args h K=>zKl tab (zIl P tab n) f args h K⟩:=rfl
theorem zJ7 (P:Program)(tab:Wd)(n:Nat):BM (Ws P tab n) (zIl P tab n):=by
 induction n with
 |zero=>exact⟨fun _ _ _ _=>rfl,fun _ _ _ _=>rfl⟩
 |succ n ih=>
  rw[zLv];refine⟨fun c fr h K=> ?_,fun f args h K=> ?_⟩
  ·have:=zRH ih c fr h K (P:=P);exact this
  ·have:=zOT (P:=P) ih tab f args h K;exact this
theorem zOU {P:Program}{tab:Wd}{n:Nat}{f:FuncId}{args:List Value}{h:Uz}{v:Value}(hx:(zIl P tab n).call f args h (fun v _=>some v)=some v):
  ((Ws P tab n).call f args h).map (·.1)=some v:=by
 have e:=(zJ7 P tab n).call f args h fun v _=>some v;rw[hx]at e;cases hc:(Ws P tab n).call f args h with
 |none=>rw[hc]at e;cases e
 |some p=>rw[hc]at e;exact e.symm
end
end
end Go.Am
