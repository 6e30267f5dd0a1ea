/- A part of the abstract machine for the model's programs and of the proof that what it yields the model's call yields (definitions, operations, runs, regions that draw their order); no statement of the seat is proved in this text. -/
import Derived.Test.YtfnndahpddkniaaGreatDoorAmD
set_option linter.unusedVariables false
set_option linter.unusedSimpArgs false
namespace Go.Am
noncomputable section
def yH {α:Type} (b:Bool) (x y:α):α:= @Bool.rec (fun _=>α) y x b
theorem yF {α:Type} (b:Bool) (x y:α):yH b x y=bif b then x else y:=by cases b<;>rfl
def Trie.getF {α:Type} (t:Trie α):Nat->Option α:=
 @Trie.rec α (fun _=>Nat->Option α) (fun _=>none) (fun v _ _ gl gr k=> @Bool.rec (fun _=>Option α) (@Bool.rec (fun _=>Option α) (gr (Nat.pred (Nat.div k (nat_lit 2)))) (gl (Nat.div k (nat_lit 2))) (Nat.beq (Nat.mod k (nat_lit 2)) (nat_lit 1))) v (Nat.beq k (nat_lit 0))) t
theorem zFb {α:Type}:∀ (t:Trie α) (k:Nat),t.getF k=t.get k
 | .leaf,_=>rfl
 | .node v l r,k=>by
  show yH (Nat.beq k 0) v (yH (Nat.beq (k % 2) 1) (l.getF (k / 2)) (r.getF (k / 2 - 1)))=_;rw[yF,yF,zFb l,zFb r];rfl
def zI3 {α:Type} (v:Option α) (f:Nat):Nat->Trie α:=
 @Nat.rec (fun _=>Nat->Trie α) (fun _=> .leaf) (fun _ p k=> @Bool.rec (fun _=>Trie α) (@Bool.rec (fun _=>Trie α) (.node none .leaf (p (Nat.pred (Nat.div k (nat_lit 2))))) (.node none (p (Nat.div k (nat_lit 2))) .leaf) (Nat.beq (Nat.mod k (nat_lit 2)) (nat_lit 1))) (.node v .leaf .leaf) (Nat.beq k (nat_lit 0))) f
theorem zEM {α:Type} (v:Option α):∀ (f k:Nat),zI3 v f k=Trie.put v f k .leaf
 |0,_=>rfl
 |f+1,k=>by
  show yH (Nat.beq k 0) _ (yH (Nat.beq (k % 2) 1) (Trie.node none (zI3 v f (k / 2)) .leaf) (.node none .leaf (zI3 v f (k / 2 - 1))))=_;rw[yF,yF,zEM v f,zEM v f];rfl
def Trie.putF {α:Type} (v:Option α) (t:Trie α):Nat->Trie α:=
 @Trie.rec α (fun _=>Nat->Trie α) (fun k=>zI3 v (Nat.succ k) k)
  (fun u l r pl pr k=> @Bool.rec (fun _=>Trie α) (@Bool.rec (fun _=>Trie α) (.node u l (pr (Nat.pred (Nat.div k (nat_lit 2))))) (.node u (pl (Nat.div k (nat_lit 2))) r) (Nat.beq (Nat.mod k (nat_lit 2)) (nat_lit 1))) (.node v l r) (Nat.beq k (nat_lit 0))) t
theorem Y4 {α:Type} (v:Option α):∀ (f g k:Nat) (t:Trie α),k<f->k<g->Trie.put v f k t=Trie.put v g k t:=by
 intro f;induction f with
 |zero=>intro g k t h;omega
 |succ f ih=>
  intro g k t h1 h2;obtain⟨g,rfl⟩:∃ g',g=g'+1:=⟨g - 1,by omega⟩;have hb:∀ a b:Nat,Nat.beq a b=decide (a=b):=fun a b=>by rw[GF];simp
  cases t with
  |leaf=>
   simp only[Trie.put,hb];by_cases hk:k=0
   ·simp[hk]
   ·simp only[hk,decide_false,QR];rw[ih g (k / 2) _ (by omega) (by omega),ih g (k / 2 - 1) _ (by omega) (by omega)]
  |node u l r=>
   simp only[Trie.put,hb];by_cases hk:k=0
   ·simp[hk]
   ·simp only[hk,decide_false,QR];rw[ih g (k / 2) _ (by omega) (by omega),ih g (k / 2 - 1) _ (by omega) (by omega)]
theorem zDE {α:Type} (v:Option α):∀ (t:Trie α) (k:Nat),t.putF v k=Trie.put v (k+1) k t
 | .leaf,k=>zEM v (k+1) k
 | .node u l r,k=>by
  show yH (Nat.beq k 0) (Trie.node v l r) (yH (Nat.beq (k % 2) 1) (.node u (l.putF v (k / 2)) r) (.node u l (r.putF v (k / 2 - 1))))=_;rw[yF,yF,zDE v l,zDE v r];have hb:∀ a b:Nat,Nat.beq a b=decide (a=b):=fun a b=>by rw[GF];simp
  simp only[Trie.put,hb];by_cases hk:k=0
  ·simp[hk]
  ·simp only[hk,decide_false,QR];rw[Y4 v (k / 2+1) k (k / 2) l (by omega) (by omega),Y4 v (k / 2 - 1+1) k (k / 2 - 1) r (by omega) (by omega)]
theorem zHV (k:Nat) (v:Value) (hk:¬k=0):(Trie.leaf:Trie Value).set k v=yH (Nat.beq (k % 2) 1) (.node none (Trie.leaf.set (k / 2) v) .leaf) (.node none .leaf (Trie.leaf.set (k / 2 - 1) v)):=by
 have h0:Nat.beq k 0=false:=by cases hb:Nat.beq k 0 with
  |false=>rfl
  |true=>exact absurd (QG hb) hk
 have e:(Trie.leaf:Trie Value).set k v=bif Nat.beq k 0 then Trie.node (some v) .leaf .leaf else bif Nat.beq (k % 2) 1 then .node none (Trie.put (some v) k (k / 2) .leaf) .leaf else .node none .leaf (Trie.put (some v) k (k / 2 - 1) .leaf):=rfl;rw[e,h0,yF,QR,Y4 _ k (k / 2+1) (k / 2) _ (by omega) (by omega),Y4 _ k (k / 2 - 1+1) (k / 2 - 1) _ (by omega) (by omega)];rfl
theorem zHW (k:Nat) (v:Value) (u:Option Value) (l r:Trie Value) (hk:¬k=0):(Trie.node u l r).set k v=yH (Nat.beq (k % 2) 1) (.node u (l.set (k / 2) v) r) (.node u l (r.set (k / 2 - 1) v)):=by
 have h0:Nat.beq k 0=false:=by cases hb:Nat.beq k 0 with
  |false=>rfl
  |true=>exact absurd (QG hb) hk
 have e:(Trie.node u l r).set k v=bif Nat.beq k 0 then Trie.node (some v) l r else bif Nat.beq (k % 2) 1 then .node u (Trie.put (some v) k (k / 2) l) r else .node u l (Trie.put (some v) k (k / 2 - 1) r):=rfl;rw[e,h0,yF,QR,Y4 _ k (k / 2+1) (k / 2) _ (by omega) (by omega),Y4 _ k (k / 2 - 1+1) (k / 2 - 1) _ (by omega) (by omega)];rfl
structure CloG where
 get:Trie Value->Option Value
 set:Trie Value->Value->Trie Value
def Yz (f:Nat):Nat->CloG:=
 @Nat.rec (fun _=>Nat->CloG) (fun k=>⟨fun t=>t.get k,fun t v=>Trie.put (some v) (k+1) k t⟩)
  (fun _ p k=> @Bool.rec (fun _=>CloG) (@Bool.rec (fun _=>CloG)
   ⟨fun t=>(p (Nat.pred (Nat.div k (nat_lit 2)))).get (@Trie.rec Value (fun _=>Trie Value) .leaf (fun _ _ r _ _=>r) t),fun t v=> @Trie.rec Value (fun _=>Trie Value) (.node none .leaf ((p (Nat.pred (Nat.div k (nat_lit 2)))).set .leaf v)) (fun u l r _ _=> .node u l ((p (Nat.pred (Nat.div k (nat_lit 2)))).set r v)) t⟩
   ⟨fun t=>(p (Nat.div k (nat_lit 2))).get (@Trie.rec Value (fun _=>Trie Value) .leaf (fun _ l _ _ _=>l) t),fun t v=> @Trie.rec Value (fun _=>Trie Value) (.node none ((p (Nat.div k (nat_lit 2))).set .leaf v) .leaf) (fun u l r _ _=> .node u ((p (Nat.div k (nat_lit 2))).set l v) r) t⟩
   (Nat.beq (Nat.mod k (nat_lit 2)) (nat_lit 1)))
   ⟨fun t=> @Trie.rec Value (fun _=>Option Value) none (fun v _ _ _ _=>v) t,fun t v=> @Trie.rec Value (fun _=>Trie Value) (.node (some v) .leaf .leaf) (fun _ l r _ _=> .node (some v) l r) t⟩
   (Nat.beq k (nat_lit 0))) f
theorem zGB:∀ (f k:Nat),(∀ t,(Yz f k).get t=t.get k)/\∀ t v,(Yz f k).set t v=t.set k v:=by
 intro f;induction f with
 |zero=>intro k;exact⟨fun _=>rfl,fun _ _=>rfl⟩
 |succ f ih=>
  intro k;have hb:∀ a b:Nat,Nat.beq a b=decide (a=b):=fun a b=>by rw[GF];simp
  have step:Yz (f+1) k=yH (Nat.beq k 0) ⟨fun t=> @Trie.rec Value (fun _=>Option Value) none (fun v _ _ _ _=>v) t,fun t v=> @Trie.rec Value (fun _=>Trie Value) (.node (some v) .leaf .leaf) (fun _ l r _ _=> .node (some v) l r) t⟩
   (yH (Nat.beq (k % 2) 1) ⟨fun t=>(Yz f (k / 2)).get (@Trie.rec Value (fun _=>Trie Value) .leaf (fun _ l _ _ _=>l) t),fun t v=> @Trie.rec Value (fun _=>Trie Value) (.node none ((Yz f (k / 2)).set .leaf v) .leaf) (fun u l r _ _=> .node u ((Yz f (k / 2)).set l v) r) t⟩
    ⟨fun t=>(Yz f (k / 2 - 1)).get (@Trie.rec Value (fun _=>Trie Value) .leaf (fun _ _ r _ _=>r) t),fun t v=> @Trie.rec Value (fun _=>Trie Value) (.node none .leaf ((Yz f (k / 2 - 1)).set .leaf v)) (fun u l r _ _=> .node u l ((Yz f (k / 2 - 1)).set r v)) t⟩):=rfl
  rw[step];by_cases hk:k=0
  ·subst hk;exact⟨fun t=>by cases t<;>rfl,fun t v=>by cases t<;>rfl⟩
  ·have h0:Nat.beq k 0=false:=by rw[hb];simp[hk]
   rw[h0];by_cases ho:k % 2=1
   ·have h1:Nat.beq (k % 2) 1=true:=by rw[hb];simp[ho]
    rw[h1];refine⟨fun t=> ?_,fun t v=> ?_⟩
    ·show (Yz f (k / 2)).get _=_;rw[(ih _).1];cases t with
     |leaf=>rfl
     |node u l r=>simp only[Trie.get,h0,h1,cond_true,QR]
    ·cases t with
     |leaf=>
      show Trie.node none ((Yz f (k / 2)).set .leaf v) .leaf=_;rw[(ih _).2,zHV k v hk,h1];rfl
     |node u l r=>
      show Trie.node u ((Yz f (k / 2)).set l v) r=_;rw[(ih _).2,zHW k v u l r hk,h1];rfl
   ·have h1:Nat.beq (k % 2) 1=false:=by rw[hb];simp[ho]
    rw[h1];refine⟨fun t=> ?_,fun t v=> ?_⟩
    ·show (Yz f (k / 2 - 1)).get _=_;rw[(ih _).1];cases t with
     |leaf=>rfl
     |node u l r=>simp only[Trie.get,h0,h1,cond_true,QR]
    ·cases t with
     |leaf=>
      show Trie.node none .leaf ((Yz f (k / 2 - 1)).set .leaf v)=_;rw[(ih _).2,zHV k v hk,h1];rfl
     |node u l r=>
      show Trie.node u l ((Yz f (k / 2 - 1)).set r v)=_;rw[(ih _).2,zHW k v u l r hk,h1];rfl
structure CloE where
 ev:Trie Value->Value
def zb (x:Operand):CloE:=
 match x with
 | .tmp k=>⟨fun t=> @Option.rec Value (fun _=>Value) undef (fun v=>v) ((Yz 64 k).get t)⟩
 | .const v=>⟨fun _=>v⟩
 | .global g=>⟨fun _=> .pointer (some ⟨g,0,none⟩)⟩
 | .func f=>⟨fun _=> .func (.func f) #[] #[]⟩
theorem za (x:Operand) (t:Trie Value):(zb x).ev t=ev t x:=by
 cases x with
 |tmp k=>
  show @Option.rec Value (fun _=>Value) undef (fun v=>v) ((Yz 64 k).get t)=(t.get k).getD undef;rw[(zGB 64 k).1];cases t.get k<;>rfl
 |_=>rfl
def zGc (h:AHeap) (g:Nat):Option AObj:=h.tab.getF g
theorem zDQ (h:AHeap) (g:Nat):zGc h g=h.get g:=zFb _ _
def zCv (h:AHeap) (o:AObj):AHeap:=⟨Nat.succ h.n,h.tab.putF (some o) h.n,h.mark,h.wr⟩
theorem zDc (h:AHeap) (o:AObj):zCv h o=h.push o:=by unfold zCv AHeap.push Trie.set;rw[zDE]
def zNh (h:AHeap) (g:Nat) (o:AObj):AHeap:=⟨h.n,h.tab.putF (some o) g,h.mark,h.log g⟩
theorem zMt (h:AHeap) (g:Nat) (o:AObj):zNh h g o=h.set g o:=by unfold zNh AHeap.set Trie.set;rw[zDE]
abbrev R:=Option Value
def ZV (x:Option (Value×AHeap)) (K:Value->AHeap->R):R:=x.bind fun p=>K p.1 p.2
structure ExK where
 exec:ACode->AFr->AHeap->(AExit->AFr->AHeap->R)->R
 call:FuncId->List Value->AHeap->(Value->AHeap->R)->R
structure ExOk (e:Ex) (x:ExK):Prop where
 exec:∀ c fr h K,x.exec c fr h K=(e.exec c fr h).bind fun p=>K p.1 p.2.1 p.2.2
 call:∀ f args h K,x.call f args h K=ZV (e.call f args h) K
def zFw (v:Value) (k:Addr->R):R:=match v with
 | .pointer (some a)=>k a
 |_=>none
def ZS {α:Type} (x:Option α) (k:α->R):R:= @Option.rec α (fun _=>R) none k x
theorem yn {α:Type} (x:Option α) (k:α->R):ZS x k=x.bind k:=by cases x<;>rfl
def zHy (h:AHeap) (g:Nat) (k:List Value->R):R:=ZS (zGc h g) fun o=>match o with
 | .row cells _ _=>k cells
 |_=>none
theorem zJh (h:AHeap) (g:Nat) (k:List Value->R):zHy h g k=(zq h g).bind k:=by
 unfold zHy zq;rw[yn,zDQ];cases h.get g with
 |none=>rfl
 |some o=>cases o<;>rfl
def zQr (v:Value) (k:IntKind->Int->R):R:=match v with
 | .int kk n=>k kk n
 |_=>none
def zRw (v:Value) (k:Nat->R):R:=match v with
 | .int _ (.ofNat n)=>k n
 |_=>none
theorem zOW (v:Value) (k:Nat->R):zRw v k=(asN v).bind k:=by
 cases v with
 |int kk n=>cases n<;>rfl
 |_=>rfl
def zCk (k:IntKind):Nat:= @IntKind.rec (fun _=>Nat) (nat_lit 0) (nat_lit 1) (nat_lit 2) (nat_lit 3) (nat_lit 4) (nat_lit 5) (nat_lit 6) (nat_lit 7) k
theorem zNe (k k':IntKind):Nat.beq (zCk k) (zCk k')=decide (k=k'):=by cases k<;>cases k'<;>rfl
def zBb (k:IntKind) (n:Int):Int:=match n with
 | .ofNat m=>yH (Nat.ble m (nat_lit 127)) (.ofNat m) (yH (Nat.beq (zCk k) (nat_lit 3)) (yH (Nat.ble m (nat_lit 9223372036854775807)) (.ofNat m) (k.wrap (.ofNat m))) (k.wrap (.ofNat m)))
 |n=>k.wrap n
theorem zAh (k:IntKind) (n:Int):zBb k n=k.wrap n:=by
 unfold zBb;cases n with
 |negSucc m=>rfl
 |ofNat m=>
  simp only[yF];cases h1:Nat.ble m 127 with
  |true=>
   have:m<=127:=QL h1;simp only[cond_true];have e:(Int.ofNat m:Int)=(m:Int):=rfl;rw[e];cases k<;>simp[IntKind.wrap,IntKind.signed,IntKind.bits]<;>omega
  |false=>
   simp only[QR];cases h2:Nat.beq (zCk k) 3 with
   |false=>rfl
   |true=>
    simp only[cond_true];have hk:k= .i64:=by cases k<;>first|rfl|cases h2
    subst hk;cases h3:Nat.ble m 9223372036854775807 with
    |false=>rfl
    |true=>
     have:m<=9223372036854775807:=QL h3;simp only[cond_true];have e:(Int.ofNat m:Int)=(m:Int):=rfl;rw[e];simp[IntKind.wrap,IntKind.signed,IntKind.bits];omega
def ltF (a b:Int):Bool:=match a,b with
 | .ofNat m,.ofNat n=>Nat.ble (Nat.succ m) n
 | .negSucc _,.ofNat _=>true
 | .ofNat _,.negSucc _=>false
 | .negSucc m,.negSucc n=>Nat.ble (Nat.succ n) m
theorem zEA (a b:Int):ltF a b=decide (a<b):=by
 have hb:∀ a b:Nat,Nat.ble a b=decide (a<=b):=fun a b=>by rw[GF];simp
 have e1:∀ n:Nat,Int.ofNat n=(n:Int):=fun _=>rfl;have e2:∀ n:Nat,Int.negSucc n= -((n:Int)+1):=fun n=>by omega
 cases a<;>cases b<;>simp only[ltF,hb]<;>rw[GF]<;>simp only[QW,Qk,true_iff,G8,e1,e2]<;>omega
def eqF (a b:Int):Bool:=match a,b with
 | .ofNat m,.ofNat n=>Nat.beq m n
 | .negSucc m,.negSucc n=>Nat.beq m n
 |_,_=>false
theorem zFt (a b:Int):eqF a b=decide (a=b):=by
 have hb:∀ a b:Nat,Nat.beq a b=decide (a=b):=fun a b=>by rw[GF];simp
 have e1:∀ n:Nat,Int.ofNat n=(n:Int):=fun _=>rfl;have e2:∀ n:Nat,Int.negSucc n= -((n:Int)+1):=fun n=>by omega
 cases a<;>cases b<;>simp only[eqF,hb]<;>rw[GF]<;>simp only[QW,Qk,true_iff,G8,e1,e2]<;>omega
def zEZ (x y:Value) (k:IntKind->Int->Int->R):R:=zQr x fun kk a=>zQr y fun kk' b=>yH (Nat.beq (zCk kk) (zCk kk')) (k kk a b) none
structure CloB where
 run:Value->Value->(Value->R)->R
def zSg (op:BinOp):CloB:=
 match op with
 | .add=>⟨fun x y k=>zEZ x y fun kk a b=>k (.int kk (zBb kk (Int.add a b)))⟩
 | .sub=>⟨fun x y k=>zEZ x y fun kk a b=>k (.int kk (zBb kk (Int.sub a b)))⟩
 | .eql=>⟨fun x y k=>zEZ x y fun _ a b=>k (.bool (eqF a b))⟩
 | .neq=>⟨fun x y k=>zEZ x y fun _ a b=>k (.bool (!eqF a b))⟩
 | .lss=>⟨fun x y k=>zEZ x y fun _ a b=>k (.bool (ltF a b))⟩
 | .gtr=>⟨fun x y k=>zEZ x y fun _ a b=>k (.bool (ltF b a))⟩
 | .leq=>⟨fun x y k=>zEZ x y fun _ a b=>k (.bool (!ltF b a))⟩
 | .geq=>⟨fun x y k=>zEZ x y fun _ a b=>k (.bool (!ltF a b))⟩
 |op=>⟨fun x y k=>ZS (z0 op x y) k⟩
theorem zQ6 (x y:Value) (k:IntKind->Int->Int->R):zEZ x y k=match x,y with
  | .int kk a,.int kk' b=>if kk=kk' then k kk a b else none
  |_,_=>none:=by
 cases x with
 |int kk a=>
  cases y with
  |int kk' b=>
   show yH (Nat.beq (zCk kk) (zCk kk')) (k kk a b) none=if kk=kk' then k kk a b else none;rw[yF,zNe];by_cases e:kk=kk'
   ·subst e;simp
   ·simp[e]
  |_=>rfl
 |_=>rfl
theorem zGQ (a b:Int):(!ltF b a)=decide (a<=b):=by
 rw[zEA,GF];simp
theorem zQ9 (op:BinOp) (x y:Value) (k:Value->R):(zSg op).run x y k=(z0 op x y).bind k:=by
 have two:∀ {f:IntKind->Int->Int->Value} {g:Option Value},(g=match x,y with
   | .int kk a,.int kk' b=>if kk=kk' then some (f kk a b) else none
   |_,_=>none)->(zEZ x y fun kk a b=>k (f kk a b))=g.bind k:=by
  intro f g hg;rw[zQ6,hg];split
  ·split<;>rfl
  ·rfl
 cases op with
 |add=>refine two (f:=fun kk a b=> .int kk (zBb kk (Int.add a b))) ?_;cases x<;>cases y<;>first|rfl|(simp only[z0,zAh];done)|(simp only[z0,zAh];rfl)
 |sub=>refine two (f:=fun kk a b=> .int kk (zBb kk (Int.sub a b))) ?_;cases x<;>cases y<;>first|rfl|(simp only[z0,zAh];done)|(simp only[z0,zAh];rfl)
 |eql=>refine two (f:=fun kk a b=> .bool (eqF a b)) ?_;cases x<;>cases y<;>first|rfl|(simp only[z0,zFt];done)|(simp only[z0,zFt];rfl)
 |neq=>refine two (f:=fun kk a b=> .bool (!eqF a b)) ?_;cases x<;>cases y<;>first|rfl|(simp only[z0,zFt];done)|(simp only[z0,zFt];rfl)
 |lss=>refine two (f:=fun kk a b=> .bool (ltF a b)) ?_;cases x<;>cases y<;>first|rfl|(simp only[z0,zEA];done)|(simp only[z0,zEA];rfl)
 |gtr=>refine two (f:=fun kk a b=> .bool (ltF b a)) ?_;cases x<;>cases y<;>first|rfl|(simp only[z0,zEA];done)|(simp only[z0,zEA];rfl)
 |leq=>refine two (f:=fun kk a b=> .bool (!ltF b a)) ?_;cases x<;>cases y<;>first|rfl|(simp only[z0,zGQ];done)|(simp only[z0,zGQ];rfl)
 |geq=>refine two (f:=fun kk a b=> .bool (!ltF a b)) ?_;cases x<;>cases y<;>first|rfl|(simp only[z0,zGQ,ge_iff_le];done)|(simp only[z0,zGQ,ge_iff_le];rfl)
 |_=>exact yn _ _
def zLL (l:List Value):Nat->Option Value:=
 @List.rec Value (fun _=>Nat->Option Value) (fun _=>none) (fun v _ g n=> @Nat.rec (fun _=>Option Value) (some v) (fun m _=>g m) n) l
theorem zFv:∀ (l:List Value) (n:Nat),zLL l n=l[n]?
 |[],_=>rfl
 |v::l,0=>rfl
 |v::l,n+1=>by
  show zLL l n=_;rw[zFv l n];simp
theorem zL7 (l:List Value) (n:Nat):(cut l n 1).bind (zF false)=l[n]?:=by
 unfold cut;cases hb:Nat.ble (n+1) l.length with
 |true=>
  have hn:n<l.length:=QL hb;have e:(l.drop n).take 1=[l[n]]:=by rw[GO hn];rfl
  rw[cond_true,QQ,e,QC hn];rfl
 |false=>
  have hn:¬n<l.length:=fun e=>by
   have:Nat.ble (n+1) l.length=true:=QH e;rw[this]at hb;cases hb
  simp[hn]
def zEi (l:List Value):Nat->Option (List Value):=
 @List.rec Value (fun _=>Nat->Option (List Value)) (fun n=> @Nat.rec (fun _=>Option (List Value)) (some []) (fun _ _=>none) n)
  (fun v _ g n=> @Nat.rec (fun _=>Option (List Value)) (some []) (fun m _=> @Option.rec (List Value) (fun _=>Option (List Value)) none (fun r=>some (v::r)) (g m)) n) l
def zFR (l:List Value):Nat->Nat->Option (List Value):=
 @List.rec Value (fun _=>Nat->Nat->Option (List Value)) (fun off n=> @Nat.rec (fun _=>Option (List Value)) (zEi [] n) (fun _ _=>none) off)
  (fun v r g off n=> @Nat.rec (fun _=>Option (List Value)) (zEi (v::r) n) (fun m _=>g m n) off) l
theorem zDv:∀ (l:List Value) (n:Nat),zEi l n=bif Nat.ble n l.length then some (l.take n) else none
 |[],0=>rfl
 |[],n+1=>rfl
 |v::l,0=>rfl
 |v::l,n+1=>by
  show @Option.rec (List Value) (fun _=>Option (List Value)) none (fun r=>some (v::r)) (zEi l n)=_;rw[zDv l n];have:Nat.ble (n+1) (v::l).length=Nat.ble n l.length:=rfl;rw[this];cases Nat.ble n l.length<;>rfl
theorem zDG:∀ (l:List Value) (off n:Nat),zFR l off n=cut l off n
 |[],0,n=>by
  show zEi [] n=_;rw[zDv];unfold cut;rw[Q5];rfl
 |[],off+1,n=>by
  show none=cut [] (off+1) n;unfold cut;have:Nat.ble (off+1+n) ([]:List Value).length=false:=by
   rw[show off+1+n=(off+n)+1 by omega];rfl
  rw[this];rfl
 |v::l,0,n=>by
  show zEi (v::l) n=_;rw[zDv];unfold cut;rw[Q5];rfl
 |v::l,off+1,n=>by
  show zFR l off n=_;rw[zDG l off n];unfold cut;have:Nat.ble (off+1+n) (v::l).length=Nat.ble (off+n) l.length:=by
   rw[show off+1+n=(off+n)+1 by omega];rfl
  rw[this];rfl
def zFf (v:Value) (l:List Value):Nat->Option (List Value):=
 @List.rec Value (fun _=>Nat->Option (List Value)) (fun _=>none) (fun u r g n=> @Nat.rec (fun _=>Option (List Value)) (some (v::r)) (fun m _=> @Option.rec (List Value) (fun _=>Option (List Value)) none (fun r=>some (u::r)) (g m)) n) l
theorem zFA (v:Value):∀ (l:List Value) (n:Nat),zFf v l n=bif Nat.ble (n+1) l.length then some (zZ l n [v]) else none
 |[],n=>by
  have:Nat.ble (n+1) ([]:List Value).length=false:=rfl;rw[this];rfl
 |u::r,0=>rfl
 |u::r,n+1=>by
  show @Option.rec (List Value) (fun _=>Option (List Value)) none (fun r=>some (u::r)) (zFf v r n)=_;rw[zFA v r n];have:Nat.ble (n+1+1) (u::r).length=Nat.ble (n+1) r.length:=rfl;rw[this];cases Nat.ble (n+1) r.length<;>simp[zZ]
structure CloV where
 run:ExK->Trie Value->AHeap->(Value->AHeap->R)->R
def zCi (v:Value) (k:Bool->R):R:=match v with
 | .bool b=>k b
 |_=>none
def zBd (h:AHeap) (a:Addr) (v:Value) (K:AHeap->R):R:=
 yH a.spot.isNone (ZS (zGc h a.block) fun o=>match o with
  | .row cells true lo=>yH (Nat.ble lo a.off) (match v with
   | .agg _=>none
   | .tuple _=>none
   |v=>ZS (zFf v cells a.off) fun cells=>K (zNh h a.block (.row cells true lo))) none
  |_=>none) none
theorem zIN (h:AHeap) (a:Addr) (v:Value) (hv:v.cells.size=1) (hn:∀ cs,v≠ .agg cs) (K:AHeap->R):zBd h a v K=(zX h a v.cells.toList).bind K:=by
 have hc:v.cells.toList=[v]:=by cases v<;>first|rfl|exact absurd rfl (hn _)
 unfold zBd zX;rw[hc,yF,yn,zDQ];cases hs:a.spot.isNone with
 |false=>
  simp only[QR];split
  ·simp
  ·rfl
 |true=>
  simp only[cond_true];cases h.get a.block with
  |none=>rfl
  |some o=>
   cases o with
   |row cells own lo=>
    cases own with
    |false=>rfl
    |true=>
     show yH (Nat.ble lo a.off) _ none=_;rw[yF];have h1:∀ K':List Value->R,(ZS (zFf v cells a.off) K')=(bif Nat.ble (a.off+1) cells.length then some (zZ cells a.off [v]) else none).bind K':=fun K'=>by rw[yn,zFA]
     cases h2:Nat.ble lo a.off with
     |false=>simp[h2]
     |true=>
      simp only[h2,cond_true,Qg,QZ];cases v<;>first
       |(exact absurd rfl (hn _))
       |(simp only[h1,zMt];cases Nat.ble (a.off+1) cells.length<;>simp[zJ])
   |_=>rfl
def zGG (x:ExK) (l:Nat) (r:ALoop) (args:List Value) (h:AHeap) (K:Value->AHeap->R):R:=
 x.exec r.assign ⟨zA9 r.params args r.tm,[],some l⟩ h fun e fr h1=>match e with
  | .normal=>(match h1.get l with
   |some (.loop r1)=>
    bif (match r1.state with| .ready=>true|_=>false) then
     x.exec r.body fr (h1.set l (.loop {r1 with state:= .busy})) fun e fr2 h2=>match fr2.dfs,h2.get l with
      |[],some (.loop r2)=>K (yz l r2 h2 e).1 (yz l r2 h2 e).2
      |_,_=>none
    else none
   |_=>none)
  |_=>none
def zFu (x:ExK) (f:Value) (args:List Value) (h:AHeap) (K:Value->AHeap->R):R:=
 match f with
 | .func (.func f) first cap=>x.call f (first.toList++(args++cap.toList)) h K
 | .func (.yield l) _ _=>
  match h.get l with
  |some (.loop r)=>bif Nat.beq args.length r.params.length then zGG x l r args h K else none
  |_=>none
 |_=>none
section
variable {P:Program} {e:Ex} {x:ExK}
theorem zKE (ok:ExOk e x) (l:Nat) (r:ALoop) (args:List Value) (h:AHeap) (K:Value->AHeap->R):zGG x l r args h K=ZV (zAI e l r args h) K:=by
 unfold zGG zAI ZV;rw[ok.exec];cases e.exec r.assign ⟨zA9 r.params args r.tm,[],some l⟩ h with
 |none=>rfl
 |some p=>
  obtain⟨ex,fr,h1⟩:=p;simp only[QQ];cases ex with
  |normal=>
   simp only;cases h1.get l with
   |none=>rfl
   |some o=>
    cases o with
    |loop r1=>
     simp only;cases hst:r1.state with
     |ready=>
      simp only[cond_true];rw[ok.exec];cases e.exec r.body fr (h1.set l (.loop {r1 with state:= .busy}))with
      |none=>rfl
      |some p=>
       obtain⟨e2,fr2,h2⟩:=p;simp only[QQ];cases fr2.dfs with
       |nil=>
        cases h2.get l with
        |none=>rfl
        |some o=>cases o<;>rfl
       |cons d ds=>rfl
     |_=>rfl
    |_=>rfl
  |_=>rfl
theorem zEb (ok:ExOk e x) (f:Value) (args:List Value) (h:AHeap) (K:Value->AHeap->R):zFu x f args h K=ZV (Y6 e f args h) K:=by
 cases f with
 |func fn first cap=>
  cases fn with
  |func f=>
   show x.call f (first.toList++(args++cap.toList)) h K=ZV (e.call f (first.toList++args++cap.toList) h) K;rw[ok.call,Qm]
  |yield l=>
   show (match h.get l with
    |some (.loop r)=>bif Nat.beq args.length r.params.length then zGG x l r args h K else none
    |_=>none)=ZV (match h.get l with
    |some (.loop r)=>bif Nat.beq args.length r.params.length then zAI e l r args h else none
    |_=>none) K
   cases h.get l with
   |none=>rfl
   |some o=>
    cases o with
    |loop r=>
     simp only;cases Nat.beq args.length r.params.length with
     |true=>exact zKE ok _ _ _ _ _
     |false=>rfl
    |_=>rfl
  |_=>rfl
 |_=>rfl
def zQG (P:Program) (op:AOp):CloV:=
 match op with
 | .mov a=>⟨fun _ t h K=>K ((zb a).ev t) h⟩
 | .pick c a b=>⟨fun _ t h K=>zCi ((zb c).ev t) fun q=>K (yH q ((zb a).ev t) ((zb b).ev t)) h⟩
 | .bin op a b=>⟨fun _ t h K=>(zSg op).run ((zb a).ev t) ((zb b).ev t) fun v=>K v h⟩
 | .load agg n a=>yH (Nat.beq n 1&& !agg)
   ⟨fun _ t h K=>zFw ((zb a).ev t) fun a=>yH a.spot.isNone (zHy h a.block fun cells=>ZS (zLL cells a.off) fun v=>K v h) none⟩
   ⟨fun _ t h K=>zFw ((zb a).ev t) fun a=>yH a.spot.isNone (zHy h a.block fun cells=>ZS (zFR cells a.off n) fun l=>ZS (zF agg l) fun v=>K v h) none⟩
 | .store n a b=>⟨fun _ t h K=>zFw ((zb a).ev t) fun a=>yH (Nat.beq n 1) (match (zb b).ev t with
   | .agg cs=>bif Nat.beq cs.size n then (zX h a cs.toList).bind fun h=>K undef h else none
   |v=>zBd h a v fun h=>K undef h) (ZV (bif Nat.beq ((zb b).ev t).cells.size n then (zX h a ((zb b).ev t).cells.toList).map (undef,·) else none) K)⟩
 | .idx c a i=>⟨fun _ t h K=>match (zb a).ev t with
   | .slice (some a) len k=>zRw ((zb i).ev t) fun i=>yH (Nat.ble (Nat.succ i) len) (yH (Nat.beq k c) (yH a.spot.isNone (K (.pointer (some ⟨a.block,Nat.add a.off (Nat.mul i c),none⟩)) h) none) none) none
   |_=>none⟩
 | .fld off a=>⟨fun _ t h K=>zFw ((zb a).ev t) fun a=>yH a.spot.isNone (K (.pointer (some ⟨a.block,Nat.add a.off off,none⟩)) h) none⟩
 | .len a=>⟨fun _ t h K=>match (zb a).ev t with
   | .slice _ n _=>K (.int .i64 (Int.ofNat n)) h
   |_=>none⟩
 | .nilCheck a=>⟨fun _ t h K=>ZS (YT ((zb a).ev t)) fun v=>K v h⟩
 | .extract a i=>⟨fun _ t h K=>match (zb a).ev t with
   | .tuple vs=>ZS (zLL vs.toList i) fun v=>K v h
   |_=>none⟩
 | .alloc zero=>⟨fun _ _ h K=>K (.pointer (some ⟨h.n,0,none⟩)) (zCv h (.row zero true 0))⟩
 | .box a=>⟨fun _ t h K=>K (.pointer (some ⟨h.n,0,none⟩)) (zCv h (.row ((zb a).ev t).cells.toList true 0))⟩
 | .call f args=>⟨fun x t h K=>zFu x ((zb f).ev t) (args.map fun a=>(zb a).ev t) h K⟩
 | .invoke a name args=>⟨fun x t h K=>match (zb a).ev t with
   | .iface ty v=>ZS (YK P ty name) fun f=>x.call f (v::args.map fun a=>(zb a).ev t) h K
   |_=>ZV (aop P Ex.bot t h (.invoke a name args)) K⟩
 | .un op a=>⟨fun _ t h K=>ZS (unV op ((zb a).ev t)) fun v=>K v h⟩
 | .isNil kind neg a=>⟨fun _ t h K=>ZS (zCw kind ((zb a).ev t)) fun b=>K (.bool (if neg then !b else b)) h⟩
 | .binB neg a b=>⟨fun _ t h K=>zCi ((zb a).ev t) fun x=>zCi ((zb b).ev t) fun y=>K (.bool (if neg then x != y else x == y)) h⟩
 | .conv k a=>⟨fun _ t h K=>zQr ((zb a).ev t) fun _ n=>K (.int k (zBb k n)) h⟩
 | .build zero parts=>⟨fun _ t h K=>ZS (yg zero (parts.map fun (a,b,x)=>(a,b,(zb x).ev t))) fun cells=>K (.agg cells.toArray) h⟩
 | .buildSlice len c zero parts=>⟨fun _ t h K=>ZS (yg (zR zero len) (parts.map fun (a,b,x)=>(a,b,(zb x).ev t))) fun cells=>K (.slice (some ⟨h.n,0,none⟩) len c) (zCv h (.row cells true 0))⟩
 | .part agg off n a=>⟨fun _ t h K=>match (zb a).ev t with
   | .agg cs=>ZS (zFR cs.toList off n) fun l=>ZS (zF agg l) fun v=>K v h
   |_=>none⟩
 | .mkFunc fn first cap=>⟨fun _ t h K=>match fn with
   | .func f=>K (.func (.func f) (first.map fun a=>(zb a).ev t).toArray (cap.map fun a=>(zb a).ev t).toArray) h
   |_=>none⟩
 | .lenC n=>⟨fun _ _ h K=>K (.int .i64 (Int.ofNat n)) h⟩
 | .append c a b=>⟨fun _ t h K=>ZV (yM c ((zb a).ev t) ((zb b).ev t) h) K⟩
 |op=>⟨fun _ t h K=>ZV (aop P Ex.bot t h op) K⟩
theorem zEo (parts:List (Nat×Nat×Operand)) (t:Trie Value):(parts.map fun (a,b,x)=>(a,b,(zb x).ev t))=zg t parts:=by
 unfold zg;apply GU;rintro⟨a,b,x⟩ _;show (a,b,(zb x).ev t)=(a,b,ev t x);rw[za]
theorem zBw (args:List Operand) (t:Trie Value):(args.map fun a=>(zb a).ev t)=args.map (ev t):=by
 apply GU;intro a _;exact za a t
theorem zQO (ok:ExOk e x) (op:AOp) (t:Trie Value) (h:AHeap) (K:Value->AHeap->R):(zQG P op).run x t h K=ZV (aop P e t h op) K:=by
 have slow:Yo op=true->ZV (aop P Ex.bot t h op) K=ZV (aop P e t h op) K:=fun hp=>by rw[zI8 e hp]
 cases op with
 |mov a=>show K ((zb a).ev t) h=_;rw[za];rfl
 |pick c a b=>
  show zCi ((zb c).ev t) (fun q=>K (yH q ((zb a).ev t) ((zb b).ev t)) h)=_;rw[za,za,za];simp only[aop];cases ev t c with
  |bool q=>cases q<;>rfl
  |_=>rfl
 |bin op a b=>
  show (zSg op).run ((zb a).ev t) ((zb b).ev t) (fun v=>K v h)=_;rw[za,za,zQ9];simp only[aop,ZV];cases z0 op (ev t a) (ev t b)<;>rfl
 |load agg n a=>
  simp only[aop];cases hn:(Nat.beq n 1&& !agg)with
  |true=>
   rw[QF]at hn;obtain⟨h1,h2⟩:=hn;have h1:=QG h1;have h2:agg=false:=by cases agg<;>simp_all
   subst h1 h2;show zFw ((zb a).ev t) (fun a=>yH a.spot.isNone (zHy h a.block fun cells=>ZS (zLL cells a.off) fun v=>K v h) none)=_;rw[za];cases ev t a with
   |pointer p=>
    cases p with
    |none=>rfl
    |some ad=>
     dsimp only;show yH ad.spot.isNone _ none=_;rw[yF];cases ad.spot.isNone with
     |false=>rfl
     |true=>
      simp only[cond_true,zJh,ZV];cases zq h ad.block with
      |none=>rfl
      |some cells=>
       simp only[QQ,yn,zFv,zL7];cases cells[ad.off]?<;>rfl
   |_=>rfl
  |false=>
   have:zQG P (.load agg n a)=⟨fun _ t h K=>zFw ((zb a).ev t) fun a=>yH a.spot.isNone (zHy h a.block fun cells=>ZS (zFR cells a.off n) fun l=>ZS (zF agg l) fun v=>K v h) none⟩:=by
    show yH (Nat.beq n 1&& !agg) _ _=_;rw[hn];rfl
   rw[this];show zFw ((zb a).ev t) (fun a=>yH a.spot.isNone (zHy h a.block fun cells=>ZS (zFR cells a.off n) fun l=>ZS (zF agg l) fun v=>K v h) none)=_;rw[za];cases ev t a with
   |pointer p=>
    cases p with
    |none=>rfl
    |some ad=>
     dsimp only;show yH ad.spot.isNone _ none=_;rw[yF];cases ad.spot.isNone with
     |false=>rfl
     |true=>
      simp only[cond_true,zJh,ZV];cases zq h ad.block with
      |none=>rfl
      |some cells=>
       simp only[QQ,yn,zDG];cases cut cells ad.off n with
       |none=>rfl
       |some l=>simp only[QQ];cases zF agg l<;>rfl
   |_=>rfl
 |store n a b=>
  show zFw ((zb a).ev t) (fun a=>yH (Nat.beq n 1) (match (zb b).ev t with
   | .agg cs=>bif Nat.beq cs.size n then (zX h a cs.toList).bind fun h=>K undef h else none
   |v=>zBd h a v fun h=>K undef h) (ZV (bif Nat.beq ((zb b).ev t).cells.size n then (zX h a ((zb b).ev t).cells.toList).map (undef,·) else none) K))=_
  rw[za,za];simp only[aop];cases ev t a with
  |pointer p=>
   cases p with
   |none=>rfl
   |some ad=>
    show yH (Nat.beq n 1) _ _=_;rw[yF];cases hn:Nat.beq n 1 with
    |false=>rfl
    |true=>
     have:=QG hn;subst this;simp only[cond_true];have plain:∀ v:Value,v.cells.size=1->(∀ cs,v≠ .agg cs)->(zBd h ad v fun h=>K undef h)=ZV (bif Nat.beq v.cells.size 1 then (zX h ad v.cells.toList).map (undef,·) else none) K:=fun v h1 h2=>by
      have h3:Nat.beq v.cells.size 1=true:=by rw[h1];rfl
      rw[zIN h ad v h1 h2,h3,cond_true,ZV];cases zX h ad v.cells.toList<;>rfl
     cases ev t b with
     |agg cs=>
      simp only[Value.cells];cases Nat.beq cs.size 1 with
      |false=>rfl
      |true=>simp only[cond_true,ZV];cases zX h ad cs.toList<;>rfl
     |_=>exact plain _ rfl (fun cs=>by simp)
  |_=>rfl
 |idx c a i=>
  show (match (zb a).ev t with
   | .slice (some a) len k=>zRw ((zb i).ev t) fun i=>yH (Nat.ble (Nat.succ i) len) (yH (Nat.beq k c) (yH a.spot.isNone (K (.pointer (some ⟨a.block,Nat.add a.off (Nat.mul i c),none⟩)) h) none) none) none
   |_=>none)=_
  rw[za,za];simp only[aop];cases ev t a with
  |slice p len k=>
   cases p with
   |none=>rfl
   |some ad=>
    simp only[zOW];cases asN (ev t i)with
    |none=>rfl
    |some j=>
     simp only[QQ,yF];have hs:Nat.ble (Nat.succ j) len=Nat.ble (j+1) len:=rfl;rw[hs];cases Nat.ble (j+1) len<;>cases Nat.beq k c<;>cases ad.spot.isNone<;>rfl
  |_=>rfl
 |fld off a=>
  show zFw ((zb a).ev t) (fun a=>yH a.spot.isNone (K (.pointer (some ⟨a.block,Nat.add a.off off,none⟩)) h) none)=_;rw[za];simp only[aop];cases ev t a with
  |pointer p=>
   cases p with
   |none=>rfl
   |some ad=>dsimp only;show yH ad.spot.isNone _ none=_;rw[yF];cases ad.spot.isNone<;>rfl
  |_=>rfl
 |len a=>
  show (match (zb a).ev t with
   | .slice _ n _=>K (.int .i64 (Int.ofNat n)) h
   |_=>none)=_
  rw[za];simp only[aop];cases ev t a<;>rfl
 |nilCheck a=>
  show ZS (YT ((zb a).ev t)) (fun v=>K v h)=_;rw[za,yn];simp only[aop,ZV];cases YT (ev t a)<;>rfl
 |extract a i=>
  show (match (zb a).ev t with
   | .tuple vs=>ZS (zLL vs.toList i) fun v=>K v h
   |_=>none)=_
  rw[za];simp only[aop];cases ev t a with
  |tuple vs=>
   simp only[yn,zFv,Array.getElem?_toList];cases vs[i]?<;>rfl
  |_=>rfl
 |alloc zero=>show K _ (zCv h _)=_;rw[zDc];rfl
 |box a=>show K _ (zCv h (.row ((zb a).ev t).cells.toList true 0))=_;rw[zDc,za];rfl
 |call f args=>
  show zFu x ((zb f).ev t) (args.map fun a=>(zb a).ev t) h K=_;rw[zBw,za,zEb ok];rfl
 |invoke a name args=>
  show (match (zb a).ev t with
   | .iface ty v=>ZS (YK P ty name) fun f=>x.call f (v::args.map fun a=>(zb a).ev t) h K
   |_=>ZV (aop P Ex.bot t h (.invoke a name args)) K)=_
  rw[za,zBw];simp only[aop];cases hv:ev t a with
  |iface ty v=>
   simp only[Yq,yn];cases YK P ty name with
   |none=>rfl
   |some f=>simp only[QQ];exact ok.call _ _ _ _
  |_=>rfl
 |un op a=>
  show ZS (unV op ((zb a).ev t)) (fun v=>K v h)=_;rw[za,yn];simp only[aop,ZV];cases unV op (ev t a)<;>rfl
 |isNil kind neg a=>
  show ZS (zCw kind ((zb a).ev t)) (fun b=>K (.bool (if neg then !b else b)) h)=_;rw[za,yn];simp only[aop,ZV];cases zCw kind (ev t a)<;>rfl
 |binB neg a b=>
  show zCi ((zb a).ev t) (fun x=>zCi ((zb b).ev t) fun y=>K (.bool (if neg then x != y else x == y)) h)=_;rw[za,za];simp only[aop];cases ev t a with
  |bool x=>cases ev t b<;>rfl
  |_=>rfl
 |conv k a=>
  show zQr ((zb a).ev t) (fun _ n=>K (.int k (zBb k n)) h)=_;rw[za];simp only[aop];cases ev t a with
  |int kk n=>show K (.int k (zBb k n)) h=_;rw[zAh];rfl
  |_=>rfl
 |build zero parts=>
  show ZS (yg zero (parts.map fun (a,b,x)=>(a,b,(zb x).ev t))) (fun cells=>K (.agg cells.toArray) h)=_;rw[zEo,yn];simp only[aop,ZV];cases yg zero (zg t parts)<;>rfl
 |buildSlice len c zero parts=>
  show ZS (yg (zR zero len) (parts.map fun (a,b,x)=>(a,b,(zb x).ev t))) (fun cells=>K (.slice (some ⟨h.n,0,none⟩) len c) (zCv h (.row cells true 0)))=_;rw[zEo,yn];simp only[aop,ZV,zDc];cases yg (zR zero len) (zg t parts)<;>rfl
 |part agg off n a=>
  show (match (zb a).ev t with
   | .agg cs=>ZS (zFR cs.toList off n) fun l=>ZS (zF agg l) fun v=>K v h
   |_=>none)=_
  rw[za];simp only[aop];cases ev t a with
  |agg cs=>
   simp only[zDG,yn];cases cut cs.toList off n with
   |none=>rfl
   |some l=>simp only[QQ];cases zF agg l<;>rfl
  |_=>rfl
 |mkFunc fn first cap=>
  show (match fn with
   | .func f=>K (.func (.func f) (first.map fun a=>(zb a).ev t).toArray (cap.map fun a=>(zb a).ev t).toArray) h
   |_=>none)=_
  rw[zBw,zBw];simp only[aop];cases fn<;>rfl
 |append c a b=>
  show ZV (yM c ((zb a).ev t) ((zb b).ev t) h) K=_;rw[za,za];rfl
 |dfr f args=>rfl
 |dfrClear _ _ _ _=>rfl
 |recover=>rfl
 |_=>first|rfl|(show ZV (aop P Ex.bot t h _) K=_;exact slow rfl)
end
abbrev FrK:=AFr->AHeap->R
def frK (x:Option (AFr×AHeap)) (K:FrK):R:=x.bind fun p=>K p.1 p.2
structure CloO where
 run:ExK->AFr->AHeap->FrK->R
structure CloD where
 set:Trie Value->Value->Trie Value
def zHA (d:Option Nat):CloD:=
 match d with
 |some d=>⟨(Yz 64 d).set⟩
 |none=>⟨fun t _=>t⟩
theorem zI1 (d:Option Nat) (fr:AFr) (v:Value):(⟨(zHA d).set fr.tm v,fr.dfs,fr.round⟩:AFr)=val d fr v:=by
 cases d with
 |none=>rfl
 |some d=>show (⟨(Yz 64 d).set fr.tm v,fr.dfs,fr.round⟩:AFr)=_;rw[(zGB 64 d).2];rfl
def zMs:AOp->Bool
 | .dfr .. | .dfrClear .. | .recover=>true
 |_=>false
def zKC (P:Program) (op:AOp) (d:Option Nat):CloO:=
 yH (zMs op) ⟨fun _ fr h K=>(zc P Ex.bot fr.tm fr.round h op).bind fun p=>K (val d {fr with dfs:=p.2.1++fr.dfs} p.1) p.2.2⟩
  ⟨fun x fr h K=>(zQG P op).run x fr.tm h fun v h=>K ⟨(zHA d).set fr.tm v,fr.dfs,fr.round⟩ h⟩
def zLM (P:Program) (o:AOper):CloO:=
 match o.guard with
 |none=>zKC P o.op o.dst
 |some (j,want)=>⟨fun x fr h K=>match (zb (.tmp j)).ev fr.tm with
  | .bool b=>yH (b == want) ((zKC P o.op o.dst).run x fr h K) (K ⟨(zHA o.dst).set fr.tm undef,fr.dfs,fr.round⟩ h)
  |_=>K ⟨(zHA o.dst).set fr.tm undef,fr.dfs,fr.round⟩ h⟩
section
variable {P:Program} {e:Ex} {x:ExK}
theorem zQq (ok:ExOk e x) (op:AOp) (d:Option Nat) (fr:AFr) (h:AHeap) (K:FrK):
  (zKC P op d).run x fr h K=(zc P e fr.tm fr.round h op).bind fun p=>K (val d {fr with dfs:=p.2.1++fr.dfs} p.1) p.2.2:=by
 unfold zKC;cases hd:zMs op with
 |true=>
  show (zc P Ex.bot fr.tm fr.round h op).bind _=_;have:zc P Ex.bot fr.tm fr.round h op=zc P e fr.tm fr.round h op:=by cases op<;>first|(cases hd;done)|rfl
  rw[this]
 |false=>
  show (zQG P op).run x fr.tm h (fun v h=>K ⟨(zHA d).set fr.tm v,fr.dfs,fr.round⟩ h)=_;rw[zQO ok];have e1:zc P e fr.tm fr.round h op=match aop P e fr.tm h op with
   |some (v,h)=>some (v,[],h)
   |none=>none:=by cases op<;>first|(cases hd;done)|rfl
  rw[e1];cases aop P e fr.tm h op with
  |none=>rfl
  |some q=>
   obtain⟨v,h⟩:=q;show K ⟨(zHA d).set fr.tm v,fr.dfs,fr.round⟩ h=K (val d {fr with dfs:=[]++fr.dfs} v) h;rw[zI1];rfl
theorem zJd (ok:ExOk e x) (o:AOper) (fr:AFr) (h:AHeap) (K:FrK):(zLM P o).run x fr h K=frK (zx P e o fr h) K:=by
 obtain⟨d,g,op⟩:=o;have plain:(zKC P op d).run x fr h K=frK (match zc P e fr.tm fr.round h op with
  |some (v,ds,h)=>some (val d {fr with dfs:=ds++fr.dfs} v,h)
  |none=>none) K:=by
  rw[zQq ok];cases zc P e fr.tm fr.round h op<;>rfl
 cases g with
 |none=>exact plain
 |some g=>
  obtain⟨j,want⟩:=g;have e0:(zLM P ⟨d,some (j,want),op⟩).run x fr h K=(match (zb (.tmp j)).ev fr.tm with
   | .bool b=>yH (b == want) ((zKC P op d).run x fr h K) (K ⟨(zHA d).set fr.tm undef,fr.dfs,fr.round⟩ h)
   |_=>K ⟨(zHA d).set fr.tm undef,fr.dfs,fr.round⟩ h):=rfl
  have e1:zx P e ⟨d,some (j,want),op⟩ fr h=bif (match zB fr.tm j with| .bool b=>b == want|_=>false) then (match zc P e fr.tm fr.round h op with
   |some (v,ds,h)=>some (val d {fr with dfs:=ds++fr.dfs} v,h)
   |none=>none) else some (val d fr undef,h):=rfl
  rw[e0,e1,plain,za,zI1];have e2:ev fr.tm (.tmp j)=zB fr.tm j:=rfl;rw[e2];cases zB fr.tm j with
  |bool b=>
   dsimp only;rw[yF];cases (b == want)<;>rfl
  |_=>rfl
def zJZ (P:Program) (l:List AOper):CloO:=
 @List.rec AOper (fun _=>CloO) ⟨fun _ fr h K=>K fr h⟩ (fun o _ k=>⟨fun x fr h K=>(zLM P o).run x fr h fun fr h=>k.run x fr h K⟩) l
theorem zHj (ok:ExOk e x):∀ (l:List AOper) (fr:AFr) (h:AHeap) (K:FrK),(zJZ P l).run x fr h K=frK (yN P e l fr h) K
 |[],_,_,_=>rfl
 |o::l,fr,h,K=>by
  show (zLM P o).run x fr h (fun fr h=>(zJZ P l).run x fr h K)=_;rw[zJd ok];simp only[yN,frK];cases zx P e o fr h with
  |none=>rfl
  |some q=>exact zHj ok l q.1 q.2 K
structure CloC where
 run:ExK->Nat->AFr->AHeap->FrK->R
def zOV (P:Program) (o:AOper):CloC:=
 yH (Nat.beq (zE o.op) 3) ⟨fun _ g fr h K=>frK (zw P Ex.bot g o fr h) K⟩ ⟨fun x _ fr h K=>(zLM P o).run x fr h K⟩
theorem zQu (ok:ExOk e x) (o:AOper) (g:Nat) (fr:AFr) (h:AHeap) (K:FrK):(zOV P o).run x g fr h K=frK (zw P e g o fr h) K:=by
 unfold zOV;cases hk:Nat.beq (zE o.op) 3 with
 |true=>
  show frK (zw P Ex.bot g o fr h) K=_;unfold zw;simp only[hk,cond_true]
 |false=>
  show (zLM P o).run x fr h K=_;rw[zJd ok];unfold zw;simp only[hk,QR]
abbrev RsT:=List (Nat×Nat×Option (Nat×Nat×List Value))
structure CloR where
 run:ExK->Nat->Nat->List (Nat×Nat)->RsT->List (Nat×Nat)->AFr->AHeap->(AFr->AHeap->List (Nat×Nat)->R)->R
def okC (o:AOper) (un:List Nat) (ws:List (Nat×Nat)) (rs:RsT) (bs:List (Nat×Nat)) (t:Trie Value) (h':AHeap):Bool:=
 (match zY t o with
  |some g=>(ws.all fun (j,g')=> !(Nat.beq g g'&&un.contains j))&&bs.all fun (j,n)=> !un.contains j||Nat.ble (g+1) n
  |none=>true)&&rs.all fun (j,g,vw)=> !(un.contains j&&h'.wr.contains g)||zCn h' g vw
def okF (o:AOper) (un:List Nat) (ws:List (Nat×Nat)) (rs:RsT) (bs:List (Nat×Nat)) (t:Trie Value) (h':AHeap):Bool:=
 match un with
 |[]=>true
 |un=>okC o un ws rs bs t h'
theorem zSN (o:AOper) (un:List Nat) (ws:List (Nat×Nat)) (rs:RsT) (bs:List (Nat×Nat)) (t:Trie Value) (h':AHeap):okF o un ws rs bs t h'=okC o un ws rs bs t h':=by
 cases un with
 |cons a l=>rfl
 |nil=>
  unfold okF okC;cases zY t o<;>simp
def zP6 (P:Program) (l:List (AOper×List Nat)):CloR:=
 @List.rec (AOper×List Nat) (fun _=>CloR) ⟨fun _ _ _ ws _ _ fr h K=>K fr h ws⟩
  (fun o _ k=>⟨fun x i g ws rs bs fr h K=>(zOV P o.1).run x g fr ⟨h.n,h.tab,h.n,[]⟩ fun fr' h'=>
   yH (okF o.1 o.2 ws rs bs fr.tm h') (k.run x (Nat.succ i) (yH (Nat.beq (zE o.1.op) 3) (Nat.succ g) g) (h'.wr.map (fun g=>(i,g))++ws) (match zY fr.tm o.1 with
     |some g=>(i,g,Yg fr.tm h o.1.op)::rs
     |none=>rs) ((i,h.n)::bs) fr' h' K) none⟩) l
theorem zJm (ok:ExOk e x):∀ (l:List (AOper×List Nat)) (i g:Nat) (ws:List (Nat×Nat)) (rs:RsT) (bs:List (Nat×Nat)) (fr:AFr) (h:AHeap) (K:AFr->AHeap->List (Nat×Nat)->R),
  (zP6 P l).run x i g ws rs bs fr h K=(z9 P e l i g ws rs bs fr h).bind fun p=>K p.1 p.2.1 p.2.2
 |[],_,_,_,_,_,_,_,_=>rfl
 |(o,un)::l,i,g,ws,rs,bs,fr,h,K=>by
  show (zOV P o).run x g fr ⟨h.n,h.tab,h.n,[]⟩ (fun fr' h'=>
   yH (okF o un ws rs bs fr.tm h') ((zP6 P l).run x (Nat.succ i) (yH (Nat.beq (zE o.op) 3) (Nat.succ g) g) (h'.wr.map (fun g=>(i,g))++ws) (match zY fr.tm o with
     |some g=>(i,g,Yg fr.tm h o.op)::rs
     |none=>rs) ((i,h.n)::bs) fr' h' K) none)=_
  rw[zQu ok,z9];show frK (zw P e g o fr {h with mark:=h.n,wr:=[]}) _=_;cases zw P e g o fr {h with mark:=h.n,wr:=[]} with
  |none=>rfl
  |some q=>
   obtain⟨fr',h'⟩:=q;show yH (okF o un ws rs bs fr.tm h') _ none=(bif okC o un ws rs bs fr.tm h' then _ else none).bind _;rw[zSN,yF];cases okC o un ws rs bs fr.tm h' with
   |false=>rfl
   |true=>simp only[cond_true];rw[zJm ok l,yF];rfl
structure CloX where
 run:ExK->AFr->AHeap->(AExit->AFr->AHeap->R)->R
def zSJ (l:List (AOper×List Nat)):Nat:=(l.filter fun x=>Nat.beq (zE x.1.op) 3).length
def zFn (x:ExK) (b:ACode) (n:Nat):ACode->AFr->AHeap->(AExit->AFr->AHeap->R)->R:=
 @Nat.rec (fun _=>ACode->AFr->AHeap->(AExit->AFr->AHeap->R)->R) (fun _ _ _ _=>none) (fun _ k c fr h K=>x.exec c fr h fun e fr h=>match e with
  | .goto l=>(match zn b l with
   |some rest=>k rest fr h K
   |none=>K (.goto l) fr h)
  |e=>K e fr h) n
def exK (x:Option (AExit×AFr×AHeap)) (K:AExit->AFr->AHeap->R):R:=x.bind fun p=>K p.1 p.2.1 p.2.2
theorem zE0 (ok:ExOk e x) (b:ACode):∀ (n:Nat) (c:ACode) (fr:AFr) (h:AHeap) (K:AExit->AFr->AHeap->R),zFn x b n c fr h K=exK (ZX e n b c fr h) K
 |0,_,_,_,_=>rfl
 |n+1,c,fr,h,K=>by
  show x.exec c fr h (fun e fr h=>match e with
   | .goto l=>(match zn b l with
    |some rest=>zFn x b n rest fr h K
    |none=>K (.goto l) fr h)
   |e=>K e fr h)=_
  rw[ok.exec];simp only[ZX];cases e.exec c fr h with
  |none=>rfl
  |some p=>
   obtain⟨ex,fr1,h1⟩:=p;cases ex with
   |goto l=>
    simp only[QQ];cases zn b l with
    |none=>rfl
    |some rest=>exact zE0 ok b n rest fr1 h1 K
   |_=>rfl
def zDD (x:ExK) (f:Value) (params:List Nat) (assign body:ACode) (fr:AFr) (d:Nat) (mark:List Deferred) (h:AHeap) (K:AExit->AFr->AHeap->R):R:=
 zFu x f [.func (.yield h.n) #[] #[]] (h.push (.loop {state:= .ready,pending:=none,fn:=0,tm:=fr.tm,params,assign,body,defers:=d})) fun _ h2=>
  match h2.get h.n with
  |some (.loop r)=>
   match r.state with
   | .busy=>none
   |_=>match r.pending with
    |none=>K .normal {fr with dfs:=mark++fr.dfs} (h2.set h.n (.loop {r with state:= .exhausted}))
    |some .ret=>K .ret {fr with dfs:=mark++fr.dfs} (h2.set h.n (.loop {r with state:= .exhausted}))
    |some (.exit id)=>K (.exit id) {fr with dfs:=mark++fr.dfs} (h2.set h.n (.loop {r with state:= .exhausted}))
    |some (.goto g)=>K (.goto g) {fr with dfs:=mark++fr.dfs} (h2.set h.n (.loop {r with state:= .exhausted}))
    |some _=>none
  |_=>none
theorem zD2 (ok:ExOk e x) (f:Value) (params:List Nat) (assign body:ACode) (fr:AFr) (d:Nat) (mark:List Deferred) (h:AHeap) (K:AExit->AFr->AHeap->R):
  zDD x f params assign body fr d mark h K=exK (YX e f params assign body fr d mark h) K:=by
 unfold zDD YX;rw[zEb ok];cases Y6 e f [.func (.yield h.n) #[] #[]] (h.push (.loop {state:= .ready,pending:=none,fn:=0,tm:=fr.tm,params,assign,body,defers:=d}))with
 |none=>rfl
 |some p=>
  obtain⟨v,h2⟩:=p;simp only[ZV,QQ];cases h2.get h.n with
  |none=>rfl
  |some o=>
   cases o with
   |loop r=>
    simp only;cases r.state<;>(simp only;try rfl)<;>(cases r.pending with
     |none=>rfl
     |some c=>cases c<;>rfl)
   |_=>rfl
def zFQ (x:ExK) (f:Value) (params:List Nat) (assign body:ACode) (fr:AFr) (h:AHeap) (K:AExit->AFr->AHeap->R):R:=
 match fr.round with
 |none=>zDD x f params assign body fr h.n [{target:= .collected h.n,args:=#[]}] (h.push (.deferred (some []))) K
 |some l=>match h.get l with
  |some (.loop r)=>zDD x f params assign body fr r.defers [] h K
  |_=>none
theorem zKt (ok:ExOk e x) (f:Value) (params:List Nat) (assign body:ACode) (fr:AFr) (h:AHeap) (K:AExit->AFr->AHeap->R):zFQ x f params assign body fr h K=exK (zAD e f params assign body fr h) K:=by
 unfold zFQ zAD;cases fr.round with
 |none=>exact zD2 ok _ _ _ _ _ _ _ _ _
 |some l=>
  simp only;cases h.get l with
  |none=>rfl
  |some o=>
   cases o with
   |loop r=>exact zD2 ok _ _ _ _ _ _ _ _ _
   |_=>rfl
def zRe (P:Program) (c:ACode):CloX:=
 match c with
 | .skip=>⟨fun _ fr h K=>K .normal fr h⟩
 | .label _=>⟨fun _ fr h K=>K .normal fr h⟩
 | .region ops=>⟨fun x fr h K=>(zJZ P ops).run x fr h fun fr h=>K .normal fr h⟩
 | .regionC ops=>⟨fun x fr h K=>(zP6 P ops).run x 0 h.n [] [] [] fr ⟨Nat.add h.n (zSJ ops),h.tab,h.mark,h.wr⟩ fun fr' h' ws=>K .normal fr' ⟨h'.n,h'.tab,h.mark,((ws.map (·.2)).filter fun g=> !Nat.ble h.mark g)++h.wr⟩⟩
 | .seq a b=>⟨fun x fr h K=>x.exec a fr h fun e fr h=>match e with
  | .normal=>x.exec b fr h K
  |e=>K e fr h⟩
 | .cond c a b=>⟨fun x fr h K=>zCi ((zb c).ev fr.tm) fun q=>yH q (x.exec a fr h K) (x.exec b fr h K)⟩
 | .block id b=>⟨fun x fr h K=>x.exec b fr h fun e fr h=>match e with
  | .exit id'=>yH (Nat.beq id' id) (K .normal fr h) (K (.exit id') fr h)
  |e=>K e fr h⟩
 | .loop b=>⟨fun x fr h K=>x.exec b fr h fun e fr h=>match e with
  | .normal=>x.exec (.loop b) fr h K
  |e=>K e fr h⟩
 | .exit id=>⟨fun _ fr h K=>K (.exit id) fr h⟩
 | .goto l=>⟨fun _ fr h K=>K (.goto l) fr h⟩
 | .ret=>⟨fun _ fr h K=>K .ret fr h⟩
 | .scope b=>⟨fun x fr h K=>zFn x b zEn b fr h K⟩
 | .rangeFunc f params assign body=>⟨fun x fr h K=>zFQ x ((zb f).ev fr.tm) params assign body fr h K⟩
theorem zQB (ok:ExOk e x) (c:ACode) (fr:AFr) (h:AHeap) (K:AExit->AFr->AHeap->R):(zRe P c).run x fr h K=exK (zV P e c fr h) K:=by
 cases c with
 |region ops=>
  show (zJZ P ops).run x fr h (fun fr h=>K .normal fr h)=_;rw[zHj ok];simp only[zV,frK,exK];cases yN P e ops fr h<;>rfl
 |regionC ops=>
  show (zP6 P ops).run x 0 h.n [] [] [] fr ⟨Nat.add h.n (zSJ ops),h.tab,h.mark,h.wr⟩ (fun fr' h' ws=>K .normal fr' ⟨h'.n,h'.tab,h.mark,((ws.map (·.2)).filter fun g=> !Nat.ble h.mark g)++h.wr⟩)=_;rw[zJm ok];simp only[zV,exK,Z9];have:(⟨Nat.add h.n (zSJ ops),h.tab,h.mark,h.wr⟩:AHeap)={h with n:=h.n+(ops.filter fun x=>Nat.beq (zE x.1.op) 3).length}:=rfl;rw[this];cases z9 P e ops 0 h.n [] [] [] fr {h with n:=h.n+(ops.filter fun x=>Nat.beq (zE x.1.op) 3).length}<;>rfl
 |seq a b=>
  show x.exec a fr h (fun e fr h=>match e with
   | .normal=>x.exec b fr h K
   |e=>K e fr h)=_
  rw[ok.exec];simp only[zV,exK];cases e.exec a fr h with
  |none=>rfl
  |some p=>
   obtain⟨ex,fr1,h1⟩:=p;cases ex with
   |normal=>exact ok.exec _ _ _ _
   |_=>rfl
 |cond c a b=>
  show zCi ((zb c).ev fr.tm) (fun q=>yH q (x.exec a fr h K) (x.exec b fr h K))=_;rw[za];simp only[zV,exK];cases ev fr.tm c with
  |bool q=>cases q<;>exact ok.exec _ _ _ _
  |_=>rfl
 |block id b=>
  show x.exec b fr h (fun e fr h=>match e with
   | .exit id'=>yH (Nat.beq id' id) (K .normal fr h) (K (.exit id') fr h)
   |e=>K e fr h)=_
  rw[ok.exec];simp only[zV,exK];cases e.exec b fr h with
  |none=>rfl
  |some p=>
   obtain⟨ex,fr1,h1⟩:=p;cases ex with
   |exit i=>
    simp only[QQ];rw[yF];by_cases hi:i=id
    ·subst hi;simp
    ·have:Nat.beq i id=false:=by rw[Bool.eq_false_iff];intro hb;exact hi (QG hb)
     rw[this,QD hi];rfl
   |_=>rfl
 |loop b=>
  show x.exec b fr h (fun e fr h=>match e with
   | .normal=>x.exec (.loop b) fr h K
   |e=>K e fr h)=_
  rw[ok.exec];simp only[zV,exK];cases e.exec b fr h with
  |none=>rfl
  |some p=>
   obtain⟨ex,fr1,h1⟩:=p;cases ex with
   |normal=>exact ok.exec _ _ _ _
   |_=>rfl
 |scope b=>
  show zFn x b zEn b fr h K=exK (ZX e zEn b b fr h) K;exact zE0 ok b zEn b fr h K
 |rangeFunc f ps a b=>
  show zFQ x ((zb f).ev fr.tm) ps a b fr h K=_;rw[za];exact zKt ok _ _ _ _ _ _ _
 |_=>rfl
def zAM (x:ExK) (ds:List Deferred):AHeap->(AHeap->R)->R:=
 @List.rec Deferred (fun _=>AHeap->(AHeap->R)->R) (fun h K=>K h) (fun d _ k h K=>match d.target with
  | .fn (.func f) cap=>x.call f (d.args.toList++cap.toList) h fun _ h=>k h K
  | .builtin .clear _ _ _=>match d.args.toList with
   |[.map (some g)]=>match h.get g with
    |some (.map _ clock)=>k (h.set g (.map [] clock)) K
    |_=>none
   |_=>none
  | .collected g=>match h.get g with
   |some (.deferred (some []))=>k (h.set g (.deferred none)) K
   |_=>none
  |_=>none) ds
theorem zAE (ok:ExOk e x):∀ (ds:List Deferred) (h:AHeap) (K:AHeap->R),zAM x ds h K=(yQ e ds h).bind K
 |[],_,_=>rfl
 |d::ds,h,K=>by
  obtain⟨tg,as⟩:=d;show (match tg with
   | .fn (.func f) cap=>x.call f (as.toList++cap.toList) h fun _ h=>zAM x ds h K
   | .builtin .clear _ _ _=>match as.toList with
    |[.map (some g)]=>match h.get g with
     |some (.map _ clock)=>zAM x ds (h.set g (.map [] clock)) K
     |_=>none
    |_=>none
   | .collected g=>match h.get g with
    |some (.deferred (some []))=>zAM x ds (h.set g (.deferred none)) K
    |_=>none
   |_=>none)=_
  rw[yQ];dsimp only;have mapK:∀ g,(match h.get g with
    |some (.map _ clock)=>zAM x ds (h.set g (.map [] clock)) K
    |_=>none)=(match h.get g with
    |some (.map _ clock)=>yQ e ds (h.set g (.map [] clock))
    |_=>none).bind K:=fun g=>by
   cases h.get g with
   |none=>rfl
   |some o=>cases o<;>first|exact zAE ok ds _ K|rfl
  have defK:∀ g,(match h.get g with
    |some (.deferred (some []))=>zAM x ds (h.set g (.deferred none)) K
    |_=>none)=(match h.get g with
    |some (.deferred (some []))=>yQ e ds (h.set g (.deferred none))
    |_=>none).bind K:=fun g=>by
   cases h.get g with
   |none=>rfl
   |some o=>
    cases o with
    |deferred q=>
     cases q with
     |none=>rfl
     |some l=>cases l<;>first|exact zAE ok ds _ K|rfl
    |_=>rfl
  cases tg with
  |fn f cap=>
   cases f with
   |func f=>
    dsimp only;rw[ok.call];simp only[ZV];cases e.call f (as.toList++cap.toList) h with
    |none=>rfl
    |some p=>exact zAE ok ds p.2 K
   |_=>rfl
  |builtin b ts ty cs=>
   cases b with
   |clear=>
    dsimp only;generalize as.toList=l;rcases l with _|⟨a,_|⟨b,l⟩⟩
    ·rfl
    ·cases a with
     |map r=>
      cases r with
      |none=>rfl
      |some g=>exact mapK g
     |_=>rfl
    ·cases a with
     |map r=>cases r<;>rfl
     |_=>rfl
   |_=>rfl
  |collected g=>exact defK g
  |_=>rfl
def zOD (l:List Value):Nat->Trie Value->Trie Value:=
 @List.rec Value (fun _=>Nat->Trie Value->Trie Value) (fun _ t=>t) (fun v _ k n t=>k (Nat.succ n) ((Yz 64 n).set t v)) l
theorem zG1:∀ (l:List Value) (k:Nat) (t:Trie Value),zOD l k t=zCx l k t
 |[],_,_=>rfl
 |v::l,k,t=>by
  show zOD l (k+1) ((Yz 64 k).set t v)=_;rw[zG1 l,(zGB 64 k).2];rfl
def zRZ (h:AHeap) (t:Trie Value) (r:Nat×Option (Bool×Nat)):Option Value:=
 match r with
 |(k,none)=>some ((zb (.tmp k)).ev t)
 |(k,some (agg,n))=>match (zb (.tmp k)).ev t with
  | .pointer (some a)=>yH a.spot.isNone (match zGc h a.block with
   |some (.row cells _ _)=>(zFR cells a.off n).bind (zF agg)
   |_=>none) none
  |_=>none
theorem zQI (h:AHeap) (t:Trie Value) (r:Nat×Option (Bool×Nat)):zRZ h t r=YB h t r:=by
 obtain⟨k,o⟩:=r;cases o with
 |none=>show some ((zb (.tmp k)).ev t)=some (zB t k);rw[za];rfl
 |some q=>
  obtain⟨agg,n⟩:=q;show (match (zb (.tmp k)).ev t with
   | .pointer (some a)=>yH a.spot.isNone (match zGc h a.block with
    |some (.row cells _ _)=>(zFR cells a.off n).bind (zF agg)
    |_=>none) none
   |_=>none)=(match zB t k with
   | .pointer (some a)=>bif a.spot.isNone then ((zq h a.block).bind fun cells=>cut cells a.off n).bind (zF agg) else none
   |_=>none)
  rw[za];have e2:ev t (.tmp k)=zB t k:=rfl;rw[e2];cases zB t k with
  |pointer p=>
   cases p with
   |none=>rfl
   |some a=>
    dsimp only;rw[yF,zDQ];unfold zq;cases a.spot.isNone with
    |false=>rfl
    |true=>
     cases h.get a.block with
     |none=>rfl
     |some o=>cases o<;>first|(simp only[zDG];rfl)|rfl
  |_=>rfl
def zOM (h:AHeap) (t:Trie Value) (l:List (Nat×Option (Bool×Nat))):Option (List Value):=
 @List.rec (Nat×Option (Bool×Nat)) (fun _=>Option (List Value)) (some []) (fun r _ q=> @Option.rec Value (fun _=>Option (List Value)) none (fun v=> @Option.rec (List Value) (fun _=>Option (List Value)) none (fun vs=>some (v::vs)) q) (zRZ h t r)) l
theorem zHQ (h:AHeap) (t:Trie Value):∀ l,zOM h t l=zo h t l
 |[]=>rfl
 |r::l=>by
  show @Option.rec Value (fun _=>Option (List Value)) none (fun v=> @Option.rec (List Value) (fun _=>Option (List Value)) none (fun vs=>some (v::vs)) (zOM h t l)) (zRZ h t r)=_;rw[zQI,zHQ h t l,zo];cases YB h t r with
  |none=>rfl
  |some v=>cases zo h t l<;>rfl
def zJp (tab:Tab) (x:ExK) (f:FuncId) (args:List Value) (h:AHeap) (K:Value->AHeap->R):R:=
 match tab.stub f with
 |some s=>ZV (s args h) K
 |none=>ZS (tab.code f) fun fn=>x.exec fn.body ⟨zOD args 0 .leaf,[],none⟩ h fun e fr h=>
   yH (match e with| .normal| .ret=>true|_=>false) (zAM x fr.dfs h fun h=>ZS (zOM h fr.tm fn.results) fun vs=>K (one vs) h) none
theorem zNj (ok:ExOk e x) (tab:Tab) (f:FuncId) (args:List Value) (h:AHeap) (K:Value->AHeap->R):zJp tab x f args h K=ZV (zAT P tab e f args h) K:=by
 unfold zJp zAT;cases tab.stub f with
 |some s=>rfl
 |none=>
  simp only;rw[yn];unfold zCF;cases tab.code f with
  |none=>rfl
  |some fn=>
   simp only[QQ];rw[ok.exec,zG1];cases e.exec fn.body ⟨zCx args 0 .leaf,[],none⟩ h with
   |none=>rfl
   |some p=>
    obtain⟨ex,fr,h1⟩:=p;simp only[QQ,yF,zAE ok,yn,zHQ];cases ex<;>simp only[cond_true,QR,ZV,Option.bind_none];all_goals
     cases yQ e fr.dfs h1 with
     |none=>rfl
     |some h2=>
      simp only[QQ];cases zo h2 fr.tm fn.results<;>rfl
def zIw (P:Program) (tab:Tab) (n:Nat):ExK:=
 @Nat.rec (fun _=>ExK) ⟨fun _ _ _ _=>none,fun _ _ _ _=>none⟩ (fun _ x=>⟨fun c fr h K=>(zRe P c).run x fr h K,fun f args h K=>zJp tab x f args h K⟩) n
theorem zJ0 (P:Program) (tab:Tab) (n:Nat):zIw P tab (n+1)=⟨fun c fr h K=>(zRe P c).run (zIw P tab n) fr h K,fun f args h K=>zJp tab (zIw P tab n) f args h K⟩:=rfl
theorem zI2 (P:Program) (tab:Tab) (n:Nat):ExOk (aex P tab n) (zIw P tab n):=by
 induction n with
 |zero=>exact⟨fun _ _ _ _=>rfl,fun _ _ _ _=>rfl⟩
 |succ n ih=>
  rw[zJ0];refine⟨fun c fr h K=> ?_,fun f args h K=> ?_⟩
  ·have:=zQB ih c fr h K (P:=P);exact this
  ·have:=zNj (P:=P) ih tab f args h K;exact this
theorem zON {P:Program} {tab:Tab} {n:Nat} {f:FuncId} {args:List Value} {h:AHeap} {v:Value} (hx:(zIw P tab n).call f args h (fun v _=>some v)=some v):
  ((aex P tab n).call f args h).map (·.1)=some v:=by
 have e:=(zI2 P tab n).call f args h fun v _=>some v;rw[hx]at e;cases hc:(aex P tab n).call f args h with
 |none=>rw[hc]at e;cases e
 |some p=>rw[hc]at e;exact e.symm
end
end
end Go.Am
