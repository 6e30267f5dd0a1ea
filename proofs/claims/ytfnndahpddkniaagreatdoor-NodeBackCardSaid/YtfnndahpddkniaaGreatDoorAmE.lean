/- A part of the abstract machine for the model's programs and of the proof that what it yields the model's call yields (definitions, operations, runs, regions that draw their order); no statement of the seat is proved in this text. -/
import Derived.Test.YtfnndahpddkniaaGreatDoorAmD
set_option linter.unusedVariables false
set_option linter.unusedSimpArgs false
namespace Go.Am
noncomputable section
def yI {α:Type} (b:Bool) (x y:α):α:= @Bool.rec (fun _=>α) y x b
theorem yG {α:Type} (b:Bool) (x y:α):yI b x y=bif b then x else y:=by cases b<;>rfl
def Trie.getF {α:Type} (t:Trie α):Nat->Option α:=
 @Trie.rec α (fun _=>Nat->Option α) (fun _=>none) (fun v _ _ gl gr k=> @Bool.rec (fun _=>Option α) (@Bool.rec (fun _=>Option α) (gr (Nat.pred (Nat.div k (nat_lit 2)))) (gl (Nat.div k (nat_lit 2))) (Nat.beq (Nat.mod k (nat_lit 2)) (nat_lit 1))) v (Nat.beq k (nat_lit 0))) t
theorem zFm {α:Type}:∀ (t:Trie α) (k:Nat),t.getF k=t.get k
 | .leaf,_=>rfl
 | .node v l r,k=>by
  show yI (Nat.beq k 0) v (yI (Nat.beq (k % 2) 1) (l.getF (k / 2)) (r.getF (k / 2 - 1)))=_;rw[yG,yG,zFm l,zFm r];rfl
def zJe {α:Type} (v:Option α) (f:Nat):Nat->Trie α:=
 @Nat.rec (fun _=>Nat->Trie α) (fun _=> .leaf) (fun _ p k=> @Bool.rec (fun _=>Trie α) (@Bool.rec (fun _=>Trie α) (.node none .leaf (p (Nat.pred (Nat.div k (nat_lit 2))))) (.node none (p (Nat.div k (nat_lit 2))) .leaf) (Nat.beq (Nat.mod k (nat_lit 2)) (nat_lit 1))) (.node v .leaf .leaf) (Nat.beq k (nat_lit 0))) f
theorem zEO {α:Type} (v:Option α):∀ (f k:Nat),zJe v f k=Trie.put v f k .leaf
 |0,_=>rfl
 |f+1,k=>by
  show yI (Nat.beq k 0) _ (yI (Nat.beq (k % 2) 1) (Trie.node none (zJe v f (k / 2)) .leaf) (.node none .leaf (zJe v f (k / 2 - 1))))=_;rw[yG,yG,zEO v f,zEO v f];rfl
def Trie.putF {α:Type} (v:Option α) (t:Trie α):Nat->Trie α:=
 @Trie.rec α (fun _=>Nat->Trie α) (fun k=>zJe v (Nat.succ k) k)
  (fun u l r pl pr k=> @Bool.rec (fun _=>Trie α) (@Bool.rec (fun _=>Trie α) (.node u l (pr (Nat.pred (Nat.div k (nat_lit 2))))) (.node u (pl (Nat.div k (nat_lit 2))) r) (Nat.beq (Nat.mod k (nat_lit 2)) (nat_lit 1))) (.node v l r) (Nat.beq k (nat_lit 0))) t
theorem zAH {α:Type} (v:Option α):∀ (f g k:Nat) (t:Trie α),k<f->k<g->Trie.put v f k t=Trie.put v g k t:=by
 intro f;induction f with
 |zero=>intro g k t h;omega
 |succ f ih=>
  intro g k t h1 h2;obtain⟨g,rfl⟩:∃ g',g=g'+1:=⟨g - 1,by omega⟩;have hb:∀ a b:Nat,Nat.beq a b=decide (a=b):=fun a b=>by rw[GI];simp
  cases t with
  |leaf=>
   simp only[Trie.put,hb];by_cases hk:k=0
   ·simp[hk]
   ·simp only[hk,decide_false,QR];rw[ih g (k / 2) _ (by omega) (by omega),ih g (k / 2 - 1) _ (by omega) (by omega)]
  |node u l r=>
   simp only[Trie.put,hb];by_cases hk:k=0
   ·simp[hk]
   ·simp only[hk,decide_false,QR];rw[ih g (k / 2) _ (by omega) (by omega),ih g (k / 2 - 1) _ (by omega) (by omega)]
theorem zDA {α:Type} (v:Option α):∀ (t:Trie α) (k:Nat),t.putF v k=Trie.put v (k+1) k t
 | .leaf,k=>zEO v (k+1) k
 | .node u l r,k=>by
  show yI (Nat.beq k 0) (Trie.node v l r) (yI (Nat.beq (k % 2) 1) (.node u (l.putF v (k / 2)) r) (.node u l (r.putF v (k / 2 - 1))))=_;rw[yG,yG,zDA v l,zDA v r];have hb:∀ a b:Nat,Nat.beq a b=decide (a=b):=fun a b=>by rw[GI];simp
  simp only[Trie.put,hb];by_cases hk:k=0
  ·simp[hk]
  ·simp only[hk,decide_false,QR];rw[zAH v (k / 2+1) k (k / 2) l (by omega) (by omega),zAH v (k / 2 - 1+1) k (k / 2 - 1) r (by omega) (by omega)]
theorem zGr (k:Nat) (v:Value) (hk:¬k=0):(Trie.leaf:Trie Value).set k v=yI (Nat.beq (k % 2) 1) (.node none (Trie.leaf.set (k / 2) v) .leaf) (.node none .leaf (Trie.leaf.set (k / 2 - 1) v)):=by
 have h0:Nat.beq k 0=false:=by cases hb:Nat.beq k 0 with
  |false=>rfl
  |true=>exact absurd (QG hb) hk
 have e:(Trie.leaf:Trie Value).set k v=bif Nat.beq k 0 then Trie.node (some v) .leaf .leaf else bif Nat.beq (k % 2) 1 then .node none (Trie.put (some v) k (k / 2) .leaf) .leaf else .node none .leaf (Trie.put (some v) k (k / 2 - 1) .leaf):=rfl;rw[e,h0,yG,QR,zAH _ k (k / 2+1) (k / 2) _ (by omega) (by omega),zAH _ k (k / 2 - 1+1) (k / 2 - 1) _ (by omega) (by omega)];rfl
theorem zHS (k:Nat) (v:Value) (u:Option Value) (l r:Trie Value) (hk:¬k=0):(Trie.node u l r).set k v=yI (Nat.beq (k % 2) 1) (.node u (l.set (k / 2) v) r) (.node u l (r.set (k / 2 - 1) v)):=by
 have h0:Nat.beq k 0=false:=by cases hb:Nat.beq k 0 with
  |false=>rfl
  |true=>exact absurd (QG hb) hk
 have e:(Trie.node u l r).set k v=bif Nat.beq k 0 then Trie.node (some v) l r else bif Nat.beq (k % 2) 1 then .node u (Trie.put (some v) k (k / 2) l) r else .node u l (Trie.put (some v) k (k / 2 - 1) r):=rfl;rw[e,h0,yG,QR,zAH _ k (k / 2+1) (k / 2) _ (by omega) (by omega),zAH _ k (k / 2 - 1+1) (k / 2 - 1) _ (by omega) (by omega)];rfl
structure CloG where
 get:Trie Value->Option Value
 set:Trie Value->Value->Trie Value
def Y5 (f:Nat):Nat->CloG:=
 @Nat.rec (fun _=>Nat->CloG) (fun k=>⟨fun t=>t.get k,fun t v=>Trie.put (some v) (k+1) k t⟩)
  (fun _ p k=> @Bool.rec (fun _=>CloG) (@Bool.rec (fun _=>CloG)
   ⟨fun t=>(p (Nat.pred (Nat.div k (nat_lit 2)))).get (@Trie.rec Value (fun _=>Trie Value) .leaf (fun _ _ r _ _=>r) t),fun t v=> @Trie.rec Value (fun _=>Trie Value) (.node none .leaf ((p (Nat.pred (Nat.div k (nat_lit 2)))).set .leaf v)) (fun u l r _ _=> .node u l ((p (Nat.pred (Nat.div k (nat_lit 2)))).set r v)) t⟩
   ⟨fun t=>(p (Nat.div k (nat_lit 2))).get (@Trie.rec Value (fun _=>Trie Value) .leaf (fun _ l _ _ _=>l) t),fun t v=> @Trie.rec Value (fun _=>Trie Value) (.node none ((p (Nat.div k (nat_lit 2))).set .leaf v) .leaf) (fun u l r _ _=> .node u ((p (Nat.div k (nat_lit 2))).set l v) r) t⟩
   (Nat.beq (Nat.mod k (nat_lit 2)) (nat_lit 1)))
   ⟨fun t=> @Trie.rec Value (fun _=>Option Value) none (fun v _ _ _ _=>v) t,fun t v=> @Trie.rec Value (fun _=>Trie Value) (.node (some v) .leaf .leaf) (fun _ l r _ _=> .node (some v) l r) t⟩
   (Nat.beq k (nat_lit 0))) f
theorem zGb:∀ (f k:Nat),(∀ t,(Y5 f k).get t=t.get k)/\∀ t v,(Y5 f k).set t v=t.set k v:=by
 intro f;induction f with
 |zero=>intro k;exact⟨fun _=>rfl,fun _ _=>rfl⟩
 |succ f ih=>
  intro k;have hb:∀ a b:Nat,Nat.beq a b=decide (a=b):=fun a b=>by rw[GI];simp
  have step:Y5 (f+1) k=yI (Nat.beq k 0) ⟨fun t=> @Trie.rec Value (fun _=>Option Value) none (fun v _ _ _ _=>v) t,fun t v=> @Trie.rec Value (fun _=>Trie Value) (.node (some v) .leaf .leaf) (fun _ l r _ _=> .node (some v) l r) t⟩
   (yI (Nat.beq (k % 2) 1) ⟨fun t=>(Y5 f (k / 2)).get (@Trie.rec Value (fun _=>Trie Value) .leaf (fun _ l _ _ _=>l) t),fun t v=> @Trie.rec Value (fun _=>Trie Value) (.node none ((Y5 f (k / 2)).set .leaf v) .leaf) (fun u l r _ _=> .node u ((Y5 f (k / 2)).set l v) r) t⟩
    ⟨fun t=>(Y5 f (k / 2 - 1)).get (@Trie.rec Value (fun _=>Trie Value) .leaf (fun _ _ r _ _=>r) t),fun t v=> @Trie.rec Value (fun _=>Trie Value) (.node none .leaf ((Y5 f (k / 2 - 1)).set .leaf v)) (fun u l r _ _=> .node u l ((Y5 f (k / 2 - 1)).set r v)) t⟩):=rfl
  rw[step];by_cases hk:k=0
  ·subst hk;exact⟨fun t=>by cases t<;>rfl,fun t v=>by cases t<;>rfl⟩
  ·have h0:Nat.beq k 0=false:=by rw[hb];simp[hk]
   rw[h0];by_cases ho:k % 2=1
   ·have h1:Nat.beq (k % 2) 1=true:=by rw[hb];simp[ho]
    rw[h1];refine⟨fun t=> ?_,fun t v=> ?_⟩
    ·show (Y5 f (k / 2)).get _=_;rw[(ih _).1];cases t with
     |leaf=>rfl
     |node u l r=>simp only[Trie.get,h0,h1,cond_true,QR]
    ·cases t with
     |leaf=>
      show Trie.node none ((Y5 f (k / 2)).set .leaf v) .leaf=_;rw[(ih _).2,zGr k v hk,h1];rfl
     |node u l r=>
      show Trie.node u ((Y5 f (k / 2)).set l v) r=_;rw[(ih _).2,zHS k v u l r hk,h1];rfl
   ·have h1:Nat.beq (k % 2) 1=false:=by rw[hb];simp[ho]
    rw[h1];refine⟨fun t=> ?_,fun t v=> ?_⟩
    ·show (Y5 f (k / 2 - 1)).get _=_;rw[(ih _).1];cases t with
     |leaf=>rfl
     |node u l r=>simp only[Trie.get,h0,h1,cond_true,QR]
    ·cases t with
     |leaf=>
      show Trie.node none .leaf ((Y5 f (k / 2 - 1)).set .leaf v)=_;rw[(ih _).2,zGr k v hk,h1];rfl
     |node u l r=>
      show Trie.node u l ((Y5 f (k / 2 - 1)).set r v)=_;rw[(ih _).2,zHS k v u l r hk,h1];rfl
structure CloE where
 ev:Trie Value->Value
def ze (x:Operand):CloE:=
 match x with
 | .tmp k=>⟨fun t=> @Option.rec Value (fun _=>Value) undef (fun v=>v) ((Y5 64 k).get t)⟩
 | .const v=>⟨fun _=>v⟩
 | .global g=>⟨fun _=> .pointer (some ⟨g,0,none⟩)⟩
 | .func f=>⟨fun _=> .func (.func f) #[] #[]⟩
theorem zc (x:Operand) (t:Trie Value):(ze x).ev t=ev t x:=by
 cases x with
 |tmp k=>
  show @Option.rec Value (fun _=>Value) undef (fun v=>v) ((Y5 64 k).get t)=(t.get k).getD undef;rw[(zGb 64 k).1];cases t.get k<;>rfl
 |_=>rfl
def zGs (h:AHeap) (g:Nat):Option AObj:=h.tab.getF g
theorem zEU (h:AHeap) (g:Nat):zGs h g=h.get g:=zFm _ _
def zCo (h:AHeap) (o:AObj):AHeap:=⟨Nat.succ h.n,h.tab.putF (some o) h.n,h.mark,h.wr⟩
theorem zDU (h:AHeap) (o:AObj):zCo h o=h.push o:=by unfold zCo AHeap.push Trie.set;rw[zDA]
def zNe (h:AHeap) (g:Nat) (o:AObj):AHeap:=⟨h.n,h.tab.putF (some o) g,h.mark,h.log g⟩
theorem zOI (h:AHeap) (g:Nat) (o:AObj):zNe h g o=h.set g o:=by unfold zNe AHeap.set Trie.set;rw[zDA]
abbrev R:=Option Value
def ZY (x:Option (Value×AHeap)) (K:Value->AHeap->R):R:=x.bind fun p=>K p.1 p.2
structure ExK where
 exec:ACode->AFr->AHeap->(AExit->AFr->AHeap->R)->R
 call:FuncId->List Value->AHeap->(Value->AHeap->R)->R
structure ExOk (e:Ex) (x:ExK):Prop where
 exec:∀ c fr h K,x.exec c fr h K=(e.exec c fr h).bind fun p=>K p.1 p.2.1 p.2.2
 call:∀ f args h K,x.call f args h K=ZY (e.call f args h) K
def zGV (v:Value) (k:Addr->R):R:=match v with
 | .pointer (some a)=>k a
 |_=>none
def ZW {α:Type} (x:Option α) (k:α->R):R:= @Option.rec α (fun _=>R) none k x
theorem yr {α:Type} (x:Option α) (k:α->R):ZW x k=x.bind k:=by cases x<;>rfl
def zIV (h:AHeap) (g:Nat) (k:List Value->R):R:=ZW (zGs h g) fun o=>match o with
 | .row cells _ _=>k cells
 |_=>none
theorem zJM (h:AHeap) (g:Nat) (k:List Value->R):zIV h g k=(zt h g).bind k:=by
 unfold zIV zt;rw[yr,zEU];cases h.get g with
 |none=>rfl
 |some o=>cases o<;>rfl
def zRI (v:Value) (k:IntKind->Int->R):R:=match v with
 | .int kk n=>k kk n
 |_=>none
def zSR (v:Value) (k:Nat->R):R:=match v with
 | .int _ (.ofNat n)=>k n
 |_=>none
theorem zRO (v:Value) (k:Nat->R):zSR v k=(asN v).bind k:=by
 cases v with
 |int kk n=>cases n<;>rfl
 |_=>rfl
def zCf (k:IntKind):Nat:= @IntKind.rec (fun _=>Nat) (nat_lit 0) (nat_lit 1) (nat_lit 2) (nat_lit 3) (nat_lit 4) (nat_lit 5) (nat_lit 6) (nat_lit 7) k
theorem zNu (k k':IntKind):Nat.beq (zCf k) (zCf k')=decide (k=k'):=by cases k<;>cases k'<;>rfl
def zBe (k:IntKind) (n:Int):Int:=match n with
 | .ofNat m=>yI (Nat.ble m (nat_lit 127)) (.ofNat m) (yI (Nat.beq (zCf k) (nat_lit 3)) (yI (Nat.ble m (nat_lit 9223372036854775807)) (.ofNat m) (k.wrap (.ofNat m))) (k.wrap (.ofNat m)))
 |n=>k.wrap n
theorem zAk (k:IntKind) (n:Int):zBe k n=k.wrap n:=by
 unfold zBe;cases n with
 |negSucc m=>rfl
 |ofNat m=>
  simp only[yG];cases h1:Nat.ble m 127 with
  |true=>
   have:m<=127:=QL h1;simp only[cond_true];have e:(Int.ofNat m:Int)=(m:Int):=rfl;rw[e];cases k<;>simp[IntKind.wrap,IntKind.signed,IntKind.bits]<;>omega
  |false=>
   simp only[QR];cases h2:Nat.beq (zCf k) 3 with
   |false=>rfl
   |true=>
    simp only[cond_true];have hk:k= .i64:=by cases k<;>first|rfl|cases h2
    subst hk;cases h3:Nat.ble m 9223372036854775807 with
    |false=>rfl
    |true=>
     have:m<=9223372036854775807:=QL h3;simp only[cond_true];have e:(Int.ofNat m:Int)=(m:Int):=rfl;rw[e];simp[IntKind.wrap,IntKind.signed,IntKind.bits];omega
def ltF (a b:Int):Bool:=match a,b with
 | .ofNat m,.ofNat n=>Nat.ble (Nat.succ m) n
 | .negSucc _,.ofNat _=>true
 | .ofNat _,.negSucc _=>false
 | .negSucc m,.negSucc n=>Nat.ble (Nat.succ n) m
theorem zDl (a b:Int):ltF a b=decide (a<b):=by
 have hb:∀ a b:Nat,Nat.ble a b=decide (a<=b):=fun a b=>by rw[GI];simp
 have e1:∀ n:Nat,Int.ofNat n=(n:Int):=fun _=>rfl;have e2:∀ n:Nat,Int.negSucc n= -((n:Int)+1):=fun n=>by omega
 cases a<;>cases b<;>simp only[ltF,hb]<;>rw[GI]<;>simp only[QX,Qk,true_iff,G8,e1,e2]<;>omega
def eqF (a b:Int):Bool:=match a,b with
 | .ofNat m,.ofNat n=>Nat.beq m n
 | .negSucc m,.negSucc n=>Nat.beq m n
 |_,_=>false
theorem zFw (a b:Int):eqF a b=decide (a=b):=by
 have hb:∀ a b:Nat,Nat.beq a b=decide (a=b):=fun a b=>by rw[GI];simp
 have e1:∀ n:Nat,Int.ofNat n=(n:Int):=fun _=>rfl;have e2:∀ n:Nat,Int.negSucc n= -((n:Int)+1):=fun n=>by omega
 cases a<;>cases b<;>simp only[eqF,hb]<;>rw[GI]<;>simp only[QX,Qk,true_iff,G8,e1,e2]<;>omega
def zEX (x y:Value) (k:IntKind->Int->Int->R):R:=zRI x fun kk a=>zRI y fun kk' b=>yI (Nat.beq (zCf kk) (zCf kk')) (k kk a b) none
structure CloB where
 run:Value->Value->(Value->R)->R
def zSZ (op:BinOp):CloB:=
 match op with
 | .add=>⟨fun x y k=>zEX x y fun kk a b=>k (.int kk (zBe kk (Int.add a b)))⟩
 | .sub=>⟨fun x y k=>zEX x y fun kk a b=>k (.int kk (zBe kk (Int.sub a b)))⟩
 | .eql=>⟨fun x y k=>zEX x y fun _ a b=>k (.bool (eqF a b))⟩
 | .neq=>⟨fun x y k=>zEX x y fun _ a b=>k (.bool (!eqF a b))⟩
 | .lss=>⟨fun x y k=>zEX x y fun _ a b=>k (.bool (ltF a b))⟩
 | .gtr=>⟨fun x y k=>zEX x y fun _ a b=>k (.bool (ltF b a))⟩
 | .leq=>⟨fun x y k=>zEX x y fun _ a b=>k (.bool (!ltF b a))⟩
 | .geq=>⟨fun x y k=>zEX x y fun _ a b=>k (.bool (!ltF a b))⟩
 |op=>⟨fun x y k=>ZW (z9 op x y) k⟩
theorem zQx (x y:Value) (k:IntKind->Int->Int->R):zEX x y k=match x,y with
  | .int kk a,.int kk' b=>if kk=kk' then k kk a b else none
  |_,_=>none:=by
 cases x with
 |int kk a=>
  cases y with
  |int kk' b=>
   show yI (Nat.beq (zCf kk) (zCf kk')) (k kk a b) none=if kk=kk' then k kk a b else none;rw[yG,zNu];by_cases e:kk=kk'
   ·subst e;simp
   ·simp[e]
  |_=>rfl
 |_=>rfl
theorem zGE (a b:Int):(!ltF b a)=decide (a<=b):=by
 rw[zDl,GI];simp
theorem zQW (op:BinOp) (x y:Value) (k:Value->R):(zSZ op).run x y k=(z9 op x y).bind k:=by
 have two:∀ {f:IntKind->Int->Int->Value} {g:Option Value},(g=match x,y with
   | .int kk a,.int kk' b=>if kk=kk' then some (f kk a b) else none
   |_,_=>none)->(zEX x y fun kk a b=>k (f kk a b))=g.bind k:=by
  intro f g hg;rw[zQx,hg];split
  ·split<;>rfl
  ·rfl
 cases op with
 |add=>refine two (f:=fun kk a b=> .int kk (zBe kk (Int.add a b))) ?_;cases x<;>cases y<;>first|rfl|(simp only[z9,zAk];done)|(simp only[z9,zAk];rfl)
 |sub=>refine two (f:=fun kk a b=> .int kk (zBe kk (Int.sub a b))) ?_;cases x<;>cases y<;>first|rfl|(simp only[z9,zAk];done)|(simp only[z9,zAk];rfl)
 |eql=>refine two (f:=fun kk a b=> .bool (eqF a b)) ?_;cases x<;>cases y<;>first|rfl|(simp only[z9,zFw];done)|(simp only[z9,zFw];rfl)
 |neq=>refine two (f:=fun kk a b=> .bool (!eqF a b)) ?_;cases x<;>cases y<;>first|rfl|(simp only[z9,zFw];done)|(simp only[z9,zFw];rfl)
 |lss=>refine two (f:=fun kk a b=> .bool (ltF a b)) ?_;cases x<;>cases y<;>first|rfl|(simp only[z9,zDl];done)|(simp only[z9,zDl];rfl)
 |gtr=>refine two (f:=fun kk a b=> .bool (ltF b a)) ?_;cases x<;>cases y<;>first|rfl|(simp only[z9,zDl];done)|(simp only[z9,zDl];rfl)
 |leq=>refine two (f:=fun kk a b=> .bool (!ltF b a)) ?_;cases x<;>cases y<;>first|rfl|(simp only[z9,zGE];done)|(simp only[z9,zGE];rfl)
 |geq=>refine two (f:=fun kk a b=> .bool (!ltF a b)) ?_;cases x<;>cases y<;>first|rfl|(simp only[z9,zGE,ge_iff_le];done)|(simp only[z9,zGE,ge_iff_le];rfl)
 |_=>exact yr _ _
def zLJ (l:List Value):Nat->Option Value:=
 @List.rec Value (fun _=>Nat->Option Value) (fun _=>none) (fun v _ g n=> @Nat.rec (fun _=>Option Value) (some v) (fun m _=>g m) n) l
theorem zGP:∀ (l:List Value) (n:Nat),zLJ l n=l[n]?
 |[],_=>rfl
 |v::l,0=>rfl
 |v::l,n+1=>by
  show zLJ l n=_;rw[zGP l n];simp
theorem zNo (l:List Value) (n:Nat):(cut l n 1).bind (zG false)=l[n]?:=by
 unfold cut;cases hb:Nat.ble (n+1) l.length with
 |true=>
  have hn:n<l.length:=QL hb;have e:(l.drop n).take 1=[l[n]]:=by rw[GG hn];rfl
  rw[cond_true,QQ,e,QC hn];rfl
 |false=>
  have hn:¬n<l.length:=fun e=>by
   have:Nat.ble (n+1) l.length=true:=QH e;rw[this]at hb;cases hb
  simp[hn]
def zEy (l:List Value):Nat->Option (List Value):=
 @List.rec Value (fun _=>Nat->Option (List Value)) (fun n=> @Nat.rec (fun _=>Option (List Value)) (some []) (fun _ _=>none) n)
  (fun v _ g n=> @Nat.rec (fun _=>Option (List Value)) (some []) (fun m _=> @Option.rec (List Value) (fun _=>Option (List Value)) none (fun r=>some (v::r)) (g m)) n) l
def zFo (l:List Value):Nat->Nat->Option (List Value):=
 @List.rec Value (fun _=>Nat->Nat->Option (List Value)) (fun off n=> @Nat.rec (fun _=>Option (List Value)) (zEy [] n) (fun _ _=>none) off)
  (fun v r g off n=> @Nat.rec (fun _=>Option (List Value)) (zEy (v::r) n) (fun m _=>g m n) off) l
theorem zD3:∀ (l:List Value) (n:Nat),zEy l n=bif Nat.ble n l.length then some (l.take n) else none
 |[],0=>rfl
 |[],n+1=>rfl
 |v::l,0=>rfl
 |v::l,n+1=>by
  show @Option.rec (List Value) (fun _=>Option (List Value)) none (fun r=>some (v::r)) (zEy l n)=_;rw[zD3 l n];have:Nat.ble (n+1) (v::l).length=Nat.ble n l.length:=rfl;rw[this];cases Nat.ble n l.length<;>rfl
theorem zDG:∀ (l:List Value) (off n:Nat),zFo l off n=cut l off n
 |[],0,n=>by
  show zEy [] n=_;rw[zD3];unfold cut;rw[Q5];rfl
 |[],off+1,n=>by
  show none=cut [] (off+1) n;unfold cut;have:Nat.ble (off+1+n) ([]:List Value).length=false:=by
   rw[show off+1+n=(off+n)+1 by omega];rfl
  rw[this];rfl
 |v::l,0,n=>by
  show zEy (v::l) n=_;rw[zD3];unfold cut;rw[Q5];rfl
 |v::l,off+1,n=>by
  show zFo l off n=_;rw[zDG l off n];unfold cut;have:Nat.ble (off+1+n) (v::l).length=Nat.ble (off+n) l.length:=by
   rw[show off+1+n=(off+n)+1 by omega];rfl
  rw[this];rfl
def zF3 (v:Value) (l:List Value):Nat->Option (List Value):=
 @List.rec Value (fun _=>Nat->Option (List Value)) (fun _=>none) (fun u r g n=> @Nat.rec (fun _=>Option (List Value)) (some (v::r)) (fun m _=> @Option.rec (List Value) (fun _=>Option (List Value)) none (fun r=>some (u::r)) (g m)) n) l
theorem zEn (v:Value):∀ (l:List Value) (n:Nat),zF3 v l n=bif Nat.ble (n+1) l.length then some (zb l n [v]) else none
 |[],n=>by
  have:Nat.ble (n+1) ([]:List Value).length=false:=rfl;rw[this];rfl
 |u::r,0=>rfl
 |u::r,n+1=>by
  show @Option.rec (List Value) (fun _=>Option (List Value)) none (fun r=>some (u::r)) (zF3 v r n)=_;rw[zEn v r n];have:Nat.ble (n+1+1) (u::r).length=Nat.ble (n+1) r.length:=rfl;rw[this];cases Nat.ble (n+1) r.length<;>simp[zb]
structure CloV where
 run:ExK->Trie Value->AHeap->(Value->AHeap->R)->R
def zCj (v:Value) (k:Bool->R):R:=match v with
 | .bool b=>k b
 |_=>none
def zB5 (h:AHeap) (a:Addr) (v:Value) (K:AHeap->R):R:=
 yI a.spot.isNone (ZW (zGs h a.block) fun o=>match o with
  | .row cells true lo=>yI (Nat.ble lo a.off) (match v with
   | .agg _=>none
   | .tuple _=>none
   |v=>ZW (zF3 v cells a.off) fun cells=>K (zNe h a.block (.row cells true lo))) none
  |_=>none) none
theorem zIw (h:AHeap) (a:Addr) (v:Value) (hv:v.cells.size=1) (hn:∀ cs,v≠ .agg cs) (K:AHeap->R):zB5 h a v K=(za h a v.cells.toList).bind K:=by
 have hc:v.cells.toList=[v]:=by cases v<;>first|rfl|exact absurd rfl (hn _)
 unfold zB5 za;rw[hc,yG,yr,zEU];cases hs:a.spot.isNone with
 |false=>
  simp only[QR];split
  ·simp
  ·rfl
 |true=>
  simp only[cond_true];cases h.get a.block with
  |none=>rfl
  |some o=>
   cases o with
   |row cells own lo=>
    cases own with
    |false=>rfl
    |true=>
     show yI (Nat.ble lo a.off) _ none=_;rw[yG];have h1:∀ K':List Value->R,(ZW (zF3 v cells a.off) K')=(bif Nat.ble (a.off+1) cells.length then some (zb cells a.off [v]) else none).bind K':=fun K'=>by rw[yr,zEn]
     cases h2:Nat.ble lo a.off with
     |false=>simp[h2]
     |true=>
      simp only[h2,cond_true,Qg,QZ];cases v<;>first
       |(exact absurd rfl (hn _))
       |(simp only[h1,zOI];cases Nat.ble (a.off+1) cells.length<;>simp[zJ])
   |_=>rfl
def zFi (x:ExK) (l:Nat) (r:ALoop) (args:List Value) (h:AHeap) (K:Value->AHeap->R):R:=
 x.exec r.assign ⟨zBE r.params args r.tm,[],some l⟩ h fun e fr h1=>match e with
  | .normal=>(match h1.get l with
   |some (.loop r1)=>
    bif (match r1.state with| .ready=>true|_=>false) then
     x.exec r.body fr (h1.set l (.loop {r1 with state:= .busy})) fun e fr2 h2=>match fr2.dfs,h2.get l with
      |[],some (.loop r2)=>K (ZC l r2 h2 e).1 (ZC l r2 h2 e).2
      |_,_=>none
    else none
   |_=>none)
  |_=>none
def zF0 (x:ExK) (f:Value) (args:List Value) (h:AHeap) (K:Value->AHeap->R):R:=
 match f with
 | .func (.func f) first cap=>x.call f (first.toList++(args++cap.toList)) h K
 | .func (.yield l) _ _=>
  match h.get l with
  |some (.loop r)=>bif Nat.beq args.length r.params.length then zFi x l r args h K else none
  |_=>none
 |_=>none
section
variable {P:Program} {e:Ex} {x:ExK}
theorem zLO (ok:ExOk e x) (l:Nat) (r:ALoop) (args:List Value) (h:AHeap) (K:Value->AHeap->R):zFi x l r args h K=ZY (zAR e l r args h) K:=by
 unfold zFi zAR ZY;rw[ok.exec];cases e.exec r.assign ⟨zBE r.params args r.tm,[],some l⟩ h with
 |none=>rfl
 |some p=>
  obtain⟨ex,fr,h1⟩:=p;simp only[QQ];cases ex with
  |normal=>
   simp only;cases h1.get l with
   |none=>rfl
   |some o=>
    cases o with
    |loop r1=>
     simp only;cases hst:r1.state with
     |ready=>
      simp only[cond_true];rw[ok.exec];cases e.exec r.body fr (h1.set l (.loop {r1 with state:= .busy}))with
      |none=>rfl
      |some p=>
       obtain⟨e2,fr2,h2⟩:=p;simp only[QQ];cases fr2.dfs with
       |nil=>
        cases h2.get l with
        |none=>rfl
        |some o=>cases o<;>rfl
       |cons d ds=>rfl
     |_=>rfl
    |_=>rfl
  |_=>rfl
theorem zE9 (ok:ExOk e x) (f:Value) (args:List Value) (h:AHeap) (K:Value->AHeap->R):zF0 x f args h K=ZY (zAJ e f args h) K:=by
 cases f with
 |func fn first cap=>
  cases fn with
  |func f=>
   show x.call f (first.toList++(args++cap.toList)) h K=ZY (e.call f (first.toList++args++cap.toList) h) K;rw[ok.call,Qm]
  |yield l=>
   show (match h.get l with
    |some (.loop r)=>bif Nat.beq args.length r.params.length then zFi x l r args h K else none
    |_=>none)=ZY (match h.get l with
    |some (.loop r)=>bif Nat.beq args.length r.params.length then zAR e l r args h else none
    |_=>none) K
   cases h.get l with
   |none=>rfl
   |some o=>
    cases o with
    |loop r=>
     simp only;cases Nat.beq args.length r.params.length with
     |true=>exact zLO ok _ _ _ _ _
     |false=>rfl
    |_=>rfl
  |_=>rfl
 |_=>rfl
def zP1 (P:Program) (op:AOp):CloV:=
 match op with
 | .mov a=>⟨fun _ t h K=>K ((ze a).ev t) h⟩
 | .pick c a b=>⟨fun _ t h K=>zCj ((ze c).ev t) fun q=>K (yI q ((ze a).ev t) ((ze b).ev t)) h⟩
 | .bin op a b=>⟨fun _ t h K=>(zSZ op).run ((ze a).ev t) ((ze b).ev t) fun v=>K v h⟩
 | .load agg n a=>yI (Nat.beq n 1&& !agg)
   ⟨fun _ t h K=>zGV ((ze a).ev t) fun a=>yI a.spot.isNone (zIV h a.block fun cells=>ZW (zLJ cells a.off) fun v=>K v h) none⟩
   ⟨fun _ t h K=>zGV ((ze a).ev t) fun a=>yI a.spot.isNone (zIV h a.block fun cells=>ZW (zFo cells a.off n) fun l=>ZW (zG agg l) fun v=>K v h) none⟩
 | .store n a b=>⟨fun _ t h K=>zGV ((ze a).ev t) fun a=>yI (Nat.beq n 1) (match (ze b).ev t with
   | .agg cs=>bif Nat.beq cs.size n then (za h a cs.toList).bind fun h=>K undef h else none
   |v=>zB5 h a v fun h=>K undef h) (ZY (bif Nat.beq ((ze b).ev t).cells.size n then (za h a ((ze b).ev t).cells.toList).map (undef,·) else none) K)⟩
 | .idx c a i=>⟨fun _ t h K=>match (ze a).ev t with
   | .slice (some a) len k=>zSR ((ze i).ev t) fun i=>yI (Nat.ble (Nat.succ i) len) (yI (Nat.beq k c) (yI a.spot.isNone (K (.pointer (some ⟨a.block,Nat.add a.off (Nat.mul i c),none⟩)) h) none) none) none
   |_=>none⟩
 | .fld off a=>⟨fun _ t h K=>zGV ((ze a).ev t) fun a=>yI a.spot.isNone (K (.pointer (some ⟨a.block,Nat.add a.off off,none⟩)) h) none⟩
 | .len a=>⟨fun _ t h K=>match (ze a).ev t with
   | .slice _ n _=>K (.int .i64 (Int.ofNat n)) h
   |_=>none⟩
 | .nilCheck a=>⟨fun _ t h K=>ZW (YW ((ze a).ev t)) fun v=>K v h⟩
 | .extract a i=>⟨fun _ t h K=>match (ze a).ev t with
   | .tuple vs=>ZW (zLJ vs.toList i) fun v=>K v h
   |_=>none⟩
 | .alloc zero=>⟨fun _ _ h K=>K (.pointer (some ⟨h.n,0,none⟩)) (zCo h (.row zero true 0))⟩
 | .box a=>⟨fun _ t h K=>K (.pointer (some ⟨h.n,0,none⟩)) (zCo h (.row ((ze a).ev t).cells.toList true 0))⟩
 | .call f args=>⟨fun x t h K=>zF0 x ((ze f).ev t) (args.map fun a=>(ze a).ev t) h K⟩
 | .invoke a name args=>⟨fun x t h K=>match (ze a).ev t with
   | .iface ty v=>ZW (YS P ty name) fun f=>x.call f (v::args.map fun a=>(ze a).ev t) h K
   |_=>ZY (aop P Ex.bot t h (.invoke a name args)) K⟩
 | .un op a=>⟨fun _ t h K=>ZW (unV op ((ze a).ev t)) fun v=>K v h⟩
 | .isNil kind neg a=>⟨fun _ t h K=>ZW (zC7 kind ((ze a).ev t)) fun b=>K (.bool (if neg then !b else b)) h⟩
 | .binB neg a b=>⟨fun _ t h K=>zCj ((ze a).ev t) fun x=>zCj ((ze b).ev t) fun y=>K (.bool (if neg then x != y else x == y)) h⟩
 | .conv k a=>⟨fun _ t h K=>zRI ((ze a).ev t) fun _ n=>K (.int k (zBe k n)) h⟩
 | .build zero parts=>⟨fun _ t h K=>ZW (yj zero (parts.map fun (a,b,x)=>(a,b,(ze x).ev t))) fun cells=>K (.agg cells.toArray) h⟩
 | .buildSlice len c zero parts=>⟨fun _ t h K=>ZW (yj (zR zero len) (parts.map fun (a,b,x)=>(a,b,(ze x).ev t))) fun cells=>K (.slice (some ⟨h.n,0,none⟩) len c) (zCo h (.row cells true 0))⟩
 | .part agg off n a=>⟨fun _ t h K=>match (ze a).ev t with
   | .agg cs=>ZW (zFo cs.toList off n) fun l=>ZW (zG agg l) fun v=>K v h
   |_=>none⟩
 | .mkFunc fn first cap=>⟨fun _ t h K=>match fn with
   | .func f=>K (.func (.func f) (first.map fun a=>(ze a).ev t).toArray (cap.map fun a=>(ze a).ev t).toArray) h
   |_=>none⟩
 | .lenC n=>⟨fun _ _ h K=>K (.int .i64 (Int.ofNat n)) h⟩
 | .append c a b=>⟨fun _ t h K=>ZY (yN c ((ze a).ev t) ((ze b).ev t) h) K⟩
 |op=>⟨fun _ t h K=>ZY (aop P Ex.bot t h op) K⟩
theorem zEu (parts:List (Nat×Nat×Operand)) (t:Trie Value):(parts.map fun (a,b,x)=>(a,b,(ze x).ev t))=zi t parts:=by
 unfold zi;apply GU;rintro⟨a,b,x⟩ _;show (a,b,(ze x).ev t)=(a,b,ev t x);rw[zc]
theorem zCE (args:List Operand) (t:Trie Value):(args.map fun a=>(ze a).ev t)=args.map (ev t):=by
 apply GU;intro a _;exact zc a t
theorem zQg (ok:ExOk e x) (op:AOp) (t:Trie Value) (h:AHeap) (K:Value->AHeap->R):(zP1 P op).run x t h K=ZY (aop P e t h op) K:=by
 have slow:Yt op=true->ZY (aop P Ex.bot t h op) K=ZY (aop P e t h op) K:=fun hp=>by rw[zJq e hp]
 cases op with
 |mov a=>show K ((ze a).ev t) h=_;rw[zc];rfl
 |pick c a b=>
  show zCj ((ze c).ev t) (fun q=>K (yI q ((ze a).ev t) ((ze b).ev t)) h)=_;rw[zc,zc,zc];simp only[aop];cases ev t c with
  |bool q=>cases q<;>rfl
  |_=>rfl
 |bin op a b=>
  show (zSZ op).run ((ze a).ev t) ((ze b).ev t) (fun v=>K v h)=_;rw[zc,zc,zQW];simp only[aop,ZY];cases z9 op (ev t a) (ev t b)<;>rfl
 |load agg n a=>
  simp only[aop];cases hn:(Nat.beq n 1&& !agg)with
  |true=>
   rw[QF]at hn;obtain⟨h1,h2⟩:=hn;have h1:=QG h1;have h2:agg=false:=by cases agg<;>simp_all
   subst h1 h2;show zGV ((ze a).ev t) (fun a=>yI a.spot.isNone (zIV h a.block fun cells=>ZW (zLJ cells a.off) fun v=>K v h) none)=_;rw[zc];cases ev t a with
   |pointer p=>
    cases p with
    |none=>rfl
    |some ad=>
     dsimp only;show yI ad.spot.isNone _ none=_;rw[yG];cases ad.spot.isNone with
     |false=>rfl
     |true=>
      simp only[cond_true,zJM,ZY];cases zt h ad.block with
      |none=>rfl
      |some cells=>
       simp only[QQ,yr,zGP,zNo];cases cells[ad.off]?<;>rfl
   |_=>rfl
  |false=>
   have:zP1 P (.load agg n a)=⟨fun _ t h K=>zGV ((ze a).ev t) fun a=>yI a.spot.isNone (zIV h a.block fun cells=>ZW (zFo cells a.off n) fun l=>ZW (zG agg l) fun v=>K v h) none⟩:=by
    show yI (Nat.beq n 1&& !agg) _ _=_;rw[hn];rfl
   rw[this];show zGV ((ze a).ev t) (fun a=>yI a.spot.isNone (zIV h a.block fun cells=>ZW (zFo cells a.off n) fun l=>ZW (zG agg l) fun v=>K v h) none)=_;rw[zc];cases ev t a with
   |pointer p=>
    cases p with
    |none=>rfl
    |some ad=>
     dsimp only;show yI ad.spot.isNone _ none=_;rw[yG];cases ad.spot.isNone with
     |false=>rfl
     |true=>
      simp only[cond_true,zJM,ZY];cases zt h ad.block with
      |none=>rfl
      |some cells=>
       simp only[QQ,yr,zDG];cases cut cells ad.off n with
       |none=>rfl
       |some l=>simp only[QQ];cases zG agg l<;>rfl
   |_=>rfl
 |store n a b=>
  show zGV ((ze a).ev t) (fun a=>yI (Nat.beq n 1) (match (ze b).ev t with
   | .agg cs=>bif Nat.beq cs.size n then (za h a cs.toList).bind fun h=>K undef h else none
   |v=>zB5 h a v fun h=>K undef h) (ZY (bif Nat.beq ((ze b).ev t).cells.size n then (za h a ((ze b).ev t).cells.toList).map (undef,·) else none) K))=_
  rw[zc,zc];simp only[aop];cases ev t a with
  |pointer p=>
   cases p with
   |none=>rfl
   |some ad=>
    show yI (Nat.beq n 1) _ _=_;rw[yG];cases hn:Nat.beq n 1 with
    |false=>rfl
    |true=>
     have:=QG hn;subst this;simp only[cond_true];have plain:∀ v:Value,v.cells.size=1->(∀ cs,v≠ .agg cs)->(zB5 h ad v fun h=>K undef h)=ZY (bif Nat.beq v.cells.size 1 then (za h ad v.cells.toList).map (undef,·) else none) K:=fun v h1 h2=>by
      have h3:Nat.beq v.cells.size 1=true:=by rw[h1];rfl
      rw[zIw h ad v h1 h2,h3,cond_true,ZY];cases za h ad v.cells.toList<;>rfl
     cases ev t b with
     |agg cs=>
      simp only[Value.cells];cases Nat.beq cs.size 1 with
      |false=>rfl
      |true=>simp only[cond_true,ZY];cases za h ad cs.toList<;>rfl
     |_=>exact plain _ rfl (fun cs=>by simp)
  |_=>rfl
 |idx c a i=>
  show (match (ze a).ev t with
   | .slice (some a) len k=>zSR ((ze i).ev t) fun i=>yI (Nat.ble (Nat.succ i) len) (yI (Nat.beq k c) (yI a.spot.isNone (K (.pointer (some ⟨a.block,Nat.add a.off (Nat.mul i c),none⟩)) h) none) none) none
   |_=>none)=_
  rw[zc,zc];simp only[aop];cases ev t a with
  |slice p len k=>
   cases p with
   |none=>rfl
   |some ad=>
    simp only[zRO];cases asN (ev t i)with
    |none=>rfl
    |some j=>
     simp only[QQ,yG];have hs:Nat.ble (Nat.succ j) len=Nat.ble (j+1) len:=rfl;rw[hs];cases Nat.ble (j+1) len<;>cases Nat.beq k c<;>cases ad.spot.isNone<;>rfl
  |_=>rfl
 |fld off a=>
  show zGV ((ze a).ev t) (fun a=>yI a.spot.isNone (K (.pointer (some ⟨a.block,Nat.add a.off off,none⟩)) h) none)=_;rw[zc];simp only[aop];cases ev t a with
  |pointer p=>
   cases p with
   |none=>rfl
   |some ad=>dsimp only;show yI ad.spot.isNone _ none=_;rw[yG];cases ad.spot.isNone<;>rfl
  |_=>rfl
 |len a=>
  show (match (ze a).ev t with
   | .slice _ n _=>K (.int .i64 (Int.ofNat n)) h
   |_=>none)=_
  rw[zc];simp only[aop];cases ev t a<;>rfl
 |nilCheck a=>
  show ZW (YW ((ze a).ev t)) (fun v=>K v h)=_;rw[zc,yr];simp only[aop,ZY];cases YW (ev t a)<;>rfl
 |extract a i=>
  show (match (ze a).ev t with
   | .tuple vs=>ZW (zLJ vs.toList i) fun v=>K v h
   |_=>none)=_
  rw[zc];simp only[aop];cases ev t a with
  |tuple vs=>
   simp only[yr,zGP,Array.getElem?_toList];cases vs[i]?<;>rfl
  |_=>rfl
 |alloc zero=>show K _ (zCo h _)=_;rw[zDU];rfl
 |box a=>show K _ (zCo h (.row ((ze a).ev t).cells.toList true 0))=_;rw[zDU,zc];rfl
 |call f args=>
  show zF0 x ((ze f).ev t) (args.map fun a=>(ze a).ev t) h K=_;rw[zCE,zc,zE9 ok];rfl
 |invoke a name args=>
  show (match (ze a).ev t with
   | .iface ty v=>ZW (YS P ty name) fun f=>x.call f (v::args.map fun a=>(ze a).ev t) h K
   |_=>ZY (aop P Ex.bot t h (.invoke a name args)) K)=_
  rw[zc,zCE];simp only[aop];cases hv:ev t a with
  |iface ty v=>
   simp only[Yx,yr];cases YS P ty name with
   |none=>rfl
   |some f=>simp only[QQ];exact ok.call _ _ _ _
  |_=>rfl
 |un op a=>
  show ZW (unV op ((ze a).ev t)) (fun v=>K v h)=_;rw[zc,yr];simp only[aop,ZY];cases unV op (ev t a)<;>rfl
 |isNil kind neg a=>
  show ZW (zC7 kind ((ze a).ev t)) (fun b=>K (.bool (if neg then !b else b)) h)=_;rw[zc,yr];simp only[aop,ZY];cases zC7 kind (ev t a)<;>rfl
 |binB neg a b=>
  show zCj ((ze a).ev t) (fun x=>zCj ((ze b).ev t) fun y=>K (.bool (if neg then x != y else x == y)) h)=_;rw[zc,zc];simp only[aop];cases ev t a with
  |bool x=>cases ev t b<;>rfl
  |_=>rfl
 |conv k a=>
  show zRI ((ze a).ev t) (fun _ n=>K (.int k (zBe k n)) h)=_;rw[zc];simp only[aop];cases ev t a with
  |int kk n=>show K (.int k (zBe k n)) h=_;rw[zAk];rfl
  |_=>rfl
 |build zero parts=>
  show ZW (yj zero (parts.map fun (a,b,x)=>(a,b,(ze x).ev t))) (fun cells=>K (.agg cells.toArray) h)=_;rw[zEu,yr];simp only[aop,ZY];cases yj zero (zi t parts)<;>rfl
 |buildSlice len c zero parts=>
  show ZW (yj (zR zero len) (parts.map fun (a,b,x)=>(a,b,(ze x).ev t))) (fun cells=>K (.slice (some ⟨h.n,0,none⟩) len c) (zCo h (.row cells true 0)))=_;rw[zEu,yr];simp only[aop,ZY,zDU];cases yj (zR zero len) (zi t parts)<;>rfl
 |part agg off n a=>
  show (match (ze a).ev t with
   | .agg cs=>ZW (zFo cs.toList off n) fun l=>ZW (zG agg l) fun v=>K v h
   |_=>none)=_
  rw[zc];simp only[aop];cases ev t a with
  |agg cs=>
   simp only[zDG,yr];cases cut cs.toList off n with
   |none=>rfl
   |some l=>simp only[QQ];cases zG agg l<;>rfl
  |_=>rfl
 |mkFunc fn first cap=>
  show (match fn with
   | .func f=>K (.func (.func f) (first.map fun a=>(ze a).ev t).toArray (cap.map fun a=>(ze a).ev t).toArray) h
   |_=>none)=_
  rw[zCE,zCE];simp only[aop];cases fn<;>rfl
 |append c a b=>
  show ZY (yN c ((ze a).ev t) ((ze b).ev t) h) K=_;rw[zc,zc];rfl
 |dfr f args=>rfl
 |dfrClear _ _ _ _=>rfl
 |recover=>rfl
 |_=>first|rfl|(show ZY (aop P Ex.bot t h _) K=_;exact slow rfl)
end
abbrev FrK:=AFr->AHeap->R
def frK (x:Option (AFr×AHeap)) (K:FrK):R:=x.bind fun p=>K p.1 p.2
structure CloO where
 run:ExK->AFr->AHeap->FrK->R
structure CloD where
 set:Trie Value->Value->Trie Value
def zHY (d:Option Nat):CloD:=
 match d with
 |some d=>⟨(Y5 64 d).set⟩
 |none=>⟨fun t _=>t⟩
theorem zJp (d:Option Nat) (fr:AFr) (v:Value):(⟨(zHY d).set fr.tm v,fr.dfs,fr.round⟩:AFr)=val d fr v:=by
 cases d with
 |none=>rfl
 |some d=>show (⟨(Y5 64 d).set fr.tm v,fr.dfs,fr.round⟩:AFr)=_;rw[(zGb 64 d).2];rfl
def zMY:AOp->Bool
 | .dfr .. | .dfrClear .. | .recover=>true
 |_=>false
def zLV (P:Program) (op:AOp) (d:Option Nat):CloO:=
 yI (zMY op) ⟨fun _ fr h K=>(zd P Ex.bot fr.tm fr.round h op).bind fun p=>K (val d {fr with dfs:=p.2.1++fr.dfs} p.1) p.2.2⟩
  ⟨fun x fr h K=>(zP1 P op).run x fr.tm h fun v h=>K ⟨(zHY d).set fr.tm v,fr.dfs,fr.round⟩ h⟩
def zKG (P:Program) (o:AOper):CloO:=
 match o.guard with
 |none=>zLV P o.op o.dst
 |some (j,want)=>⟨fun x fr h K=>match (ze (.tmp j)).ev fr.tm with
  | .bool b=>yI (b == want) ((zLV P o.op o.dst).run x fr h K) (K ⟨(zHY o.dst).set fr.tm undef,fr.dfs,fr.round⟩ h)
  |_=>K ⟨(zHY o.dst).set fr.tm undef,fr.dfs,fr.round⟩ h⟩
section
variable {P:Program} {e:Ex} {x:ExK}
theorem zPb (ok:ExOk e x) (op:AOp) (d:Option Nat) (fr:AFr) (h:AHeap) (K:FrK):
  (zLV P op d).run x fr h K=(zd P e fr.tm fr.round h op).bind fun p=>K (val d {fr with dfs:=p.2.1++fr.dfs} p.1) p.2.2:=by
 unfold zLV;cases hd:zMY op with
 |true=>
  show (zd P Ex.bot fr.tm fr.round h op).bind _=_;have:zd P Ex.bot fr.tm fr.round h op=zd P e fr.tm fr.round h op:=by cases op<;>first|(cases hd;done)|rfl
  rw[this]
 |false=>
  show (zP1 P op).run x fr.tm h (fun v h=>K ⟨(zHY d).set fr.tm v,fr.dfs,fr.round⟩ h)=_;rw[zQg ok];have e1:zd P e fr.tm fr.round h op=match aop P e fr.tm h op with
   |some (v,h)=>some (v,[],h)
   |none=>none:=by cases op<;>first|(cases hd;done)|rfl
  rw[e1];cases aop P e fr.tm h op with
  |none=>rfl
  |some q=>
   obtain⟨v,h⟩:=q;show K ⟨(zHY d).set fr.tm v,fr.dfs,fr.round⟩ h=K (val d {fr with dfs:=[]++fr.dfs} v) h;rw[zJp];rfl
theorem zJJ (ok:ExOk e x) (o:AOper) (fr:AFr) (h:AHeap) (K:FrK):(zKG P o).run x fr h K=frK (z8 P e o fr h) K:=by
 obtain⟨d,g,op⟩:=o;have plain:(zLV P op d).run x fr h K=frK (match zd P e fr.tm fr.round h op with
  |some (v,ds,h)=>some (val d {fr with dfs:=ds++fr.dfs} v,h)
  |none=>none) K:=by
  rw[zPb ok];cases zd P e fr.tm fr.round h op<;>rfl
 cases g with
 |none=>exact plain
 |some g=>
  obtain⟨j,want⟩:=g;have e0:(zKG P ⟨d,some (j,want),op⟩).run x fr h K=(match (ze (.tmp j)).ev fr.tm with
   | .bool b=>yI (b == want) ((zLV P op d).run x fr h K) (K ⟨(zHY d).set fr.tm undef,fr.dfs,fr.round⟩ h)
   |_=>K ⟨(zHY d).set fr.tm undef,fr.dfs,fr.round⟩ h):=rfl
  have e1:z8 P e ⟨d,some (j,want),op⟩ fr h=bif (match zB fr.tm j with| .bool b=>b == want|_=>false) then (match zd P e fr.tm fr.round h op with
   |some (v,ds,h)=>some (val d {fr with dfs:=ds++fr.dfs} v,h)
   |none=>none) else some (val d fr undef,h):=rfl
  rw[e0,e1,plain,zc,zJp];have e2:ev fr.tm (.tmp j)=zB fr.tm j:=rfl;rw[e2];cases zB fr.tm j with
  |bool b=>
   dsimp only;rw[yG];cases (b == want)<;>rfl
  |_=>rfl
def zJS (P:Program) (l:List AOper):CloO:=
 @List.rec AOper (fun _=>CloO) ⟨fun _ fr h K=>K fr h⟩ (fun o _ k=>⟨fun x fr h K=>(zKG P o).run x fr h fun fr h=>k.run x fr h K⟩) l
theorem zG4 (ok:ExOk e x):∀ (l:List AOper) (fr:AFr) (h:AHeap) (K:FrK),(zJS P l).run x fr h K=frK (yP P e l fr h) K
 |[],_,_,_=>rfl
 |o::l,fr,h,K=>by
  show (zKG P o).run x fr h (fun fr h=>(zJS P l).run x fr h K)=_;rw[zJJ ok];simp only[yP,frK];cases z8 P e o fr h with
  |none=>rfl
  |some q=>exact zG4 ok l q.1 q.2 K
structure CloC where
 run:ExK->Nat->AFr->AHeap->FrK->R
def zPw (P:Program) (o:AOper):CloC:=
 yI (Nat.beq (zE o.op) 3) ⟨fun _ g fr h K=>frK (zx P Ex.bot g o fr h) K⟩ ⟨fun x _ fr h K=>(zKG P o).run x fr h K⟩
theorem zQc (ok:ExOk e x) (o:AOper) (g:Nat) (fr:AFr) (h:AHeap) (K:FrK):(zPw P o).run x g fr h K=frK (zx P e g o fr h) K:=by
 unfold zPw;cases hk:Nat.beq (zE o.op) 3 with
 |true=>
  show frK (zx P Ex.bot g o fr h) K=_;unfold zx;simp only[hk,cond_true]
 |false=>
  show (zKG P o).run x fr h K=_;rw[zJJ ok];unfold zx;simp only[hk,QR]
abbrev RsT:=List (Nat×Nat×Option (Nat×Nat×List Value))
structure CloR where
 run:ExK->Nat->Nat->List (Nat×Nat)->RsT->List (Nat×Nat)->AFr->AHeap->(AFr->AHeap->List (Nat×Nat)->R)->R
def okC (o:AOper) (un:List Nat) (ws:List (Nat×Nat)) (rs:RsT) (bs:List (Nat×Nat)) (t:Trie Value) (h':AHeap):Bool:=
 (match zX t o with
  |some g=>(ws.all fun (j,g')=> !(Nat.beq g g'&&un.contains j))&&bs.all fun (j,n)=> !un.contains j||Nat.ble (g+1) n
  |none=>true)&&rs.all fun (j,g,vw)=> !(un.contains j&&h'.wr.contains g)||zCm h' g vw
def okF (o:AOper) (un:List Nat) (ws:List (Nat×Nat)) (rs:RsT) (bs:List (Nat×Nat)) (t:Trie Value) (h':AHeap):Bool:=
 match un with
 |[]=>true
 |un=>okC o un ws rs bs t h'
theorem zRo (o:AOper) (un:List Nat) (ws:List (Nat×Nat)) (rs:RsT) (bs:List (Nat×Nat)) (t:Trie Value) (h':AHeap):okF o un ws rs bs t h'=okC o un ws rs bs t h':=by
 cases un with
 |cons a l=>rfl
 |nil=>
  unfold okF okC;cases zX t o<;>simp
def zQK (P:Program) (l:List (AOper×List Nat)):CloR:=
 @List.rec (AOper×List Nat) (fun _=>CloR) ⟨fun _ _ _ ws _ _ fr h K=>K fr h ws⟩
  (fun o _ k=>⟨fun x i g ws rs bs fr h K=>(zPw P o.1).run x g fr ⟨h.n,h.tab,h.n,[]⟩ fun fr' h'=>
   yI (okF o.1 o.2 ws rs bs fr.tm h') (k.run x (Nat.succ i) (yI (Nat.beq (zE o.1.op) 3) (Nat.succ g) g) (h'.wr.map (fun g=>(i,g))++ws) (match zX fr.tm o.1 with
     |some g=>(i,g,Yd fr.tm h o.1.op)::rs
     |none=>rs) ((i,h.n)::bs) fr' h' K) none⟩) l
theorem zJO (ok:ExOk e x):∀ (l:List (AOper×List Nat)) (i g:Nat) (ws:List (Nat×Nat)) (rs:RsT) (bs:List (Nat×Nat)) (fr:AFr) (h:AHeap) (K:AFr->AHeap->List (Nat×Nat)->R),
  (zQK P l).run x i g ws rs bs fr h K=(yA P e l i g ws rs bs fr h).bind fun p=>K p.1 p.2.1 p.2.2
 |[],_,_,_,_,_,_,_,_=>rfl
 |(o,un)::l,i,g,ws,rs,bs,fr,h,K=>by
  show (zPw P o).run x g fr ⟨h.n,h.tab,h.n,[]⟩ (fun fr' h'=>
   yI (okF o un ws rs bs fr.tm h') ((zQK P l).run x (Nat.succ i) (yI (Nat.beq (zE o.op) 3) (Nat.succ g) g) (h'.wr.map (fun g=>(i,g))++ws) (match zX fr.tm o with
     |some g=>(i,g,Yd fr.tm h o.op)::rs
     |none=>rs) ((i,h.n)::bs) fr' h' K) none)=_
  rw[zQc ok,yA];show frK (zx P e g o fr {h with mark:=h.n,wr:=[]}) _=_;cases zx P e g o fr {h with mark:=h.n,wr:=[]} with
  |none=>rfl
  |some q=>
   obtain⟨fr',h'⟩:=q;show yI (okF o un ws rs bs fr.tm h') _ none=(bif okC o un ws rs bs fr.tm h' then _ else none).bind _;rw[zRo,yG];cases okC o un ws rs bs fr.tm h' with
   |false=>rfl
   |true=>simp only[cond_true];rw[zJO ok l,yG];rfl
structure CloX where
 run:ExK->AFr->AHeap->(AExit->AFr->AHeap->R)->R
def zR0 (l:List (AOper×List Nat)):Nat:=(l.filter fun x=>Nat.beq (zE x.1.op) 3).length
def zFq (x:ExK) (b:ACode) (n:Nat):ACode->AFr->AHeap->(AExit->AFr->AHeap->R)->R:=
 @Nat.rec (fun _=>ACode->AFr->AHeap->(AExit->AFr->AHeap->R)->R) (fun _ _ _ _=>none) (fun _ k c fr h K=>x.exec c fr h fun e fr h=>match e with
  | .goto l=>(match zp b l with
   |some rest=>k rest fr h K
   |none=>K (.goto l) fr h)
  |e=>K e fr h) n
def exK (x:Option (AExit×AFr×AHeap)) (K:AExit->AFr->AHeap->R):R:=x.bind fun p=>K p.1 p.2.1 p.2.2
theorem zFF (ok:ExOk e x) (b:ACode):∀ (n:Nat) (c:ACode) (fr:AFr) (h:AHeap) (K:AExit->AFr->AHeap->R),zFq x b n c fr h K=exK (Zb e n b c fr h) K
 |0,_,_,_,_=>rfl
 |n+1,c,fr,h,K=>by
  show x.exec c fr h (fun e fr h=>match e with
   | .goto l=>(match zp b l with
    |some rest=>zFq x b n rest fr h K
    |none=>K (.goto l) fr h)
   |e=>K e fr h)=_
  rw[ok.exec];simp only[Zb];cases e.exec c fr h with
  |none=>rfl
  |some p=>
   obtain⟨ex,fr1,h1⟩:=p;cases ex with
   |goto l=>
    simp only[QQ];cases zp b l with
    |none=>rfl
    |some rest=>exact zFF ok b n rest fr1 h1 K
   |_=>rfl
def zDD (x:ExK) (f:Value) (params:List Nat) (assign body:ACode) (fr:AFr) (d:Nat) (mark:List Deferred) (h:AHeap) (K:AExit->AFr->AHeap->R):R:=
 zF0 x f [.func (.yield h.n) #[] #[]] (h.push (.loop {state:= .ready,pending:=none,fn:=0,tm:=fr.tm,params,assign,body,defers:=d})) fun _ h2=>
  match h2.get h.n with
  |some (.loop r)=>
   match r.state with
   | .busy=>none
   |_=>match r.pending with
    |none=>K .normal {fr with dfs:=mark++fr.dfs} (h2.set h.n (.loop {r with state:= .exhausted}))
    |some .ret=>K .ret {fr with dfs:=mark++fr.dfs} (h2.set h.n (.loop {r with state:= .exhausted}))
    |some (.exit id)=>K (.exit id) {fr with dfs:=mark++fr.dfs} (h2.set h.n (.loop {r with state:= .exhausted}))
    |some (.goto g)=>K (.goto g) {fr with dfs:=mark++fr.dfs} (h2.set h.n (.loop {r with state:= .exhausted}))
    |some _=>none
  |_=>none
theorem zDZ (ok:ExOk e x) (f:Value) (params:List Nat) (assign body:ACode) (fr:AFr) (d:Nat) (mark:List Deferred) (h:AHeap) (K:AExit->AFr->AHeap->R):
  zDD x f params assign body fr d mark h K=exK (Ya e f params assign body fr d mark h) K:=by
 unfold zDD Ya;rw[zE9 ok];cases zAJ e f [.func (.yield h.n) #[] #[]] (h.push (.loop {state:= .ready,pending:=none,fn:=0,tm:=fr.tm,params,assign,body,defers:=d}))with
 |none=>rfl
 |some p=>
  obtain⟨v,h2⟩:=p;simp only[ZY,QQ];cases h2.get h.n with
  |none=>rfl
  |some o=>
   cases o with
   |loop r=>
    simp only;cases r.state<;>(simp only;try rfl)<;>(cases r.pending with
     |none=>rfl
     |some c=>cases c<;>rfl)
   |_=>rfl
def zFk (x:ExK) (f:Value) (params:List Nat) (assign body:ACode) (fr:AFr) (h:AHeap) (K:AExit->AFr->AHeap->R):R:=
 match fr.round with
 |none=>zDD x f params assign body fr h.n [{target:= .collected h.n,args:=#[]}] (h.push (.deferred (some []))) K
 |some l=>match h.get l with
  |some (.loop r)=>zDD x f params assign body fr r.defers [] h K
  |_=>none
theorem zKo (ok:ExOk e x) (f:Value) (params:List Nat) (assign body:ACode) (fr:AFr) (h:AHeap) (K:AExit->AFr->AHeap->R):zFk x f params assign body fr h K=exK (zAX e f params assign body fr h) K:=by
 unfold zFk zAX;cases fr.round with
 |none=>exact zDZ ok _ _ _ _ _ _ _ _ _
 |some l=>
  simp only;cases h.get l with
  |none=>rfl
  |some o=>
   cases o with
   |loop r=>exact zDZ ok _ _ _ _ _ _ _ _ _
   |_=>rfl
def zRz (P:Program) (c:ACode):CloX:=
 match c with
 | .skip=>⟨fun _ fr h K=>K .normal fr h⟩
 | .label _=>⟨fun _ fr h K=>K .normal fr h⟩
 | .region ops=>⟨fun x fr h K=>(zJS P ops).run x fr h fun fr h=>K .normal fr h⟩
 | .regionC ops=>⟨fun x fr h K=>(zQK P ops).run x 0 h.n [] [] [] fr ⟨Nat.add h.n (zR0 ops),h.tab,h.mark,h.wr⟩ fun fr' h' ws=>K .normal fr' ⟨h'.n,h'.tab,h.mark,((ws.map (·.2)).filter fun g=> !Nat.ble h.mark g)++h.wr⟩⟩
 | .seq a b=>⟨fun x fr h K=>x.exec a fr h fun e fr h=>match e with
  | .normal=>x.exec b fr h K
  |e=>K e fr h⟩
 | .cond c a b=>⟨fun x fr h K=>zCj ((ze c).ev fr.tm) fun q=>yI q (x.exec a fr h K) (x.exec b fr h K)⟩
 | .block id b=>⟨fun x fr h K=>x.exec b fr h fun e fr h=>match e with
  | .exit id'=>yI (Nat.beq id' id) (K .normal fr h) (K (.exit id') fr h)
  |e=>K e fr h⟩
 | .loop b=>⟨fun x fr h K=>x.exec b fr h fun e fr h=>match e with
  | .normal=>x.exec (.loop b) fr h K
  |e=>K e fr h⟩
 | .exit id=>⟨fun _ fr h K=>K (.exit id) fr h⟩
 | .goto l=>⟨fun _ fr h K=>K (.goto l) fr h⟩
 | .ret=>⟨fun _ fr h K=>K .ret fr h⟩
 | .scope b=>⟨fun x fr h K=>zFq x b zFN b fr h K⟩
 | .rangeFunc f params assign body=>⟨fun x fr h K=>zFk x ((ze f).ev fr.tm) params assign body fr h K⟩
theorem zQm (ok:ExOk e x) (c:ACode) (fr:AFr) (h:AHeap) (K:AExit->AFr->AHeap->R):(zRz P c).run x fr h K=exK (zV P e c fr h) K:=by
 cases c with
 |region ops=>
  show (zJS P ops).run x fr h (fun fr h=>K .normal fr h)=_;rw[zG4 ok];simp only[zV,frK,exK];cases yP P e ops fr h<;>rfl
 |regionC ops=>
  show (zQK P ops).run x 0 h.n [] [] [] fr ⟨Nat.add h.n (zR0 ops),h.tab,h.mark,h.wr⟩ (fun fr' h' ws=>K .normal fr' ⟨h'.n,h'.tab,h.mark,((ws.map (·.2)).filter fun g=> !Nat.ble h.mark g)++h.wr⟩)=_;rw[zJO ok];simp only[zV,exK,YD];have:(⟨Nat.add h.n (zR0 ops),h.tab,h.mark,h.wr⟩:AHeap)={h with n:=h.n+(ops.filter fun x=>Nat.beq (zE x.1.op) 3).length}:=rfl;rw[this];cases yA P e ops 0 h.n [] [] [] fr {h with n:=h.n+(ops.filter fun x=>Nat.beq (zE x.1.op) 3).length}<;>rfl
 |seq a b=>
  show x.exec a fr h (fun e fr h=>match e with
   | .normal=>x.exec b fr h K
   |e=>K e fr h)=_
  rw[ok.exec];simp only[zV,exK];cases e.exec a fr h with
  |none=>rfl
  |some p=>
   obtain⟨ex,fr1,h1⟩:=p;cases ex with
   |normal=>exact ok.exec _ _ _ _
   |_=>rfl
 |cond c a b=>
  show zCj ((ze c).ev fr.tm) (fun q=>yI q (x.exec a fr h K) (x.exec b fr h K))=_;rw[zc];simp only[zV,exK];cases ev fr.tm c with
  |bool q=>cases q<;>exact ok.exec _ _ _ _
  |_=>rfl
 |block id b=>
  show x.exec b fr h (fun e fr h=>match e with
   | .exit id'=>yI (Nat.beq id' id) (K .normal fr h) (K (.exit id') fr h)
   |e=>K e fr h)=_
  rw[ok.exec];simp only[zV,exK];cases e.exec b fr h with
  |none=>rfl
  |some p=>
   obtain⟨ex,fr1,h1⟩:=p;cases ex with
   |exit i=>
    simp only[QQ];rw[yG];by_cases hi:i=id
    ·subst hi;simp
    ·have:Nat.beq i id=false:=by rw[Bool.eq_false_iff];intro hb;exact hi (QG hb)
     rw[this,QD hi];rfl
   |_=>rfl
 |loop b=>
  show x.exec b fr h (fun e fr h=>match e with
   | .normal=>x.exec (.loop b) fr h K
   |e=>K e fr h)=_
  rw[ok.exec];simp only[zV,exK];cases e.exec b fr h with
  |none=>rfl
  |some p=>
   obtain⟨ex,fr1,h1⟩:=p;cases ex with
   |normal=>exact ok.exec _ _ _ _
   |_=>rfl
 |scope b=>
  show zFq x b zFN b fr h K=exK (Zb e zFN b b fr h) K;exact zFF ok b zFN b fr h K
 |rangeFunc f ps a b=>
  show zFk x ((ze f).ev fr.tm) ps a b fr h K=_;rw[zc];exact zKo ok _ _ _ _ _ _ _
 |_=>rfl
def zAQ (x:ExK) (ds:List Deferred):AHeap->(AHeap->R)->R:=
 @List.rec Deferred (fun _=>AHeap->(AHeap->R)->R) (fun h K=>K h) (fun d _ k h K=>match d.target with
  | .fn (.func f) cap=>x.call f (d.args.toList++cap.toList) h fun _ h=>k h K
  | .builtin .clear _ _ _=>match d.args.toList with
   |[.map (some g)]=>match h.get g with
    |some (.map _ clock)=>k (h.set g (.map [] clock)) K
    |_=>none
   |_=>none
  | .collected g=>match h.get g with
   |some (.deferred (some []))=>k (h.set g (.deferred none)) K
   |_=>none
  |_=>none) ds
theorem zAN (ok:ExOk e x):∀ (ds:List Deferred) (h:AHeap) (K:AHeap->R),zAQ x ds h K=(yR e ds h).bind K
 |[],_,_=>rfl
 |d::ds,h,K=>by
  obtain⟨tg,as⟩:=d;show (match tg with
   | .fn (.func f) cap=>x.call f (as.toList++cap.toList) h fun _ h=>zAQ x ds h K
   | .builtin .clear _ _ _=>match as.toList with
    |[.map (some g)]=>match h.get g with
     |some (.map _ clock)=>zAQ x ds (h.set g (.map [] clock)) K
     |_=>none
    |_=>none
   | .collected g=>match h.get g with
    |some (.deferred (some []))=>zAQ x ds (h.set g (.deferred none)) K
    |_=>none
   |_=>none)=_
  rw[yR];dsimp only;have mapK:∀ g,(match h.get g with
    |some (.map _ clock)=>zAQ x ds (h.set g (.map [] clock)) K
    |_=>none)=(match h.get g with
    |some (.map _ clock)=>yR e ds (h.set g (.map [] clock))
    |_=>none).bind K:=fun g=>by
   cases h.get g with
   |none=>rfl
   |some o=>cases o<;>first|exact zAN ok ds _ K|rfl
  have defK:∀ g,(match h.get g with
    |some (.deferred (some []))=>zAQ x ds (h.set g (.deferred none)) K
    |_=>none)=(match h.get g with
    |some (.deferred (some []))=>yR e ds (h.set g (.deferred none))
    |_=>none).bind K:=fun g=>by
   cases h.get g with
   |none=>rfl
   |some o=>
    cases o with
    |deferred q=>
     cases q with
     |none=>rfl
     |some l=>cases l<;>first|exact zAN ok ds _ K|rfl
    |_=>rfl
  cases tg with
  |fn f cap=>
   cases f with
   |func f=>
    dsimp only;rw[ok.call];simp only[ZY];cases e.call f (as.toList++cap.toList) h with
    |none=>rfl
    |some p=>exact zAN ok ds p.2 K
   |_=>rfl
  |builtin b ts ty cs=>
   cases b with
   |clear=>
    dsimp only;generalize as.toList=l;rcases l with _|⟨a,_|⟨b,l⟩⟩
    ·rfl
    ·cases a with
     |map r=>
      cases r with
      |none=>rfl
      |some g=>exact mapK g
     |_=>rfl
    ·cases a with
     |map r=>cases r<;>rfl
     |_=>rfl
   |_=>rfl
  |collected g=>exact defK g
  |_=>rfl
def zMQ (l:List Value):Nat->Trie Value->Trie Value:=
 @List.rec Value (fun _=>Nat->Trie Value->Trie Value) (fun _ t=>t) (fun v _ k n t=>k (Nat.succ n) ((Y5 64 n).set t v)) l
theorem zHL:∀ (l:List Value) (k:Nat) (t:Trie Value),zMQ l k t=zC3 l k t
 |[],_,_=>rfl
 |v::l,k,t=>by
  show zMQ l (k+1) ((Y5 64 k).set t v)=_;rw[zHL l,(zGb 64 k).2];rfl
def zRv (h:AHeap) (t:Trie Value) (r:Nat×Option (Bool×Nat)):Option Value:=
 match r with
 |(k,none)=>some ((ze (.tmp k)).ev t)
 |(k,some (agg,n))=>match (ze (.tmp k)).ev t with
  | .pointer (some a)=>yI a.spot.isNone (match zGs h a.block with
   |some (.row cells _ _)=>(zFo cells a.off n).bind (zG agg)
   |_=>none) none
  |_=>none
theorem zOu (h:AHeap) (t:Trie Value) (r:Nat×Option (Bool×Nat)):zRv h t r=YC h t r:=by
 obtain⟨k,o⟩:=r;cases o with
 |none=>show some ((ze (.tmp k)).ev t)=some (zB t k);rw[zc];rfl
 |some q=>
  obtain⟨agg,n⟩:=q;show (match (ze (.tmp k)).ev t with
   | .pointer (some a)=>yI a.spot.isNone (match zGs h a.block with
    |some (.row cells _ _)=>(zFo cells a.off n).bind (zG agg)
    |_=>none) none
   |_=>none)=(match zB t k with
   | .pointer (some a)=>bif a.spot.isNone then ((zt h a.block).bind fun cells=>cut cells a.off n).bind (zG agg) else none
   |_=>none)
  rw[zc];have e2:ev t (.tmp k)=zB t k:=rfl;rw[e2];cases zB t k with
  |pointer p=>
   cases p with
   |none=>rfl
   |some a=>
    dsimp only;rw[yG,zEU];unfold zt;cases a.spot.isNone with
    |false=>rfl
    |true=>
     cases h.get a.block with
     |none=>rfl
     |some o=>cases o<;>first|(simp only[zDG];rfl)|rfl
  |_=>rfl
def zMd (h:AHeap) (t:Trie Value) (l:List (Nat×Option (Bool×Nat))):Option (List Value):=
 @List.rec (Nat×Option (Bool×Nat)) (fun _=>Option (List Value)) (some []) (fun r _ q=> @Option.rec Value (fun _=>Option (List Value)) none (fun v=> @Option.rec (List Value) (fun _=>Option (List Value)) none (fun vs=>some (v::vs)) q) (zRv h t r)) l
theorem zHl (h:AHeap) (t:Trie Value):∀ l,zMd h t l=zq h t l
 |[]=>rfl
 |r::l=>by
  show @Option.rec Value (fun _=>Option (List Value)) none (fun v=> @Option.rec (List Value) (fun _=>Option (List Value)) none (fun vs=>some (v::vs)) (zMd h t l)) (zRv h t r)=_;rw[zOu,zHl h t l,zq];cases YC h t r with
  |none=>rfl
  |some v=>cases zq h t l<;>rfl
def zJP (tab:Tab) (x:ExK) (f:FuncId) (args:List Value) (h:AHeap) (K:Value->AHeap->R):R:=
 match tab.stub f with
 |some s=>ZY (s args h) K
 |none=>ZW (tab.code f) fun fn=>x.exec fn.body ⟨zMQ args 0 .leaf,[],none⟩ h fun e fr h=>
   yI (match e with| .normal| .ret=>true|_=>false) (zAQ x fr.dfs h fun h=>ZW (zMd h fr.tm fn.results) fun vs=>K (one vs) h) none
theorem zNR (ok:ExOk e x) (tab:Tab) (f:FuncId) (args:List Value) (h:AHeap) (K:Value->AHeap->R):zJP tab x f args h K=ZY (zAa P tab e f args h) K:=by
 unfold zJP zAa;cases tab.stub f with
 |some s=>rfl
 |none=>
  simp only;rw[yr];unfold zBd;cases tab.code f with
  |none=>rfl
  |some fn=>
   simp only[QQ];rw[ok.exec,zHL];cases e.exec fn.body ⟨zC3 args 0 .leaf,[],none⟩ h with
   |none=>rfl
   |some p=>
    obtain⟨ex,fr,h1⟩:=p;simp only[QQ,yG,zAN ok,yr,zHl];cases ex<;>simp only[cond_true,QR,ZY,Option.bind_none];all_goals
     cases yR e fr.dfs h1 with
     |none=>rfl
     |some h2=>
      simp only[QQ];cases zq h2 fr.tm fn.results<;>rfl
def zH9 (P:Program) (tab:Tab) (n:Nat):ExK:=
 @Nat.rec (fun _=>ExK) ⟨fun _ _ _ _=>none,fun _ _ _ _=>none⟩ (fun _ x=>⟨fun c fr h K=>(zRz P c).run x fr h K,fun f args h K=>zJP tab x f args h K⟩) n
theorem zKn (P:Program) (tab:Tab) (n:Nat):zH9 P tab (n+1)=⟨fun c fr h K=>(zRz P c).run (zH9 P tab n) fr h K,fun f args h K=>zJP tab (zH9 P tab n) f args h K⟩:=rfl
theorem zJu (P:Program) (tab:Tab) (n:Nat):ExOk (aex P tab n) (zH9 P tab n):=by
 induction n with
 |zero=>exact⟨fun _ _ _ _=>rfl,fun _ _ _ _=>rfl⟩
 |succ n ih=>
  rw[zKn];refine⟨fun c fr h K=> ?_,fun f args h K=> ?_⟩
  ·have:=zQm ih c fr h K (P:=P);exact this
  ·have:=zNR (P:=P) ih tab f args h K;exact this
theorem zMz {P:Program} {tab:Tab} {n:Nat} {f:FuncId} {args:List Value} {h:AHeap} {v:Value} (hx:(zH9 P tab n).call f args h (fun v _=>some v)=some v):
  ((aex P tab n).call f args h).map (·.1)=some v:=by
 have e:=(zJu P tab n).call f args h fun v _=>some v;rw[hx]at e;cases hc:(aex P tab n).call f args h with
 |none=>rw[hc]at e;cases e
 |some p=>rw[hc]at e;exact e.symm
end
end
end Go.Am
