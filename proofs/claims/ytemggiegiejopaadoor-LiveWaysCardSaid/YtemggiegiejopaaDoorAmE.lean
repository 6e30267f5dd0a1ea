/- A part of the abstract machine for the model's programs and of the proof that what it yields the model's call yields (definitions, operations, runs, regions that draw their order); no statement of the seat is proved in this text. -/
import Derived.Test.YtemggiegiejopaaDoorAmD
set_option linter.unusedVariables false
set_option linter.unusedSimpArgs false
namespace Go.Am
set_option linter.unusedVariables false
noncomputable def yE {α:Type} (b:Bool) (x y:α):α:= @Bool.rec (fun _=>α) y x b
theorem yB {α:Type} (b:Bool) (x y:α):yE b x y=bif b then x else y:=by cases b<;>rfl
noncomputable def Trie.getF {α:Type} (t:Trie α):Nat→Option α:=
 @Trie.rec α (fun _=>Nat→Option α) (fun _=>none) (fun v _ _ gl gr k=> @Bool.rec (fun _=>Option α) (@Bool.rec (fun _=>Option α) (gr (Nat.pred (Nat.div k (nat_lit 2)))) (gl (Nat.div k (nat_lit 2))) (Nat.beq (Nat.mod k (nat_lit 2)) (nat_lit 1))) v (Nat.beq k (nat_lit 0))) t
theorem zFZ {α:Type}:∀ (t:Trie α) (k:Nat),t.getF k=t.get k
 | .leaf,_=>rfl
 | .node v l r,k=>by
  show yE (Nat.beq k 0) v (yE (Nat.beq (k % 2) 1) (l.getF (k / 2)) (r.getF (k / 2 - 1)))=_
  rw[yB,yB,zFZ l,zFZ r];rfl
noncomputable def pathF {α:Type} (v:Option α) (f:Nat):Nat→Trie α:=
 @Nat.rec (fun _=>Nat→Trie α) (fun _=> .leaf) (fun _ p k=> @Bool.rec (fun _=>Trie α) (@Bool.rec (fun _=>Trie α) (.node none .leaf (p (Nat.pred (Nat.div k (nat_lit 2))))) (.node none (p (Nat.div k (nat_lit 2))) .leaf) (Nat.beq (Nat.mod k (nat_lit 2)) (nat_lit 1))) (.node v .leaf .leaf) (Nat.beq k (nat_lit 0))) f
theorem zDm {α:Type} (v:Option α):∀ (f k:Nat),pathF v f k=Trie.put v f k .leaf
 |0,_=>rfl
 |f+1,k=>by
  show yE (Nat.beq k 0) _ (yE (Nat.beq (k % 2) 1) (Trie.node none (pathF v f (k / 2)) .leaf) (.node none .leaf (pathF v f (k / 2 - 1))))=_
  rw[yB,yB,zDm v f,zDm v f];rfl
noncomputable def Trie.putF {α:Type} (v:Option α) (t:Trie α):Nat→Trie α:=
 @Trie.rec α (fun _=>Nat→Trie α) (fun k=>pathF v (Nat.succ k) k)
  (fun u l r pl pr k=> @Bool.rec (fun _=>Trie α) (@Bool.rec (fun _=>Trie α) (.node u l (pr (Nat.pred (Nat.div k (nat_lit 2))))) (.node u (pl (Nat.div k (nat_lit 2))) r) (Nat.beq (Nat.mod k (nat_lit 2)) (nat_lit 1))) (.node v l r) (Nat.beq k (nat_lit 0))) t
theorem Yz {α:Type} (v:Option α):∀ (f g k:Nat) (t:Trie α),k<f→k<g→Trie.put v f k t=Trie.put v g k t:=by
 intro f
 induction f with
 |zero=>intro g k t h;omega
 |succ f ih=>
  intro g k t h1 h2
  obtain⟨g,rfl⟩:∃ g',g=g'+1:=⟨g - 1,by omega⟩
  have hb:∀ a b:Nat,Nat.beq a b=decide (a=b):=fun a b=>by rw[Bool.eq_iff_iff];simp
  cases t with
  |leaf=>
   simp only[Trie.put,hb]
   by_cases hk:k=0
   ·simp[hk]
   ·simp only[hk,decide_false,cond_false]
    rw[ih g (k / 2) _ (by omega) (by omega),ih g (k / 2 - 1) _ (by omega) (by omega)]
  |node u l r=>
   simp only[Trie.put,hb]
   by_cases hk:k=0
   ·simp[hk]
   ·simp only[hk,decide_false,cond_false]
    rw[ih g (k / 2) _ (by omega) (by omega),ih g (k / 2 - 1) _ (by omega) (by omega)]
theorem zC2 {α:Type} (v:Option α):∀ (t:Trie α) (k:Nat),t.putF v k=Trie.put v (k+1) k t
 | .leaf,k=>zDm v (k+1) k
 | .node u l r,k=>by
  show yE (Nat.beq k 0) (Trie.node v l r) (yE (Nat.beq (k % 2) 1) (.node u (l.putF v (k / 2)) r) (.node u l (r.putF v (k / 2 - 1))))=_
  rw[yB,yB,zC2 v l,zC2 v r]
  have hb:∀ a b:Nat,Nat.beq a b=decide (a=b):=fun a b=>by rw[Bool.eq_iff_iff];simp
  simp only[Trie.put,hb]
  by_cases hk:k=0
  ·simp[hk]
  ·simp only[hk,decide_false,cond_false]
   rw[Yz v (k / 2+1) k (k / 2) l (by omega) (by omega),Yz v (k / 2 - 1+1) k (k / 2 - 1) r (by omega) (by omega)]
theorem zGY (k:Nat) (v:Value) (hk:¬k=0):(Trie.leaf:Trie Value).set k v=yE (Nat.beq (k % 2) 1) (.node none (Trie.leaf.set (k / 2) v) .leaf) (.node none .leaf (Trie.leaf.set (k / 2 - 1) v)):=by
 have h0:Nat.beq k 0=false:=by cases hb:Nat.beq k 0 with
  |false=>rfl
  |true=>exact absurd (Nat.eq_of_beq_eq_true hb) hk
 have e:(Trie.leaf:Trie Value).set k v=bif Nat.beq k 0 then Trie.node (some v) .leaf .leaf else bif Nat.beq (k % 2) 1 then .node none (Trie.put (some v) k (k / 2) .leaf) .leaf else .node none .leaf (Trie.put (some v) k (k / 2 - 1) .leaf):=rfl
 rw[e,h0,yB,cond_false,Yz _ k (k / 2+1) (k / 2) _ (by omega) (by omega),Yz _ k (k / 2 - 1+1) (k / 2 - 1) _ (by omega) (by omega)]
 rfl
theorem zF6 (k:Nat) (v:Value) (u:Option Value) (l r:Trie Value) (hk:¬k=0):(Trie.node u l r).set k v=yE (Nat.beq (k % 2) 1) (.node u (l.set (k / 2) v) r) (.node u l (r.set (k / 2 - 1) v)):=by
 have h0:Nat.beq k 0=false:=by cases hb:Nat.beq k 0 with
  |false=>rfl
  |true=>exact absurd (Nat.eq_of_beq_eq_true hb) hk
 have e:(Trie.node u l r).set k v=bif Nat.beq k 0 then Trie.node (some v) l r else bif Nat.beq (k % 2) 1 then .node u (Trie.put (some v) k (k / 2) l) r else .node u l (Trie.put (some v) k (k / 2 - 1) r):=rfl
 rw[e,h0,yB,cond_false,Yz _ k (k / 2+1) (k / 2) _ (by omega) (by omega),Yz _ k (k / 2 - 1+1) (k / 2 - 1) _ (by omega) (by omega)]
 rfl
structure CloG where
 get:Trie Value→Option Value
 set:Trie Value→Value→Trie Value
noncomputable def Yq (f:Nat):Nat→CloG:=
 @Nat.rec (fun _=>Nat→CloG) (fun k=>⟨fun t=>t.get k,fun t v=>Trie.put (some v) (k+1) k t⟩)
  (fun _ p k=> @Bool.rec (fun _=>CloG) (@Bool.rec (fun _=>CloG)
   ⟨fun t=>(p (Nat.pred (Nat.div k (nat_lit 2)))).get (@Trie.rec Value (fun _=>Trie Value) .leaf (fun _ _ r _ _=>r) t),fun t v=> @Trie.rec Value (fun _=>Trie Value) (.node none .leaf ((p (Nat.pred (Nat.div k (nat_lit 2)))).set .leaf v)) (fun u l r _ _=> .node u l ((p (Nat.pred (Nat.div k (nat_lit 2)))).set r v)) t⟩
   ⟨fun t=>(p (Nat.div k (nat_lit 2))).get (@Trie.rec Value (fun _=>Trie Value) .leaf (fun _ l _ _ _=>l) t),fun t v=> @Trie.rec Value (fun _=>Trie Value) (.node none ((p (Nat.div k (nat_lit 2))).set .leaf v) .leaf) (fun u l r _ _=> .node u ((p (Nat.div k (nat_lit 2))).set l v) r) t⟩
   (Nat.beq (Nat.mod k (nat_lit 2)) (nat_lit 1)))
   ⟨fun t=> @Trie.rec Value (fun _=>Option Value) none (fun v _ _ _ _=>v) t,fun t v=> @Trie.rec Value (fun _=>Trie Value) (.node (some v) .leaf .leaf) (fun _ l r _ _=> .node (some v) l r) t⟩
   (Nat.beq k (nat_lit 0))) f
theorem zFR:∀ (f k:Nat),(∀ t,(Yq f k).get t=t.get k)∧∀ t v,(Yq f k).set t v=t.set k v:=by
 intro f
 induction f with
 |zero=>intro k;exact⟨fun _=>rfl,fun _ _=>rfl⟩
 |succ f ih=>
  intro k
  have hb:∀ a b:Nat,Nat.beq a b=decide (a=b):=fun a b=>by rw[Bool.eq_iff_iff];simp
  have step:Yq (f+1) k=yE (Nat.beq k 0) ⟨fun t=> @Trie.rec Value (fun _=>Option Value) none (fun v _ _ _ _=>v) t,fun t v=> @Trie.rec Value (fun _=>Trie Value) (.node (some v) .leaf .leaf) (fun _ l r _ _=> .node (some v) l r) t⟩
   (yE (Nat.beq (k % 2) 1) ⟨fun t=>(Yq f (k / 2)).get (@Trie.rec Value (fun _=>Trie Value) .leaf (fun _ l _ _ _=>l) t),fun t v=> @Trie.rec Value (fun _=>Trie Value) (.node none ((Yq f (k / 2)).set .leaf v) .leaf) (fun u l r _ _=> .node u ((Yq f (k / 2)).set l v) r) t⟩
    ⟨fun t=>(Yq f (k / 2 - 1)).get (@Trie.rec Value (fun _=>Trie Value) .leaf (fun _ _ r _ _=>r) t),fun t v=> @Trie.rec Value (fun _=>Trie Value) (.node none .leaf ((Yq f (k / 2 - 1)).set .leaf v)) (fun u l r _ _=> .node u l ((Yq f (k / 2 - 1)).set r v)) t⟩):=rfl
  rw[step]
  by_cases hk:k=0
  ·subst hk
   exact⟨fun t=>by cases t<;>rfl,fun t v=>by cases t<;>rfl⟩
  ·have h0:Nat.beq k 0=false:=by rw[hb];simp[hk]
   rw[h0]
   by_cases ho:k % 2=1
   ·have h1:Nat.beq (k % 2) 1=true:=by rw[hb];simp[ho]
    rw[h1]
    refine⟨fun t=> ?_,fun t v=> ?_⟩
    ·show (Yq f (k / 2)).get _=_
     rw[(ih _).1]
     cases t with
     |leaf=>rfl
     |node u l r=>simp only[Trie.get,h0,h1,cond_true,cond_false]
    ·cases t with
     |leaf=>
      show Trie.node none ((Yq f (k / 2)).set .leaf v) .leaf=_
      rw[(ih _).2,zGY k v hk,h1];rfl
     |node u l r=>
      show Trie.node u ((Yq f (k / 2)).set l v) r=_
      rw[(ih _).2,zF6 k v u l r hk,h1];rfl
   ·have h1:Nat.beq (k % 2) 1=false:=by rw[hb];simp[ho]
    rw[h1]
    refine⟨fun t=> ?_,fun t v=> ?_⟩
    ·show (Yq f (k / 2 - 1)).get _=_
     rw[(ih _).1]
     cases t with
     |leaf=>rfl
     |node u l r=>simp only[Trie.get,h0,h1,cond_true,cond_false]
    ·cases t with
     |leaf=>
      show Trie.node none .leaf ((Yq f (k / 2 - 1)).set .leaf v)=_
      rw[(ih _).2,zGY k v hk,h1];rfl
     |node u l r=>
      show Trie.node u l ((Yq f (k / 2 - 1)).set r v)=_
      rw[(ih _).2,zF6 k v u l r hk,h1];rfl
structure CloE where
 ev:Trie Value→Value
noncomputable def zd (x:Operand):CloE:=
 match x with
 | .tmp k=>⟨fun t=> @Option.rec Value (fun _=>Value) undef (fun v=>v) ((Yq 64 k).get t)⟩
 | .const v=>⟨fun _=>v⟩
 | .global g=>⟨fun _=> .pointer (some ⟨g,0,none⟩)⟩
 | .func f=>⟨fun _=> .func (.func f) #[] #[]⟩
theorem zb (x:Operand) (t:Trie Value):(zd x).ev t=ev t x:=by
 cases x with
 |tmp k=>
  show @Option.rec Value (fun _=>Value) undef (fun v=>v) ((Yq 64 k).get t)=(t.get k).getD undef
  rw[(zFR 64 k).1]
  cases t.get k<;>rfl
 |_=>rfl
noncomputable def zFl (h:AHeap) (g:Nat):Option AObj:=h.tab.getF g
theorem zDR (h:AHeap) (g:Nat):zFl h g=h.get g:=zFZ _ _
noncomputable def zCq (h:AHeap) (o:AObj):AHeap:=⟨Nat.succ h.n,h.tab.putF (some o) h.n,h.mark,h.wr⟩
theorem zDY (h:AHeap) (o:AObj):zCq h o=h.push o:=by unfold zCq AHeap.push Trie.set;rw[zC2]
noncomputable def setHF (h:AHeap) (g:Nat) (o:AObj):AHeap:=⟨h.n,h.tab.putF (some o) g,h.mark,h.log g⟩
theorem setHF_eq (h:AHeap) (g:Nat) (o:AObj):setHF h g o=h.set g o:=by unfold setHF AHeap.set Trie.set;rw[zC2]
end Go.Am
namespace Go.Am
set_option linter.unusedVariables false
abbrev R:=Option Value
def ZG (x:Option (Value×AHeap)) (K:Value→AHeap→R):R:=x.bind fun p=>K p.1 p.2
structure ExK where
 exec:ACode→AFr→AHeap→(AExit→AFr→AHeap→R)→R
 call:FuncId→List Value→AHeap→(Value→AHeap→R)→R
structure ExOk (e:Ex) (x:ExK):Prop where
 exec:∀ c fr h K,x.exec c fr h K=(e.exec c fr h).bind fun p=>K p.1 p.2.1 p.2.2
 call:∀ f args h K,x.call f args h K=ZG (e.call f args h) K
noncomputable def ptrK (v:Value) (k:Addr→R):R:=match v with
 | .pointer (some a)=>k a
 |_=>none
noncomputable def ZF {α:Type} (x:Option α) (k:α→R):R:= @Option.rec α (fun _=>R) none k x
theorem yg {α:Type} (x:Option α) (k:α→R):ZF x k=x.bind k:=by cases x<;>rfl
noncomputable def rowK (h:AHeap) (g:Nat) (k:List Value→R):R:=ZF (zFl h g) fun o=>match o with
 | .row cells _ _=>k cells
 |_=>none
theorem zHu (h:AHeap) (g:Nat) (k:List Value→R):rowK h g k=(zg h g).bind k:=by
 unfold rowK zg
 rw[yg,zDR]
 cases h.get g with
 |none=>rfl
 |some o=>cases o<;>rfl
noncomputable def intK (v:Value) (k:IntKind→Int→R):R:=match v with
 | .int kk n=>k kk n
 |_=>none
noncomputable def natK (v:Value) (k:Nat→R):R:=match v with
 | .int _ (.ofNat n)=>k n
 |_=>none
theorem natK_eq (v:Value) (k:Nat→R):natK v k=(asN v).bind k:=by
 cases v with
 |int kk n=>cases n<;>rfl
 |_=>rfl
noncomputable def zCh (k:IntKind):Nat:= @IntKind.rec (fun _=>Nat) (nat_lit 0) (nat_lit 1) (nat_lit 2) (nat_lit 3) (nat_lit 4) (nat_lit 5) (nat_lit 6) (nat_lit 7) k
theorem kindN_eq (k k':IntKind):Nat.beq (zCh k) (zCh k')=decide (k=k'):=by cases k<;>cases k'<;>rfl
noncomputable def zB2 (k:IntKind) (n:Int):Int:=match n with
 | .ofNat m=>yE (Nat.ble m (nat_lit 127)) (.ofNat m) (yE (Nat.beq (zCh k) (nat_lit 3)) (yE (Nat.ble m (nat_lit 9223372036854775807)) (.ofNat m) (k.wrap (.ofNat m))) (k.wrap (.ofNat m)))
 |n=>k.wrap n
theorem zAi (k:IntKind) (n:Int):zB2 k n=k.wrap n:=by
 unfold zB2
 cases n with
 |negSucc m=>rfl
 |ofNat m=>
  simp only[yB]
  cases h1:Nat.ble m 127 with
  |true=>
   have:m≤127:=Nat.le_of_ble_eq_true h1
   simp only[cond_true]
   have e:(Int.ofNat m:Int)=(m:Int):=rfl
   rw[e]
   cases k<;>simp[IntKind.wrap,IntKind.signed,IntKind.bits]<;>omega
  |false=>
   simp only[cond_false]
   cases h2:Nat.beq (zCh k) 3 with
   |false=>rfl
   |true=>
    simp only[cond_true]
    have hk:k= .i64:=by cases k<;>first|rfl|cases h2
    subst hk
    cases h3:Nat.ble m 9223372036854775807 with
    |false=>rfl
    |true=>
     have:m≤9223372036854775807:=Nat.le_of_ble_eq_true h3
     simp only[cond_true]
     have e:(Int.ofNat m:Int)=(m:Int):=rfl
     rw[e]
     simp[IntKind.wrap,IntKind.signed,IntKind.bits];omega
noncomputable def ltF (a b:Int):Bool:=match a,b with
 | .ofNat m,.ofNat n=>Nat.ble (Nat.succ m) n
 | .negSucc _,.ofNat _=>true
 | .ofNat _,.negSucc _=>false
 | .negSucc m,.negSucc n=>Nat.ble (Nat.succ n) m
theorem zDM (a b:Int):ltF a b=decide (a<b):=by
 have hb:∀ a b:Nat,Nat.ble a b=decide (a≤b):=fun a b=>by rw[Bool.eq_iff_iff];simp
 have e1:∀ n:Nat,Int.ofNat n=(n:Int):=fun _=>rfl
 have e2:∀ n:Nat,Int.negSucc n= -((n:Int)+1):=fun n=>by omega
 cases a<;>cases b<;>simp only[ltF,hb]<;>rw[Bool.eq_iff_iff]<;>simp only[decide_eq_true_eq,Bool.false_eq_true,true_iff,false_iff,e1,e2]<;>omega
noncomputable def eqF (a b:Int):Bool:=match a,b with
 | .ofNat m,.ofNat n=>Nat.beq m n
 | .negSucc m,.negSucc n=>Nat.beq m n
 |_,_=>false
theorem zFT (a b:Int):eqF a b=decide (a=b):=by
 have hb:∀ a b:Nat,Nat.beq a b=decide (a=b):=fun a b=>by rw[Bool.eq_iff_iff];simp
 have e1:∀ n:Nat,Int.ofNat n=(n:Int):=fun _=>rfl
 have e2:∀ n:Nat,Int.negSucc n= -((n:Int)+1):=fun n=>by omega
 cases a<;>cases b<;>simp only[eqF,hb]<;>rw[Bool.eq_iff_iff]<;>simp only[decide_eq_true_eq,Bool.false_eq_true,true_iff,false_iff,e1,e2]<;>omega
noncomputable def twoK (x y:Value) (k:IntKind→Int→Int→R):R:=intK x fun kk a=>intK y fun kk' b=>yE (Nat.beq (zCh kk) (zCh kk')) (k kk a b) none
structure CloB where
 run:Value→Value→(Value→R)→R
noncomputable def cloB (op:BinOp):CloB:=
 match op with
 | .add=>⟨fun x y k=>twoK x y fun kk a b=>k (.int kk (zB2 kk (Int.add a b)))⟩
 | .sub=>⟨fun x y k=>twoK x y fun kk a b=>k (.int kk (zB2 kk (Int.sub a b)))⟩
 | .eql=>⟨fun x y k=>twoK x y fun _ a b=>k (.bool (eqF a b))⟩
 | .neq=>⟨fun x y k=>twoK x y fun _ a b=>k (.bool (!eqF a b))⟩
 | .lss=>⟨fun x y k=>twoK x y fun _ a b=>k (.bool (ltF a b))⟩
 | .gtr=>⟨fun x y k=>twoK x y fun _ a b=>k (.bool (ltF b a))⟩
 | .leq=>⟨fun x y k=>twoK x y fun _ a b=>k (.bool (!ltF b a))⟩
 | .geq=>⟨fun x y k=>twoK x y fun _ a b=>k (.bool (!ltF a b))⟩
 |op=>⟨fun x y k=>ZF (zi op x y) k⟩
theorem twoK_eq (x y:Value) (k:IntKind→Int→Int→R):twoK x y k=match x,y with
  | .int kk a,.int kk' b=>if kk=kk' then k kk a b else none
  |_,_=>none:=by
 cases x with
 |int kk a=>
  cases y with
  |int kk' b=>
   show yE (Nat.beq (zCh kk) (zCh kk')) (k kk a b) none=if kk=kk' then k kk a b else none
   rw[yB,kindN_eq]
   by_cases e:kk=kk'
   ·subst e;simp
   ·simp[e]
  |_=>rfl
 |_=>rfl
theorem zE3 (a b:Int):(!ltF b a)=decide (a≤b):=by
 rw[zDM,Bool.eq_iff_iff];simp
theorem cloB_eq (op:BinOp) (x y:Value) (k:Value→R):(cloB op).run x y k=(zi op x y).bind k:=by
 have two:∀ {f:IntKind→Int→Int→Value} {g:Option Value},(g=match x,y with
   | .int kk a,.int kk' b=>if kk=kk' then some (f kk a b) else none
   |_,_=>none)→(twoK x y fun kk a b=>k (f kk a b))=g.bind k:=by
  intro f g hg
  rw[twoK_eq,hg]
  split
  ·split<;>rfl
  ·rfl
 cases op with
 |add=>refine two (f:=fun kk a b=> .int kk (zB2 kk (Int.add a b))) ?_;cases x<;>cases y<;>first|rfl|(simp only[zi,zAi];done)|(simp only[zi,zAi];rfl)
 |sub=>refine two (f:=fun kk a b=> .int kk (zB2 kk (Int.sub a b))) ?_;cases x<;>cases y<;>first|rfl|(simp only[zi,zAi];done)|(simp only[zi,zAi];rfl)
 |eql=>refine two (f:=fun kk a b=> .bool (eqF a b)) ?_;cases x<;>cases y<;>first|rfl|(simp only[zi,zFT];done)|(simp only[zi,zFT];rfl)
 |neq=>refine two (f:=fun kk a b=> .bool (!eqF a b)) ?_;cases x<;>cases y<;>first|rfl|(simp only[zi,zFT];done)|(simp only[zi,zFT];rfl)
 |lss=>refine two (f:=fun kk a b=> .bool (ltF a b)) ?_;cases x<;>cases y<;>first|rfl|(simp only[zi,zDM];done)|(simp only[zi,zDM];rfl)
 |gtr=>refine two (f:=fun kk a b=> .bool (ltF b a)) ?_;cases x<;>cases y<;>first|rfl|(simp only[zi,zDM];done)|(simp only[zi,zDM];rfl)
 |leq=>refine two (f:=fun kk a b=> .bool (!ltF b a)) ?_;cases x<;>cases y<;>first|rfl|(simp only[zi,zE3];done)|(simp only[zi,zE3];rfl)
 |geq=>refine two (f:=fun kk a b=> .bool (!ltF a b)) ?_;cases x<;>cases y<;>first|rfl|(simp only[zi,zE3,ge_iff_le];done)|(simp only[zi,zE3,ge_iff_le];rfl)
 |_=>exact yg _ _
end Go.Am
namespace Go.Am
set_option linter.unusedVariables false
noncomputable def nthF (l:List Value):Nat→Option Value:=
 @List.rec Value (fun _=>Nat→Option Value) (fun _=>none) (fun v _ g n=> @Nat.rec (fun _=>Option Value) (some v) (fun m _=>g m) n) l
theorem zE7:∀ (l:List Value) (n:Nat),nthF l n=l[n]?
 |[],_=>rfl
 |v::l,0=>rfl
 |v::l,n+1=>by
  show nthF l n=_
  rw[zE7 l n];simp
theorem cut_one' (l:List Value) (n:Nat):(cut l n 1).bind (zH false)=l[n]?:=by
 unfold cut
 cases hb:Nat.ble (n+1) l.length with
 |true=>
  have hn:n<l.length:=Nat.le_of_ble_eq_true hb
  have e:(l.drop n).take 1=[l[n]]:=by rw[List.drop_eq_getElem_cons hn];rfl
  rw[cond_true,Option.bind_some,e,List.getElem?_eq_getElem hn]
  rfl
 |false=>
  have hn:¬n<l.length:=fun e=>by
   have:Nat.ble (n+1) l.length=true:=Nat.ble_eq_true_of_le e
   rw[this]at hb;cases hb
  simp[hn]
noncomputable def zEn (l:List Value):Nat→Option (List Value):=
 @List.rec Value (fun _=>Nat→Option (List Value)) (fun n=> @Nat.rec (fun _=>Option (List Value)) (some []) (fun _ _=>none) n)
  (fun v _ g n=> @Nat.rec (fun _=>Option (List Value)) (some []) (fun m _=> @Option.rec (List Value) (fun _=>Option (List Value)) none (fun r=>some (v::r)) (g m)) n) l
noncomputable def cutF (l:List Value):Nat→Nat→Option (List Value):=
 @List.rec Value (fun _=>Nat→Nat→Option (List Value)) (fun off n=> @Nat.rec (fun _=>Option (List Value)) (zEn [] n) (fun _ _=>none) off)
  (fun v r g off n=> @Nat.rec (fun _=>Option (List Value)) (zEn (v::r) n) (fun m _=>g m n) off) l
theorem zDv:∀ (l:List Value) (n:Nat),zEn l n=bif Nat.ble n l.length then some (l.take n) else none
 |[],0=>rfl
 |[],n+1=>rfl
 |v::l,0=>rfl
 |v::l,n+1=>by
  show @Option.rec (List Value) (fun _=>Option (List Value)) none (fun r=>some (v::r)) (zEn l n)=_
  rw[zDv l n]
  have:Nat.ble (n+1) (v::l).length=Nat.ble n l.length:=rfl
  rw[this]
  cases Nat.ble n l.length<;>rfl
theorem zC7:∀ (l:List Value) (off n:Nat),cutF l off n=cut l off n
 |[],0,n=>by
  show zEn [] n=_
  rw[zDv];unfold cut;rw[Nat.zero_add];rfl
 |[],off+1,n=>by
  show none=cut [] (off+1) n
  unfold cut
  have:Nat.ble (off+1+n) ([]:List Value).length=false:=by
   rw[show off+1+n=(off+n)+1 by omega];rfl
  rw[this];rfl
 |v::l,0,n=>by
  show zEn (v::l) n=_
  rw[zDv];unfold cut;rw[Nat.zero_add];rfl
 |v::l,off+1,n=>by
  show cutF l off n=_
  rw[zC7 l off n]
  unfold cut
  have:Nat.ble (off+1+n) (v::l).length=Nat.ble (off+n) l.length:=by
   rw[show off+1+n=(off+n)+1 by omega];rfl
  rw[this];rfl
noncomputable def zFe (v:Value) (l:List Value):Nat→Option (List Value):=
 @List.rec Value (fun _=>Nat→Option (List Value)) (fun _=>none) (fun u r g n=> @Nat.rec (fun _=>Option (List Value)) (some (v::r)) (fun m _=> @Option.rec (List Value) (fun _=>Option (List Value)) none (fun r=>some (u::r)) (g m)) n) l
theorem zEk (v:Value):∀ (l:List Value) (n:Nat),zFe v l n=bif Nat.ble (n+1) l.length then some (zX l n [v]) else none
 |[],n=>by
  have:Nat.ble (n+1) ([]:List Value).length=false:=rfl
  rw[this];rfl
 |u::r,0=>rfl
 |u::r,n+1=>by
  show @Option.rec (List Value) (fun _=>Option (List Value)) none (fun r=>some (u::r)) (zFe v r n)=_
  rw[zEk v r n]
  have:Nat.ble (n+1+1) (u::r).length=Nat.ble (n+1) r.length:=rfl
  rw[this]
  cases Nat.ble (n+1) r.length<;>simp[zX]
structure CloV where
 run:ExK→Trie Value→AHeap→(Value→AHeap→R)→R
noncomputable def zCl (v:Value) (k:Bool→R):R:=match v with
 | .bool b=>k b
 |_=>none
noncomputable def zBr (h:AHeap) (a:Addr) (v:Value) (K:AHeap→R):R:=
 yE a.spot.isNone (ZF (zFl h a.block) fun o=>match o with
  | .row cells true lo=>yE (Nat.ble lo a.off) (match v with
   | .agg _=>none
   | .tuple _=>none
   |v=>ZF (zFe v cells a.off) fun cells=>K (setHF h a.block (.row cells true lo))) none
  |_=>none) none
theorem zHf (h:AHeap) (a:Addr) (v:Value) (hv:v.cells.size=1) (hn:∀ cs,v≠ .agg cs) (K:AHeap→R):zBr h a v K=(zU h a v.cells.toList).bind K:=by
 have hc:v.cells.toList=[v]:=by cases v<;>first|rfl|exact absurd rfl (hn _)
 unfold zBr zU
 rw[hc,yB,yg,zDR]
 cases hs:a.spot.isNone with
 |false=>
  simp only[cond_false]
  split
  ·simp
  ·rfl
 |true=>
  simp only[cond_true]
  cases h.get a.block with
  |none=>rfl
  |some o=>
   cases o with
   |row cells own lo=>
    cases own with
    |false=>rfl
    |true=>
     show yE (Nat.ble lo a.off) _ none=_
     rw[yB]
     have h1:∀ K':List Value→R,(ZF (zFe v cells a.off) K')=(bif Nat.ble (a.off+1) cells.length then some (zX cells a.off [v]) else none).bind K':=fun K'=>by rw[yg,zEk]
     cases h2:Nat.ble lo a.off with
     |false=>simp[h2]
     |true=>
      simp only[h2,cond_true,Bool.and_true,List.length_singleton]
      cases v<;>first
       |(exact absurd rfl (hn _))
       |(simp only[h1,setHF_eq];cases Nat.ble (a.off+1) cells.length<;>simp[zR])
   |_=>rfl
noncomputable def zEy (x:ExK) (l:Nat) (r:ALoop) (args:List Value) (h:AHeap) (K:Value→AHeap→R):R:=
 x.exec r.assign ⟨zBc r.params args r.tm,[],some l⟩ h fun e fr h1=>match e with
  | .normal=>(match h1.get l with
   |some (.loop r1)=>
    bif (match r1.state with| .ready=>true|_=>false) then
     x.exec r.body fr (h1.set l (.loop {r1 with state:= .busy})) fun e fr2 h2=>match fr2.dfs,h2.get l with
      |[],some (.loop r2)=>K (yu l r2 h2 e).1 (yu l r2 h2 e).2
      |_,_=>none
    else none
   |_=>none)
  |_=>none
noncomputable def zFA (x:ExK) (f:Value) (args:List Value) (h:AHeap) (K:Value→AHeap→R):R:=
 match f with
 | .func (.func f) first cap=>x.call f (first.toList++(args++cap.toList)) h K
 | .func (.yield l) _ _=>
  match h.get l with
  |some (.loop r)=>bif Nat.beq args.length r.params.length then zEy x l r args h K else none
  |_=>none
 |_=>none
section
variable {P:Program} {e:Ex} {x:ExK}
theorem zI3 (ok:ExOk e x) (l:Nat) (r:ALoop) (args:List Value) (h:AHeap) (K:Value→AHeap→R):zEy x l r args h K=ZG (zAD e l r args h) K:=by
 unfold zEy zAD ZG
 rw[ok.exec]
 cases e.exec r.assign ⟨zBc r.params args r.tm,[],some l⟩ h with
 |none=>rfl
 |some p=>
  obtain⟨ex,fr,h1⟩:=p
  simp only[Option.bind_some]
  cases ex with
  |normal=>
   simp only
   cases h1.get l with
   |none=>rfl
   |some o=>
    cases o with
    |loop r1=>
     simp only
     cases hst:r1.state with
     |ready=>
      simp only[cond_true]
      rw[ok.exec]
      cases e.exec r.body fr (h1.set l (.loop {r1 with state:= .busy}))with
      |none=>rfl
      |some p=>
       obtain⟨e2,fr2,h2⟩:=p
       simp only[Option.bind_some]
       cases fr2.dfs with
       |nil=>
        cases h2.get l with
        |none=>rfl
        |some o=>cases o<;>rfl
       |cons d ds=>rfl
     |_=>rfl
    |_=>rfl
  |_=>rfl
theorem zEe (ok:ExOk e x) (f:Value) (args:List Value) (h:AHeap) (K:Value→AHeap→R):zFA x f args h K=ZG (Y6 e f args h) K:=by
 cases f with
 |func fn first cap=>
  cases fn with
  |func f=>
   show x.call f (first.toList++(args++cap.toList)) h K=ZG (e.call f (first.toList++args++cap.toList) h) K
   rw[ok.call,List.append_assoc]
  |yield l=>
   show (match h.get l with
    |some (.loop r)=>bif Nat.beq args.length r.params.length then zEy x l r args h K else none
    |_=>none)=ZG (match h.get l with
    |some (.loop r)=>bif Nat.beq args.length r.params.length then zAD e l r args h else none
    |_=>none) K
   cases h.get l with
   |none=>rfl
   |some o=>
    cases o with
    |loop r=>
     simp only
     cases Nat.beq args.length r.params.length with
     |true=>exact zI3 ok _ _ _ _ _
     |false=>rfl
    |_=>rfl
  |_=>rfl
 |_=>rfl
noncomputable def cloV (P:Program) (op:AOp):CloV:=
 match op with
 | .mov a=>⟨fun _ t h K=>K ((zd a).ev t) h⟩
 | .pick c a b=>⟨fun _ t h K=>zCl ((zd c).ev t) fun q=>K (yE q ((zd a).ev t) ((zd b).ev t)) h⟩
 | .bin op a b=>⟨fun _ t h K=>(cloB op).run ((zd a).ev t) ((zd b).ev t) fun v=>K v h⟩
 | .load agg n a=>yE (Nat.beq n 1&& !agg)
   ⟨fun _ t h K=>ptrK ((zd a).ev t) fun a=>yE a.spot.isNone (rowK h a.block fun cells=>ZF (nthF cells a.off) fun v=>K v h) none⟩
   ⟨fun _ t h K=>ptrK ((zd a).ev t) fun a=>yE a.spot.isNone (rowK h a.block fun cells=>ZF (cutF cells a.off n) fun l=>ZF (zH agg l) fun v=>K v h) none⟩
 | .store n a b=>⟨fun _ t h K=>ptrK ((zd a).ev t) fun a=>yE (Nat.beq n 1) (match (zd b).ev t with
   | .agg cs=>bif Nat.beq cs.size n then (zU h a cs.toList).bind fun h=>K undef h else none
   |v=>zBr h a v fun h=>K undef h) (ZG (bif Nat.beq ((zd b).ev t).cells.size n then (zU h a ((zd b).ev t).cells.toList).map (undef,·) else none) K)⟩
 | .idx c a i=>⟨fun _ t h K=>match (zd a).ev t with
   | .slice (some a) len k=>natK ((zd i).ev t) fun i=>yE (Nat.ble (Nat.succ i) len) (yE (Nat.beq k c) (yE a.spot.isNone (K (.pointer (some ⟨a.block,Nat.add a.off (Nat.mul i c),none⟩)) h) none) none) none
   |_=>none⟩
 | .fld off a=>⟨fun _ t h K=>ptrK ((zd a).ev t) fun a=>yE a.spot.isNone (K (.pointer (some ⟨a.block,Nat.add a.off off,none⟩)) h) none⟩
 | .len a=>⟨fun _ t h K=>match (zd a).ev t with
   | .slice _ n _=>K (.int .i64 (Int.ofNat n)) h
   |_=>none⟩
 | .nilCheck a=>⟨fun _ t h K=>ZF (YL ((zd a).ev t)) fun v=>K v h⟩
 | .extract a i=>⟨fun _ t h K=>match (zd a).ev t with
   | .tuple vs=>ZF (nthF vs.toList i) fun v=>K v h
   |_=>none⟩
 | .alloc zero=>⟨fun _ _ h K=>K (.pointer (some ⟨h.n,0,none⟩)) (zCq h (.row zero true 0))⟩
 | .box a=>⟨fun _ t h K=>K (.pointer (some ⟨h.n,0,none⟩)) (zCq h (.row ((zd a).ev t).cells.toList true 0))⟩
 | .call f args=>⟨fun x t h K=>zFA x ((zd f).ev t) (args.map fun a=>(zd a).ev t) h K⟩
 | .invoke a name args=>⟨fun x t h K=>match (zd a).ev t with
   | .iface ty v=>ZF (Yf P ty name) fun f=>x.call f (v::args.map fun a=>(zd a).ev t) h K
   |_=>ZG (aop P Ex.bot t h (.invoke a name args)) K⟩
 | .un op a=>⟨fun _ t h K=>ZF (unV op ((zd a).ev t)) fun v=>K v h⟩
 | .isNil kind neg a=>⟨fun _ t h K=>ZF (zCw kind ((zd a).ev t)) fun b=>K (.bool (if neg then !b else b)) h⟩
 | .binB neg a b=>⟨fun _ t h K=>zCl ((zd a).ev t) fun x=>zCl ((zd b).ev t) fun y=>K (.bool (if neg then x != y else x == y)) h⟩
 | .conv k a=>⟨fun _ t h K=>intK ((zd a).ev t) fun _ n=>K (.int k (zB2 k n)) h⟩
 | .build zero parts=>⟨fun _ t h K=>ZF (ye zero (parts.map fun (a,b,x)=>(a,b,(zd x).ev t))) fun cells=>K (.agg cells.toArray) h⟩
 | .buildSlice len c zero parts=>⟨fun _ t h K=>ZF (ye (zy zero len) (parts.map fun (a,b,x)=>(a,b,(zd x).ev t))) fun cells=>K (.slice (some ⟨h.n,0,none⟩) len c) (zCq h (.row cells true 0))⟩
 | .part agg off n a=>⟨fun _ t h K=>match (zd a).ev t with
   | .agg cs=>ZF (cutF cs.toList off n) fun l=>ZF (zH agg l) fun v=>K v h
   |_=>none⟩
 | .mkFunc fn first cap=>⟨fun _ t h K=>match fn with
   | .func f=>K (.func (.func f) (first.map fun a=>(zd a).ev t).toArray (cap.map fun a=>(zd a).ev t).toArray) h
   |_=>none⟩
 | .lenC n=>⟨fun _ _ h K=>K (.int .i64 (Int.ofNat n)) h⟩
 | .append c a b=>⟨fun _ t h K=>ZG (yh c ((zd a).ev t) ((zd b).ev t) h) K⟩
 |op=>⟨fun _ t h K=>ZG (aop P Ex.bot t h op) K⟩
theorem zEp (parts:List (Nat×Nat×Operand)) (t:Trie Value):(parts.map fun (a,b,x)=>(a,b,(zd x).ev t))=zv t parts:=by
 unfold zv
 apply List.map_congr_left
 rintro⟨a,b,x⟩ _
 show (a,b,(zd x).ev t)=(a,b,ev t x)
 rw[zb]
theorem zB3 (args:List Operand) (t:Trie Value):(args.map fun a=>(zd a).ev t)=args.map (ev t):=by
 apply List.map_congr_left;intro a _;exact zb a t
theorem cloV_ok (ok:ExOk e x) (op:AOp) (t:Trie Value) (h:AHeap) (K:Value→AHeap→R):(cloV P op).run x t h K=ZG (aop P e t h op) K:=by
 have slow:YJ op=true→ZG (aop P Ex.bot t h op) K=ZG (aop P e t h op) K:=fun hp=>by rw[zIQ e hp]
 cases op with
 |mov a=>show K ((zd a).ev t) h=_;rw[zb];rfl
 |pick c a b=>
  show zCl ((zd c).ev t) (fun q=>K (yE q ((zd a).ev t) ((zd b).ev t)) h)=_
  rw[zb,zb,zb]
  simp only[aop]
  cases ev t c with
  |bool q=>cases q<;>rfl
  |_=>rfl
 |bin op a b=>
  show (cloB op).run ((zd a).ev t) ((zd b).ev t) (fun v=>K v h)=_
  rw[zb,zb,cloB_eq]
  simp only[aop,ZG]
  cases zi op (ev t a) (ev t b)<;>rfl
 |load agg n a=>
  simp only[aop]
  cases hn:(Nat.beq n 1&& !agg)with
  |true=>
   rw[Bool.and_eq_true]at hn
   obtain⟨h1,h2⟩:=hn
   have h1:=Nat.eq_of_beq_eq_true h1
   have h2:agg=false:=by cases agg<;>simp_all
   subst h1 h2
   show ptrK ((zd a).ev t) (fun a=>yE a.spot.isNone (rowK h a.block fun cells=>ZF (nthF cells a.off) fun v=>K v h) none)=_
   rw[zb]
   cases ev t a with
   |pointer p=>
    cases p with
    |none=>rfl
    |some ad=>
     dsimp only
     show yE ad.spot.isNone _ none=_
     rw[yB]
     cases ad.spot.isNone with
     |false=>rfl
     |true=>
      simp only[cond_true,zHu,ZG]
      cases zg h ad.block with
      |none=>rfl
      |some cells=>
       simp only[Option.bind_some,yg,zE7,cut_one']
       cases cells[ad.off]?<;>rfl
   |_=>rfl
  |false=>
   have:cloV P (.load agg n a)=⟨fun _ t h K=>ptrK ((zd a).ev t) fun a=>yE a.spot.isNone (rowK h a.block fun cells=>ZF (cutF cells a.off n) fun l=>ZF (zH agg l) fun v=>K v h) none⟩:=by
    show yE (Nat.beq n 1&& !agg) _ _=_
    rw[hn];rfl
   rw[this]
   show ptrK ((zd a).ev t) (fun a=>yE a.spot.isNone (rowK h a.block fun cells=>ZF (cutF cells a.off n) fun l=>ZF (zH agg l) fun v=>K v h) none)=_
   rw[zb]
   cases ev t a with
   |pointer p=>
    cases p with
    |none=>rfl
    |some ad=>
     dsimp only
     show yE ad.spot.isNone _ none=_
     rw[yB]
     cases ad.spot.isNone with
     |false=>rfl
     |true=>
      simp only[cond_true,zHu,ZG]
      cases zg h ad.block with
      |none=>rfl
      |some cells=>
       simp only[Option.bind_some,yg,zC7]
       cases cut cells ad.off n with
       |none=>rfl
       |some l=>simp only[Option.bind_some];cases zH agg l<;>rfl
   |_=>rfl
 |store n a b=>
  show ptrK ((zd a).ev t) (fun a=>yE (Nat.beq n 1) (match (zd b).ev t with
   | .agg cs=>bif Nat.beq cs.size n then (zU h a cs.toList).bind fun h=>K undef h else none
   |v=>zBr h a v fun h=>K undef h) (ZG (bif Nat.beq ((zd b).ev t).cells.size n then (zU h a ((zd b).ev t).cells.toList).map (undef,·) else none) K))=_
  rw[zb,zb]
  simp only[aop]
  cases ev t a with
  |pointer p=>
   cases p with
   |none=>rfl
   |some ad=>
    show yE (Nat.beq n 1) _ _=_
    rw[yB]
    cases hn:Nat.beq n 1 with
    |false=>rfl
    |true=>
     have:=Nat.eq_of_beq_eq_true hn
     subst this
     simp only[cond_true]
     have plain:∀ v:Value,v.cells.size=1→(∀ cs,v≠ .agg cs)→(zBr h ad v fun h=>K undef h)=ZG (bif Nat.beq v.cells.size 1 then (zU h ad v.cells.toList).map (undef,·) else none) K:=fun v h1 h2=>by
      have h3:Nat.beq v.cells.size 1=true:=by rw[h1];rfl
      rw[zHf h ad v h1 h2,h3,cond_true,ZG]
      cases zU h ad v.cells.toList<;>rfl
     cases ev t b with
     |agg cs=>
      simp only[Value.cells]
      cases Nat.beq cs.size 1 with
      |false=>rfl
      |true=>simp only[cond_true,ZG];cases zU h ad cs.toList<;>rfl
     |_=>exact plain _ rfl (fun cs=>by simp)
  |_=>rfl
 |idx c a i=>
  show (match (zd a).ev t with
   | .slice (some a) len k=>natK ((zd i).ev t) fun i=>yE (Nat.ble (Nat.succ i) len) (yE (Nat.beq k c) (yE a.spot.isNone (K (.pointer (some ⟨a.block,Nat.add a.off (Nat.mul i c),none⟩)) h) none) none) none
   |_=>none)=_
  rw[zb,zb]
  simp only[aop]
  cases ev t a with
  |slice p len k=>
   cases p with
   |none=>rfl
   |some ad=>
    simp only[natK_eq]
    cases asN (ev t i)with
    |none=>rfl
    |some j=>
     simp only[Option.bind_some,yB]
     have hs:Nat.ble (Nat.succ j) len=Nat.ble (j+1) len:=rfl
     rw[hs]
     cases Nat.ble (j+1) len<;>cases Nat.beq k c<;>cases ad.spot.isNone<;>rfl
  |_=>rfl
 |fld off a=>
  show ptrK ((zd a).ev t) (fun a=>yE a.spot.isNone (K (.pointer (some ⟨a.block,Nat.add a.off off,none⟩)) h) none)=_
  rw[zb]
  simp only[aop]
  cases ev t a with
  |pointer p=>
   cases p with
   |none=>rfl
   |some ad=>dsimp only;show yE ad.spot.isNone _ none=_;rw[yB];cases ad.spot.isNone<;>rfl
  |_=>rfl
 |len a=>
  show (match (zd a).ev t with
   | .slice _ n _=>K (.int .i64 (Int.ofNat n)) h
   |_=>none)=_
  rw[zb]
  simp only[aop]
  cases ev t a<;>rfl
 |nilCheck a=>
  show ZF (YL ((zd a).ev t)) (fun v=>K v h)=_
  rw[zb,yg]
  simp only[aop,ZG]
  cases YL (ev t a)<;>rfl
 |extract a i=>
  show (match (zd a).ev t with
   | .tuple vs=>ZF (nthF vs.toList i) fun v=>K v h
   |_=>none)=_
  rw[zb]
  simp only[aop]
  cases ev t a with
  |tuple vs=>
   simp only[yg,zE7,Array.getElem?_toList]
   cases vs[i]?<;>rfl
  |_=>rfl
 |alloc zero=>show K _ (zCq h _)=_;rw[zDY];rfl
 |box a=>show K _ (zCq h (.row ((zd a).ev t).cells.toList true 0))=_;rw[zDY,zb];rfl
 |call f args=>
  show zFA x ((zd f).ev t) (args.map fun a=>(zd a).ev t) h K=_
  rw[zB3,zb,zEe ok];rfl
 |invoke a name args=>
  show (match (zd a).ev t with
   | .iface ty v=>ZF (Yf P ty name) fun f=>x.call f (v::args.map fun a=>(zd a).ev t) h K
   |_=>ZG (aop P Ex.bot t h (.invoke a name args)) K)=_
  rw[zb,zB3]
  simp only[aop]
  cases hv:ev t a with
  |iface ty v=>
   simp only[zAw,yg]
   cases Yf P ty name with
   |none=>rfl
   |some f=>simp only[Option.bind_some];exact ok.call _ _ _ _
  |_=>rfl
 |un op a=>
  show ZF (unV op ((zd a).ev t)) (fun v=>K v h)=_
  rw[zb,yg];simp only[aop,ZG];cases unV op (ev t a)<;>rfl
 |isNil kind neg a=>
  show ZF (zCw kind ((zd a).ev t)) (fun b=>K (.bool (if neg then !b else b)) h)=_
  rw[zb,yg];simp only[aop,ZG];cases zCw kind (ev t a)<;>rfl
 |binB neg a b=>
  show zCl ((zd a).ev t) (fun x=>zCl ((zd b).ev t) fun y=>K (.bool (if neg then x != y else x == y)) h)=_
  rw[zb,zb];simp only[aop]
  cases ev t a with
  |bool x=>cases ev t b<;>rfl
  |_=>rfl
 |conv k a=>
  show intK ((zd a).ev t) (fun _ n=>K (.int k (zB2 k n)) h)=_
  rw[zb];simp only[aop]
  cases ev t a with
  |int kk n=>show K (.int k (zB2 k n)) h=_;rw[zAi];rfl
  |_=>rfl
 |build zero parts=>
  show ZF (ye zero (parts.map fun (a,b,x)=>(a,b,(zd x).ev t))) (fun cells=>K (.agg cells.toArray) h)=_
  rw[zEp,yg];simp only[aop,ZG];cases ye zero (zv t parts)<;>rfl
 |buildSlice len c zero parts=>
  show ZF (ye (zy zero len) (parts.map fun (a,b,x)=>(a,b,(zd x).ev t))) (fun cells=>K (.slice (some ⟨h.n,0,none⟩) len c) (zCq h (.row cells true 0)))=_
  rw[zEp,yg];simp only[aop,ZG,zDY];cases ye (zy zero len) (zv t parts)<;>rfl
 |part agg off n a=>
  show (match (zd a).ev t with
   | .agg cs=>ZF (cutF cs.toList off n) fun l=>ZF (zH agg l) fun v=>K v h
   |_=>none)=_
  rw[zb];simp only[aop]
  cases ev t a with
  |agg cs=>
   simp only[zC7,yg]
   cases cut cs.toList off n with
   |none=>rfl
   |some l=>simp only[Option.bind_some];cases zH agg l<;>rfl
  |_=>rfl
 |mkFunc fn first cap=>
  show (match fn with
   | .func f=>K (.func (.func f) (first.map fun a=>(zd a).ev t).toArray (cap.map fun a=>(zd a).ev t).toArray) h
   |_=>none)=_
  rw[zB3,zB3];simp only[aop]
  cases fn<;>rfl
 |append c a b=>
  show ZG (yh c ((zd a).ev t) ((zd b).ev t) h) K=_
  rw[zb,zb];rfl
 |dfr f args=>rfl
 |dfrClear _ _ _ _=>rfl
 |recover=>rfl
 |_=>first|rfl|(show ZG (aop P Ex.bot t h _) K=_;exact slow rfl)
end
end Go.Am
namespace Go.Am
set_option linter.unusedVariables false
abbrev FrK:=AFr→AHeap→R
def frK (x:Option (AFr×AHeap)) (K:FrK):R:=x.bind fun p=>K p.1 p.2
structure CloO where
 run:ExK→AFr→AHeap→FrK→R
structure CloD where
 set:Trie Value→Value→Trie Value
noncomputable def cloD (d:Option Nat):CloD:=
 match d with
 |some d=>⟨(Yq 64 d).set⟩
 |none=>⟨fun t _=>t⟩
theorem zHw (d:Option Nat) (fr:AFr) (v:Value):(⟨(cloD d).set fr.tm v,fr.dfs,fr.round⟩:AFr)=val d fr v:=by
 cases d with
 |none=>rfl
 |some d=>show (⟨(Yq 64 d).set fr.tm v,fr.dfs,fr.round⟩:AFr)=_;rw[(zFR 64 d).2];rfl
def isDfrA:AOp→Bool
 | .dfr .. | .dfrClear .. | .recover=>true
 |_=>false
noncomputable def cloP (P:Program) (op:AOp) (d:Option Nat):CloO:=
 yE (isDfrA op) ⟨fun _ fr h K=>(zc P Ex.bot fr.tm fr.round h op).bind fun p=>K (val d {fr with dfs:=p.2.1++fr.dfs} p.1) p.2.2⟩
  ⟨fun x fr h K=>(cloV P op).run x fr.tm h fun v h=>K ⟨(cloD d).set fr.tm v,fr.dfs,fr.round⟩ h⟩
noncomputable def cloO (P:Program) (o:AOper):CloO:=
 match o.guard with
 |none=>cloP P o.op o.dst
 |some (j,want)=>⟨fun x fr h K=>match (zd (.tmp j)).ev fr.tm with
  | .bool b=>yE (b == want) ((cloP P o.op o.dst).run x fr h K) (K ⟨(cloD o.dst).set fr.tm undef,fr.dfs,fr.round⟩ h)
  |_=>K ⟨(cloD o.dst).set fr.tm undef,fr.dfs,fr.round⟩ h⟩
section
variable {P:Program} {e:Ex} {x:ExK}
theorem cloP_eq (ok:ExOk e x) (op:AOp) (d:Option Nat) (fr:AFr) (h:AHeap) (K:FrK):
  (cloP P op d).run x fr h K=(zc P e fr.tm fr.round h op).bind fun p=>K (val d {fr with dfs:=p.2.1++fr.dfs} p.1) p.2.2:=by
 unfold cloP
 cases hd:isDfrA op with
 |true=>
  show (zc P Ex.bot fr.tm fr.round h op).bind _=_
  have:zc P Ex.bot fr.tm fr.round h op=zc P e fr.tm fr.round h op:=by cases op<;>first|(cases hd;done)|rfl
  rw[this]
 |false=>
  show (cloV P op).run x fr.tm h (fun v h=>K ⟨(cloD d).set fr.tm v,fr.dfs,fr.round⟩ h)=_
  rw[cloV_ok ok]
  have e1:zc P e fr.tm fr.round h op=match aop P e fr.tm h op with
   |some (v,h)=>some (v,[],h)
   |none=>none:=by cases op<;>first|(cases hd;done)|rfl
  rw[e1]
  cases aop P e fr.tm h op with
  |none=>rfl
  |some q=>
   obtain⟨v,h⟩:=q
   show K ⟨(cloD d).set fr.tm v,fr.dfs,fr.round⟩ h=K (val d {fr with dfs:=[]++fr.dfs} v) h
   rw[zHw];rfl
theorem zIM (ok:ExOk e x) (o:AOper) (fr:AFr) (h:AHeap) (K:FrK):(cloO P o).run x fr h K=frK (zu P e o fr h) K:=by
 obtain⟨d,g,op⟩:=o
 have plain:(cloP P op d).run x fr h K=frK (match zc P e fr.tm fr.round h op with
  |some (v,ds,h)=>some (val d {fr with dfs:=ds++fr.dfs} v,h)
  |none=>none) K:=by
  rw[cloP_eq ok]
  cases zc P e fr.tm fr.round h op<;>rfl
 cases g with
 |none=>exact plain
 |some g=>
  obtain⟨j,want⟩:=g
  have e0:(cloO P ⟨d,some (j,want),op⟩).run x fr h K=(match (zd (.tmp j)).ev fr.tm with
   | .bool b=>yE (b == want) ((cloP P op d).run x fr h K) (K ⟨(cloD d).set fr.tm undef,fr.dfs,fr.round⟩ h)
   |_=>K ⟨(cloD d).set fr.tm undef,fr.dfs,fr.round⟩ h):=rfl
  have e1:zu P e ⟨d,some (j,want),op⟩ fr h=bif (match zC fr.tm j with| .bool b=>b == want|_=>false) then (match zc P e fr.tm fr.round h op with
   |some (v,ds,h)=>some (val d {fr with dfs:=ds++fr.dfs} v,h)
   |none=>none) else some (val d fr undef,h):=rfl
  rw[e0,e1,plain,zb,zHw]
  have e2:ev fr.tm (.tmp j)=zC fr.tm j:=rfl
  rw[e2]
  cases zC fr.tm j with
  |bool b=>
   dsimp only
   rw[yB]
   cases (b == want)<;>rfl
  |_=>rfl
noncomputable def cloOs (P:Program) (l:List AOper):CloO:=
 @List.rec AOper (fun _=>CloO) ⟨fun _ fr h K=>K fr h⟩ (fun o _ k=>⟨fun x fr h K=>(cloO P o).run x fr h fun fr h=>k.run x fr h K⟩) l
theorem zF2 (ok:ExOk e x):∀ (l:List AOper) (fr:AFr) (h:AHeap) (K:FrK),(cloOs P l).run x fr h K=frK (yF P e l fr h) K
 |[],_,_,_=>rfl
 |o::l,fr,h,K=>by
  show (cloO P o).run x fr h (fun fr h=>(cloOs P l).run x fr h K)=_
  rw[zIM ok]
  simp only[yF,frK]
  cases zu P e o fr h with
  |none=>rfl
  |some q=>exact zF2 ok l q.1 q.2 K
structure CloC where
 run:ExK→Nat→AFr→AHeap→FrK→R
noncomputable def cloC (P:Program) (o:AOper):CloC:=
 yE (Nat.beq (zD o.op) 3) ⟨fun _ g fr h K=>frK (zk P Ex.bot g o fr h) K⟩ ⟨fun x _ fr h K=>(cloO P o).run x fr h K⟩
theorem cloC_eq (ok:ExOk e x) (o:AOper) (g:Nat) (fr:AFr) (h:AHeap) (K:FrK):(cloC P o).run x g fr h K=frK (zk P e g o fr h) K:=by
 unfold cloC
 cases hk:Nat.beq (zD o.op) 3 with
 |true=>
  show frK (zk P Ex.bot g o fr h) K=_
  unfold zk;simp only[hk,cond_true]
 |false=>
  show (cloO P o).run x fr h K=_
  rw[zIM ok];unfold zk;simp only[hk,cond_false]
abbrev RsT:=List (Nat×Nat×Option (Nat×Nat×List Value))
structure CloR where
 run:ExK→Nat→Nat→List (Nat×Nat)→RsT→List (Nat×Nat)→AFr→AHeap→(AFr→AHeap→List (Nat×Nat)→R)→R
def okC (o:AOper) (un:List Nat) (ws:List (Nat×Nat)) (rs:RsT) (bs:List (Nat×Nat)) (t:Trie Value) (h':AHeap):Bool:=
 (match zT t o with
  |some g=>(ws.all fun (j,g')=> !(Nat.beq g g'&&un.contains j))&&bs.all fun (j,n)=> !un.contains j||Nat.ble (g+1) n
  |none=>true)&&rs.all fun (j,g,vw)=> !(un.contains j&&h'.wr.contains g)||zCb h' g vw
def okF (o:AOper) (un:List Nat) (ws:List (Nat×Nat)) (rs:RsT) (bs:List (Nat×Nat)) (t:Trie Value) (h':AHeap):Bool:=
 match un with
 |[]=>true
 |un=>okC o un ws rs bs t h'
theorem okF_eq (o:AOper) (un:List Nat) (ws:List (Nat×Nat)) (rs:RsT) (bs:List (Nat×Nat)) (t:Trie Value) (h':AHeap):okF o un ws rs bs t h'=okC o un ws rs bs t h':=by
 cases un with
 |cons a l=>rfl
 |nil=>
  unfold okF okC
  cases zT t o<;>simp
noncomputable def cloR (P:Program) (l:List (AOper×List Nat)):CloR:=
 @List.rec (AOper×List Nat) (fun _=>CloR) ⟨fun _ _ _ ws _ _ fr h K=>K fr h ws⟩
  (fun o _ k=>⟨fun x i g ws rs bs fr h K=>(cloC P o.1).run x g fr ⟨h.n,h.tab,h.n,[]⟩ fun fr' h'=>
   yE (okF o.1 o.2 ws rs bs fr.tm h') (k.run x (Nat.succ i) (yE (Nat.beq (zD o.1.op) 3) (Nat.succ g) g) (h'.wr.map (fun g=>(i,g))++ws) (match zT fr.tm o.1 with
     |some g=>(i,g,Z8 fr.tm h o.1.op)::rs
     |none=>rs) ((i,h.n)::bs) fr' h' K) none⟩) l
theorem zHr (ok:ExOk e x):∀ (l:List (AOper×List Nat)) (i g:Nat) (ws:List (Nat×Nat)) (rs:RsT) (bs:List (Nat×Nat)) (fr:AFr) (h:AHeap) (K:AFr→AHeap→List (Nat×Nat)→R),
  (cloR P l).run x i g ws rs bs fr h K=(zo P e l i g ws rs bs fr h).bind fun p=>K p.1 p.2.1 p.2.2
 |[],_,_,_,_,_,_,_,_=>rfl
 |(o,un)::l,i,g,ws,rs,bs,fr,h,K=>by
  show (cloC P o).run x g fr ⟨h.n,h.tab,h.n,[]⟩ (fun fr' h'=>
   yE (okF o un ws rs bs fr.tm h') ((cloR P l).run x (Nat.succ i) (yE (Nat.beq (zD o.op) 3) (Nat.succ g) g) (h'.wr.map (fun g=>(i,g))++ws) (match zT fr.tm o with
     |some g=>(i,g,Z8 fr.tm h o.op)::rs
     |none=>rs) ((i,h.n)::bs) fr' h' K) none)=_
  rw[cloC_eq ok,zo]
  show frK (zk P e g o fr {h with mark:=h.n,wr:=[]}) _=_
  cases zk P e g o fr {h with mark:=h.n,wr:=[]} with
  |none=>rfl
  |some q=>
   obtain⟨fr',h'⟩:=q
   show yE (okF o un ws rs bs fr.tm h') _ none=(bif okC o un ws rs bs fr.tm h' then _ else none).bind _
   rw[okF_eq,yB]
   cases okC o un ws rs bs fr.tm h' with
   |false=>rfl
   |true=>simp only[cond_true];rw[zHr ok l,yB];rfl
structure CloX where
 run:ExK→AFr→AHeap→(AExit→AFr→AHeap→R)→R
noncomputable def cntF (l:List (AOper×List Nat)):Nat:=(l.filter fun x=>Nat.beq (zD x.1.op) 3).length
noncomputable def zFV (x:ExK) (b:ACode) (n:Nat):ACode→AFr→AHeap→(AExit→AFr→AHeap→R)→R:=
 @Nat.rec (fun _=>ACode→AFr→AHeap→(AExit→AFr→AHeap→R)→R) (fun _ _ _ _=>none) (fun _ k c fr h K=>x.exec c fr h fun e fr h=>match e with
  | .goto l=>(match zh b l with
   |some rest=>k rest fr h K
   |none=>K (.goto l) fr h)
  |e=>K e fr h) n
def exK (x:Option (AExit×AFr×AHeap)) (K:AExit→AFr→AHeap→R):R:=x.bind fun p=>K p.1 p.2.1 p.2.2
theorem zEX (ok:ExOk e x) (b:ACode):∀ (n:Nat) (c:ACode) (fr:AFr) (h:AHeap) (K:AExit→AFr→AHeap→R),zFV x b n c fr h K=exK (yw e n b c fr h) K
 |0,_,_,_,_=>rfl
 |n+1,c,fr,h,K=>by
  show x.exec c fr h (fun e fr h=>match e with
   | .goto l=>(match zh b l with
    |some rest=>zFV x b n rest fr h K
    |none=>K (.goto l) fr h)
   |e=>K e fr h)=_
  rw[ok.exec]
  simp only[yw]
  cases e.exec c fr h with
  |none=>rfl
  |some p=>
   obtain⟨ex,fr1,h1⟩:=p
   cases ex with
   |goto l=>
    simp only[Option.bind_some]
    cases zh b l with
    |none=>rfl
    |some rest=>exact zEX ok b n rest fr1 h1 K
   |_=>rfl
noncomputable def zC9 (x:ExK) (f:Value) (params:List Nat) (assign body:ACode) (fr:AFr) (d:Nat) (mark:List Deferred) (h:AHeap) (K:AExit→AFr→AHeap→R):R:=
 zFA x f [.func (.yield h.n) #[] #[]] (h.push (.loop {state:= .ready,pending:=none,fn:=0,tm:=fr.tm,params,assign,body,defers:=d})) fun _ h2=>
  match h2.get h.n with
  |some (.loop r)=>
   match r.state with
   | .busy=>none
   |_=>match r.pending with
    |none=>K .normal {fr with dfs:=mark++fr.dfs} (h2.set h.n (.loop {r with state:= .exhausted}))
    |some .ret=>K .ret {fr with dfs:=mark++fr.dfs} (h2.set h.n (.loop {r with state:= .exhausted}))
    |some (.exit id)=>K (.exit id) {fr with dfs:=mark++fr.dfs} (h2.set h.n (.loop {r with state:= .exhausted}))
    |some (.goto g)=>K (.goto g) {fr with dfs:=mark++fr.dfs} (h2.set h.n (.loop {r with state:= .exhausted}))
    |some _=>none
  |_=>none
theorem zDo (ok:ExOk e x) (f:Value) (params:List Nat) (assign body:ACode) (fr:AFr) (d:Nat) (mark:List Deferred) (h:AHeap) (K:AExit→AFr→AHeap→R):
  zC9 x f params assign body fr d mark h K=exK (YT e f params assign body fr d mark h) K:=by
 unfold zC9 YT
 rw[zEe ok]
 cases Y6 e f [.func (.yield h.n) #[] #[]] (h.push (.loop {state:= .ready,pending:=none,fn:=0,tm:=fr.tm,params,assign,body,defers:=d}))with
 |none=>rfl
 |some p=>
  obtain⟨v,h2⟩:=p
  simp only[ZG,Option.bind_some]
  cases h2.get h.n with
  |none=>rfl
  |some o=>
   cases o with
   |loop r=>
    simp only
    cases r.state<;>(simp only;try rfl)<;>(cases r.pending with
     |none=>rfl
     |some c=>cases c<;>rfl)
   |_=>rfl
noncomputable def zFU (x:ExK) (f:Value) (params:List Nat) (assign body:ACode) (fr:AFr) (h:AHeap) (K:AExit→AFr→AHeap→R):R:=
 match fr.round with
 |none=>zC9 x f params assign body fr h.n [{target:= .collected h.n,args:=#[]}] (h.push (.deferred (some []))) K
 |some l=>match h.get l with
  |some (.loop r)=>zC9 x f params assign body fr r.defers [] h K
  |_=>none
theorem zJO (ok:ExOk e x) (f:Value) (params:List Nat) (assign body:ACode) (fr:AFr) (h:AHeap) (K:AExit→AFr→AHeap→R):zFU x f params assign body fr h K=exK (zAL e f params assign body fr h) K:=by
 unfold zFU zAL
 cases fr.round with
 |none=>exact zDo ok _ _ _ _ _ _ _ _ _
 |some l=>
  simp only
  cases h.get l with
  |none=>rfl
  |some o=>
   cases o with
   |loop r=>exact zDo ok _ _ _ _ _ _ _ _ _
   |_=>rfl
noncomputable def cloX (P:Program) (c:ACode):CloX:=
 match c with
 | .skip=>⟨fun _ fr h K=>K .normal fr h⟩
 | .label _=>⟨fun _ fr h K=>K .normal fr h⟩
 | .region ops=>⟨fun x fr h K=>(cloOs P ops).run x fr h fun fr h=>K .normal fr h⟩
 | .regionC ops=>⟨fun x fr h K=>(cloR P ops).run x 0 h.n [] [] [] fr ⟨Nat.add h.n (cntF ops),h.tab,h.mark,h.wr⟩ fun fr' h' ws=>K .normal fr' ⟨h'.n,h'.tab,h.mark,((ws.map (·.2)).filter fun g=> !Nat.ble h.mark g)++h.wr⟩⟩
 | .seq a b=>⟨fun x fr h K=>x.exec a fr h fun e fr h=>match e with
  | .normal=>x.exec b fr h K
  |e=>K e fr h⟩
 | .cond c a b=>⟨fun x fr h K=>zCl ((zd c).ev fr.tm) fun q=>yE q (x.exec a fr h K) (x.exec b fr h K)⟩
 | .block id b=>⟨fun x fr h K=>x.exec b fr h fun e fr h=>match e with
  | .exit id'=>yE (Nat.beq id' id) (K .normal fr h) (K (.exit id') fr h)
  |e=>K e fr h⟩
 | .loop b=>⟨fun x fr h K=>x.exec b fr h fun e fr h=>match e with
  | .normal=>x.exec (.loop b) fr h K
  |e=>K e fr h⟩
 | .exit id=>⟨fun _ fr h K=>K (.exit id) fr h⟩
 | .goto l=>⟨fun _ fr h K=>K (.goto l) fr h⟩
 | .ret=>⟨fun _ fr h K=>K .ret fr h⟩
 | .scope b=>⟨fun x fr h K=>zFV x b zDj b fr h K⟩
 | .rangeFunc f params assign body=>⟨fun x fr h K=>zFU x ((zd f).ev fr.tm) params assign body fr h K⟩
theorem cloX_eq (ok:ExOk e x) (c:ACode) (fr:AFr) (h:AHeap) (K:AExit→AFr→AHeap→R):(cloX P c).run x fr h K=exK (zS P e c fr h) K:=by
 cases c with
 |region ops=>
  show (cloOs P ops).run x fr h (fun fr h=>K .normal fr h)=_
  rw[zF2 ok]
  simp only[zS,frK,exK]
  cases yF P e ops fr h<;>rfl
 |regionC ops=>
  show (cloR P ops).run x 0 h.n [] [] [] fr ⟨Nat.add h.n (cntF ops),h.tab,h.mark,h.wr⟩ (fun fr' h' ws=>K .normal fr' ⟨h'.n,h'.tab,h.mark,((ws.map (·.2)).filter fun g=> !Nat.ble h.mark g)++h.wr⟩)=_
  rw[zHr ok]
  simp only[zS,exK,YH]
  have:(⟨Nat.add h.n (cntF ops),h.tab,h.mark,h.wr⟩:AHeap)={h with n:=h.n+(ops.filter fun x=>Nat.beq (zD x.1.op) 3).length}:=rfl
  rw[this]
  cases zo P e ops 0 h.n [] [] [] fr {h with n:=h.n+(ops.filter fun x=>Nat.beq (zD x.1.op) 3).length}<;>rfl
 |seq a b=>
  show x.exec a fr h (fun e fr h=>match e with
   | .normal=>x.exec b fr h K
   |e=>K e fr h)=_
  rw[ok.exec]
  simp only[zS,exK]
  cases e.exec a fr h with
  |none=>rfl
  |some p=>
   obtain⟨ex,fr1,h1⟩:=p
   cases ex with
   |normal=>exact ok.exec _ _ _ _
   |_=>rfl
 |cond c a b=>
  show zCl ((zd c).ev fr.tm) (fun q=>yE q (x.exec a fr h K) (x.exec b fr h K))=_
  rw[zb]
  simp only[zS,exK]
  cases ev fr.tm c with
  |bool q=>cases q<;>exact ok.exec _ _ _ _
  |_=>rfl
 |block id b=>
  show x.exec b fr h (fun e fr h=>match e with
   | .exit id'=>yE (Nat.beq id' id) (K .normal fr h) (K (.exit id') fr h)
   |e=>K e fr h)=_
  rw[ok.exec]
  simp only[zS,exK]
  cases e.exec b fr h with
  |none=>rfl
  |some p=>
   obtain⟨ex,fr1,h1⟩:=p
   cases ex with
   |exit i=>
    simp only[Option.bind_some]
    rw[yB]
    by_cases hi:i=id
    ·subst hi;simp
    ·have:Nat.beq i id=false:=by rw[Bool.eq_false_iff];intro hb;exact hi (Nat.eq_of_beq_eq_true hb)
     rw[this,if_neg hi];rfl
   |_=>rfl
 |loop b=>
  show x.exec b fr h (fun e fr h=>match e with
   | .normal=>x.exec (.loop b) fr h K
   |e=>K e fr h)=_
  rw[ok.exec]
  simp only[zS,exK]
  cases e.exec b fr h with
  |none=>rfl
  |some p=>
   obtain⟨ex,fr1,h1⟩:=p
   cases ex with
   |normal=>exact ok.exec _ _ _ _
   |_=>rfl
 |scope b=>
  show zFV x b zDj b fr h K=exK (yw e zDj b b fr h) K
  exact zEX ok b zDj b fr h K
 |rangeFunc f ps a b=>
  show zFU x ((zd f).ev fr.tm) ps a b fr h K=_
  rw[zb]
  exact zJO ok _ _ _ _ _ _ _
 |_=>rfl
noncomputable def zAP (x:ExK) (ds:List Deferred):AHeap→(AHeap→R)→R:=
 @List.rec Deferred (fun _=>AHeap→(AHeap→R)→R) (fun h K=>K h) (fun d _ k h K=>match d.target with
  | .fn (.func f) cap=>x.call f (d.args.toList++cap.toList) h fun _ h=>k h K
  | .builtin .clear _ _ _=>match d.args.toList with
   |[.map (some g)]=>match h.get g with
    |some (.map _ clock)=>k (h.set g (.map [] clock)) K
    |_=>none
   |_=>none
  | .collected g=>match h.get g with
   |some (.deferred (some []))=>k (h.set g (.deferred none)) K
   |_=>none
  |_=>none) ds
theorem zAI (ok:ExOk e x):∀ (ds:List Deferred) (h:AHeap) (K:AHeap→R),zAP x ds h K=(yA e ds h).bind K
 |[],_,_=>rfl
 |d::ds,h,K=>by
  obtain⟨tg,as⟩:=d
  show (match tg with
   | .fn (.func f) cap=>x.call f (as.toList++cap.toList) h fun _ h=>zAP x ds h K
   | .builtin .clear _ _ _=>match as.toList with
    |[.map (some g)]=>match h.get g with
     |some (.map _ clock)=>zAP x ds (h.set g (.map [] clock)) K
     |_=>none
    |_=>none
   | .collected g=>match h.get g with
    |some (.deferred (some []))=>zAP x ds (h.set g (.deferred none)) K
    |_=>none
   |_=>none)=_
  rw[yA]
  dsimp only
  have mapK:∀ g,(match h.get g with
    |some (.map _ clock)=>zAP x ds (h.set g (.map [] clock)) K
    |_=>none)=(match h.get g with
    |some (.map _ clock)=>yA e ds (h.set g (.map [] clock))
    |_=>none).bind K:=fun g=>by
   cases h.get g with
   |none=>rfl
   |some o=>cases o<;>first|exact zAI ok ds _ K|rfl
  have defK:∀ g,(match h.get g with
    |some (.deferred (some []))=>zAP x ds (h.set g (.deferred none)) K
    |_=>none)=(match h.get g with
    |some (.deferred (some []))=>yA e ds (h.set g (.deferred none))
    |_=>none).bind K:=fun g=>by
   cases h.get g with
   |none=>rfl
   |some o=>
    cases o with
    |deferred q=>
     cases q with
     |none=>rfl
     |some l=>cases l<;>first|exact zAI ok ds _ K|rfl
    |_=>rfl
  cases tg with
  |fn f cap=>
   cases f with
   |func f=>
    dsimp only
    rw[ok.call]
    simp only[ZG]
    cases e.call f (as.toList++cap.toList) h with
    |none=>rfl
    |some p=>exact zAI ok ds p.2 K
   |_=>rfl
  |builtin b ts ty cs=>
   cases b with
   |clear=>
    dsimp only
    generalize as.toList=l
    rcases l with _|⟨a,_|⟨b,l⟩⟩
    ·rfl
    ·cases a with
     |map r=>
      cases r with
      |none=>rfl
      |some g=>exact mapK g
     |_=>rfl
    ·cases a with
     |map r=>cases r<;>rfl
     |_=>rfl
   |_=>rfl
  |collected g=>exact defK g
  |_=>rfl
noncomputable def mkTmF (l:List Value):Nat→Trie Value→Trie Value:=
 @List.rec Value (fun _=>Nat→Trie Value→Trie Value) (fun _ t=>t) (fun v _ k n t=>k (Nat.succ n) ((Yq 64 n).set t v)) l
theorem zGK:∀ (l:List Value) (k:Nat) (t:Trie Value),mkTmF l k t=zO l k t
 |[],_,_=>rfl
 |v::l,k,t=>by
  show mkTmF l (k+1) ((Yq 64 k).set t v)=_
  rw[zGK l,(zFR 64 k).2];rfl
noncomputable def resF (h:AHeap) (t:Trie Value) (r:Nat×Option (Bool×Nat)):Option Value:=
 match r with
 |(k,none)=>some ((zd (.tmp k)).ev t)
 |(k,some (agg,n))=>match (zd (.tmp k)).ev t with
  | .pointer (some a)=>yE a.spot.isNone (match zFl h a.block with
   |some (.row cells _ _)=>(cutF cells a.off n).bind (zH agg)
   |_=>none) none
  |_=>none
theorem resF_eq (h:AHeap) (t:Trie Value) (r:Nat×Option (Bool×Nat)):resF h t r=Zw h t r:=by
 obtain⟨k,o⟩:=r
 cases o with
 |none=>show some ((zd (.tmp k)).ev t)=some (zC t k);rw[zb];rfl
 |some q=>
  obtain⟨agg,n⟩:=q
  show (match (zd (.tmp k)).ev t with
   | .pointer (some a)=>yE a.spot.isNone (match zFl h a.block with
    |some (.row cells _ _)=>(cutF cells a.off n).bind (zH agg)
    |_=>none) none
   |_=>none)=(match zC t k with
   | .pointer (some a)=>bif a.spot.isNone then ((zg h a.block).bind fun cells=>cut cells a.off n).bind (zH agg) else none
   |_=>none)
  rw[zb]
  have e2:ev t (.tmp k)=zC t k:=rfl
  rw[e2]
  cases zC t k with
  |pointer p=>
   cases p with
   |none=>rfl
   |some a=>
    dsimp only
    rw[yB,zDR]
    unfold zg
    cases a.spot.isNone with
    |false=>rfl
    |true=>
     cases h.get a.block with
     |none=>rfl
     |some o=>cases o<;>first|(simp only[zC7];rfl)|rfl
  |_=>rfl
noncomputable def ressF (h:AHeap) (t:Trie Value) (l:List (Nat×Option (Bool×Nat))):Option (List Value):=
 @List.rec (Nat×Option (Bool×Nat)) (fun _=>Option (List Value)) (some []) (fun r _ q=> @Option.rec Value (fun _=>Option (List Value)) none (fun v=> @Option.rec (List Value) (fun _=>Option (List Value)) none (fun vs=>some (v::vs)) q) (resF h t r)) l
theorem zGo (h:AHeap) (t:Trie Value):∀ l,ressF h t l=zn h t l
 |[]=>rfl
 |r::l=>by
  show @Option.rec Value (fun _=>Option (List Value)) none (fun v=> @Option.rec (List Value) (fun _=>Option (List Value)) none (fun vs=>some (v::vs)) (ressF h t l)) (resF h t r)=_
  rw[resF_eq,zGo h t l,zn]
  cases Zw h t r with
  |none=>rfl
  |some v=>cases zn h t l<;>rfl
noncomputable def callK (tab:Tab) (x:ExK) (f:FuncId) (args:List Value) (h:AHeap) (K:Value→AHeap→R):R:=
 match tab.stub f with
 |some s=>ZG (s args h) K
 |none=>ZF (tab.code f) fun fn=>x.exec fn.body ⟨mkTmF args 0 .leaf,[],none⟩ h fun e fr h=>
   yE (match e with| .normal| .ret=>true|_=>false) (zAP x fr.dfs h fun h=>ZF (ressF h fr.tm fn.results) fun vs=>K (one vs) h) none
theorem callK_eq (ok:ExOk e x) (tab:Tab) (f:FuncId) (args:List Value) (h:AHeap) (K:Value→AHeap→R):callK tab x f args h K=ZG (zAQ P tab e f args h) K:=by
 unfold callK zAQ
 cases tab.stub f with
 |some s=>rfl
 |none=>
  simp only
  rw[yg]
  unfold zBg
  cases tab.code f with
  |none=>rfl
  |some fn=>
   simp only[Option.bind_some]
   rw[ok.exec,zGK]
   cases e.exec fn.body ⟨zO args 0 .leaf,[],none⟩ h with
   |none=>rfl
   |some p=>
    obtain⟨ex,fr,h1⟩:=p
    simp only[Option.bind_some,yB,zAI ok,yg,zGo]
    cases ex<;>simp only[cond_true,cond_false,ZG,Option.bind_none]
    all_goals
     cases yA e fr.dfs h1 with
     |none=>rfl
     |some h2=>
      simp only[Option.bind_some]
      cases zn h2 fr.tm fn.results<;>rfl
noncomputable def aexK (P:Program) (tab:Tab) (n:Nat):ExK:=
 @Nat.rec (fun _=>ExK) ⟨fun _ _ _ _=>none,fun _ _ _ _=>none⟩ (fun _ x=>⟨fun c fr h K=>(cloX P c).run x fr h K,fun f args h K=>callK tab x f args h K⟩) n
theorem zI8 (P:Program) (tab:Tab) (n:Nat):aexK P tab (n+1)=⟨fun c fr h K=>(cloX P c).run (aexK P tab n) fr h K,fun f args h K=>callK tab (aexK P tab n) f args h K⟩:=rfl
theorem aexK_ok (P:Program) (tab:Tab) (n:Nat):ExOk (aex P tab n) (aexK P tab n):=by
 induction n with
 |zero=>exact⟨fun _ _ _ _=>rfl,fun _ _ _ _=>rfl⟩
 |succ n ih=>
  rw[zI8]
  refine⟨fun c fr h K=> ?_,fun f args h K=> ?_⟩
  ·have:=cloX_eq ih c fr h K (P:=P)
   exact this
  ·have:=callK_eq (P:=P) ih tab f args h K
   exact this
theorem run_fast {P:Program} {tab:Tab} {n:Nat} {f:FuncId} {args:List Value} {h:AHeap} {v:Value} (hx:(aexK P tab n).call f args h (fun v _=>some v)=some v):
  ((aex P tab n).call f args h).map (·.1)=some v:=by
 have e:=(aexK_ok P tab n).call f args h fun v _=>some v
 rw[hx]at e
 cases hc:(aex P tab n).call f args h with
 |none=>rw[hc]at e;cases e
 |some p=>rw[hc]at e;exact e.symm
end
end Go.Am
