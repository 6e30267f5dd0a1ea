/- A part of the abstract machine for the model's programs and of the proof that what it yields the model's call yields (definitions, operations, runs, regions that draw their order); no statement of the seat is proved in this text. -/
import Derived.Test.YtmilpkdhbdgjfaaAmR
import Derived.Test.YtmilpkdhbdgjfaaAmD
set_option linter.unusedVariables false
set_option linter.unusedSimpArgs false
namespace Go.Am
set_option linter.unusedVariables false
def Slot (t:Trie Value) (k:Nat) (v:Value):Prop:=tmGet t k=v
def Ope (t:Trie Value) (x:Operand) (v:Value):Prop:=ev t x=v
def notIn (j:Nat):List Nat→Bool
 |[]=>true
 |k::l=>bif Nat.beq j k then false else notIn j l
def SameA (ws:List Nat) (t0 t:Trie Value):Prop:=∀ j,notIn j ws=true→tmGet t j=tmGet t0 j
theorem Slot.here {t:Trie Value} {k:Nat} {v:Value}:Slot (t.set k v) k v:=by unfold Slot;rw[tmGet_set,if_pos rfl]
theorem Slot.there {t:Trie Value} {k j:Nat} {v w:Value} (hn:Nat.beq j k=false) (s:Slot t j v):Slot (t.set k w) j v:=by
 unfold Slot at *;rw[tmGet_set,if_neg (fun e=>by subst e;simp at hn)];exact s
theorem Slot.same {ws t0 t j v} (hs:SameA ws t0 t) (hn:notIn j ws=true) (s:Slot t0 j v):Slot t j v:=(hs j hn).trans s
theorem Ope.tmp {t k v} (s:Slot t k v):Ope t (.tmp k) v:=s
theorem Ope.const {t v}:Ope t (.const v) v:=rfl
theorem Ope.fn {t f}:Ope t (.func f) (.func (.func f) #[] #[]):=rfl
theorem Ope.glob {t g}:Ope t (.global g) (.pointer (some ⟨g,0,none⟩)):=rfl
def Opes (t:Trie Value) (xs:List Operand) (vs:List Value):Prop:=xs.map (ev t)=vs
theorem Opes.nil {t}:Opes t [] []:=rfl
theorem Opes.cons {t x xs v vs} (h:Ope t x v) (k:Opes t xs vs):Opes t (x::xs) (v::vs):=by unfold Opes Ope at *;simp[h,k]
def AsN (n:Int) (i:Nat):Prop:=asN (I n)=some i
theorem AsN.nat {i:Nat}:AsN (i:Int) i:=rfl
theorem AsN.lit {n:Int} {i:Nat} (h:n=(i:Int)):AsN n i:=by subst h;rfl
theorem AsN.int {n:Int} (h:0≤n):AsN n n.toNat:=by
 obtain⟨i,rfl⟩:=Int.eq_ofNat_of_zero_le h
 rfl
def Parts (t:Trie Value) (ps:List (Nat×Nat×Operand)) (vs:List (Nat×Nat×Value)):Prop:=evParts t ps=vs
theorem Parts.nil {t}:Parts t [] []:=rfl
theorem Parts.cons {t a b x ps v vs} (h:Ope t x v) (k:Parts t ps vs):Parts t ((a,b,x)::ps) ((a,b,v)::vs):=by unfold Parts Ope at *;unfold evParts at *;simp[h,k]
theorem notIn_contains {j:Nat}:∀ {l:List Nat},notIn j l=true→l.contains j=false
 |[],_=>rfl
 |k::l,h=>by
  unfold notIn at h
  cases hb:Nat.beq j k with
  |true=>rw[hb]at h;cases h
  |false=>
   rw[hb]at h
   have:=notIn_contains (l:=l) h
   simp only[List.contains_cons,this,Bool.or_false]
   have:j≠k:=fun e=>by subst e;simp at hb
   simpa using this
theorem slotA {t k v} (h:Slot t k v:=by (repeat (first|((with_reducible apply Slot.there);rfl)|((with_reducible apply Slot.same);(with_reducible assumption);rfl)));first|with_reducible exact Slot.here|with_reducible assumption|(unfold Slot;with_reducible assumption)):Slot t k v:=h
theorem opeA {t x v} (h:Ope t x v:=by first|with_reducible exact Ope.const|((with_reducible apply Ope.tmp);(repeat (first|((with_reducible apply Slot.there);rfl)|((with_reducible apply Slot.same);(with_reducible assumption);rfl)));first|with_reducible exact Slot.here|with_reducible assumption|(unfold Slot;with_reducible assumption))|with_reducible exact Ope.fn|with_reducible exact Ope.glob|fail):Ope t x v:=h
theorem opesA {t xs vs} (h:Opes t xs vs:=by (repeat (apply Opes.cons;(exact opeA)));exact Opes.nil):Opes t xs vs:=h
theorem notT {b:Bool} (h:b=false):(!b)=true:=by rw[h];rfl
theorem notF {b:Bool} (h:b=true):(!b)=false:=by rw[h];rfl
theorem DB:(∀ a:Prop,∀ [Decidable a],(decide a=true)=a)∧(∀ a:Prop,∀ [Decidable a],(decide a=false)=¬a)∧(∀ b:Bool,((!b)=true)=(b=false))∧(∀ b:Bool,((!b)=false)=(b=true))∧
  (∀ a b:Bool,((a||b)=true)=(a=true∨b=true))∧(∀ a b:Bool,((a&&b)=true)=(a=true∧b=true))∧(∀ a b:Bool,((a||b)=false)=(a=false∧b=false))∧(∀ a b:Bool,((a&&b)=false)=(a=false∨b=false))∧
  (∀ a b:Int,(¬a<b)=(b≤a))∧(∀ a b:Int,(¬a≤b)=(b<a))∧((true=true)=True)∧((false=false)=True)∧((true=false)=False)∧((false=true)=False):=
 ⟨fun a _=>by simp,fun a _=>by simp,fun b=>by simp,fun b=>by simp,fun a b=>by simp,fun a b=>by simp,fun a b=>by simp,fun a b=>by cases a<;>cases b<;>simp,fun a b=>by simp,fun a b=>by simp,by simp,by simp,by simp,by simp⟩
theorem decA {p:Prop} (h:p:=by first|with_reducible rfl|with_reducible exact Bool.not_false|with_reducible exact Bool.not_true|with_reducible assumption|exact decide_eq_true (by first|with_reducible assumption|omega)|exact decide_eq_false (by first|with_reducible assumption|omega)|exact notT (by first|with_reducible assumption|exact decide_eq_false (by first|with_reducible assumption|omega)|fail)|exact notF (by first|with_reducible assumption|exact decide_eq_true (by first|with_reducible assumption|omega)|fail)|(simp only[DB, *];done)|fail):p:=h
def IsSl (v:Value):Prop:=∃ a k m,v= .slice (some a) k m
section
variable {P:Program} {tab:Tab} {ds:List Deferred} {rd:Option Nat}
variable {h:AHeap} {l:List AOper} {t:Trie Value} {Q:AFr→AHeap→Prop}
theorem R.mov {d:Nat} {x:Operand} {v:Value} (hx:Ope t x v) (k:WO P tab l ⟨t.set d v,ds,rd⟩ h Q):WO P tab (⟨some d,none,.mov x⟩::l) ⟨t,ds,rd⟩ h Q:=
 WO.op _ _ rfl (by unfold Ope at *;simp only[aop,hx]) k
theorem R.add {d:Nat} {x y:Operand} {a b:Int} (hx:Ope t x (I a)) (hy:Ope t y (I b)) (h1: -9223372036854775808≤a+b) (h2:a+b≤9223372036854775807) (k:WO P tab l ⟨t.set d (I (a+b)),ds,rd⟩ h Q):WO P tab (⟨some d,none,.bin .add x y⟩::l) ⟨t,ds,rd⟩ h Q:=
 WO.op _ _ rfl (by unfold Ope at *;simp only[aop,hx,hy,I,binV_add,Option.map_some];rw[wrap64 h1 h2]) k
theorem R.sub {d:Nat} {x y:Operand} {a b:Int} (hx:Ope t x (I a)) (hy:Ope t y (I b)) (h1: -9223372036854775808≤a - b) (h2:a - b≤9223372036854775807) (k:WO P tab l ⟨t.set d (I (a - b)),ds,rd⟩ h Q):WO P tab (⟨some d,none,.bin .sub x y⟩::l) ⟨t,ds,rd⟩ h Q:=
 WO.op _ _ rfl (by unfold Ope at *;simp only[aop,hx,hy,I,binV_sub,Option.map_some];rw[wrap64 h1 h2]) k
theorem R.mul {d:Nat} {x y:Operand} {a b:Int} (hx:Ope t x (I a)) (hy:Ope t y (I b)) (h1: -9223372036854775808≤a * b) (h2:a * b≤9223372036854775807) (k:WO P tab l ⟨t.set d (I (a * b)),ds,rd⟩ h Q):WO P tab (⟨some d,none,.bin .mul x y⟩::l) ⟨t,ds,rd⟩ h Q:=
 WO.op _ _ rfl (by unfold Ope at *;simp only[aop,hx,hy,I,binV_mul,Option.map_some];rw[wrap64 h1 h2]) k
theorem R.lss {d:Nat} {x y:Operand} {a b:Int} {kk:IntKind} (hx:Ope t x (.int kk a)) (hy:Ope t y (.int kk b)) (k:WO P tab l ⟨t.set d (.bool (decide (a<b))),ds,rd⟩ h Q):WO P tab (⟨some d,none,.bin .lss x y⟩::l) ⟨t,ds,rd⟩ h Q:=
 WO.op _ _ rfl (by unfold Ope at *;simp only[aop,hx,hy,binV_lss,Option.map_some]) k
theorem R.leq {d:Nat} {x y:Operand} {a b:Int} {kk:IntKind} (hx:Ope t x (.int kk a)) (hy:Ope t y (.int kk b)) (k:WO P tab l ⟨t.set d (.bool (decide (a≤b))),ds,rd⟩ h Q):WO P tab (⟨some d,none,.bin .leq x y⟩::l) ⟨t,ds,rd⟩ h Q:=
 WO.op _ _ rfl (by unfold Ope at *;simp only[aop,hx,hy,binV_leq,Option.map_some]) k
theorem R.gtr {d:Nat} {x y:Operand} {a b:Int} {kk:IntKind} (hx:Ope t x (.int kk a)) (hy:Ope t y (.int kk b)) (k:WO P tab l ⟨t.set d (.bool (decide (b<a))),ds,rd⟩ h Q):WO P tab (⟨some d,none,.bin .gtr x y⟩::l) ⟨t,ds,rd⟩ h Q:=
 WO.op _ _ rfl (by unfold Ope at *;simp only[aop,hx,hy,binV_gtr,Option.map_some]) k
theorem R.geq {d:Nat} {x y:Operand} {a b:Int} {kk:IntKind} (hx:Ope t x (.int kk a)) (hy:Ope t y (.int kk b)) (k:WO P tab l ⟨t.set d (.bool (decide (b≤a))),ds,rd⟩ h Q):WO P tab (⟨some d,none,.bin .geq x y⟩::l) ⟨t,ds,rd⟩ h Q:=
 WO.op _ _ rfl (by unfold Ope at *;simp only[aop,hx,hy,binV_geq,Option.map_some]) k
theorem R.eql {d:Nat} {x y:Operand} {a b:Int} {kk:IntKind} (hx:Ope t x (.int kk a)) (hy:Ope t y (.int kk b)) (k:WO P tab l ⟨t.set d (.bool (decide (a=b))),ds,rd⟩ h Q):WO P tab (⟨some d,none,.bin .eql x y⟩::l) ⟨t,ds,rd⟩ h Q:=
 WO.op _ _ rfl (by unfold Ope at *;simp only[aop,hx,hy,binV_eql,Option.map_some]) k
theorem R.neq {d:Nat} {x y:Operand} {a b:Int} {kk:IntKind} (hx:Ope t x (.int kk a)) (hy:Ope t y (.int kk b)) (k:WO P tab l ⟨t.set d (.bool (!decide (a=b))),ds,rd⟩ h Q):WO P tab (⟨some d,none,.bin .neq x y⟩::l) ⟨t,ds,rd⟩ h Q:=
 WO.op _ _ rfl (by unfold Ope at *;simp only[aop,hx,hy,binV_neq,Option.map_some]) k
theorem R.not {d:Nat} {x:Operand} {b:Bool} (hx:Ope t x (.bool b)) (k:WO P tab l ⟨t.set d (.bool (!b)),ds,rd⟩ h Q):WO P tab (⟨some d,none,.un .not x⟩::l) ⟨t,ds,rd⟩ h Q:=
 WO.op _ _ rfl (by unfold Ope at *;simp only[aop,hx,unV,Option.map_some]) k
theorem R.eqB {d:Nat} {x y:Operand} {a b:Bool} (hx:Ope t x (.bool a)) (hy:Ope t y (.bool b)) (k:WO P tab l ⟨t.set d (.bool (a == b)),ds,rd⟩ h Q):WO P tab (⟨some d,none,.binB false x y⟩::l) ⟨t,ds,rd⟩ h Q:=
 WO.op _ _ rfl (by unfold Ope at *;simp only[aop,hx,hy];rfl) k
theorem R.neB {d:Nat} {x y:Operand} {a b:Bool} (hx:Ope t x (.bool a)) (hy:Ope t y (.bool b)) (k:WO P tab l ⟨t.set d (.bool (a != b)),ds,rd⟩ h Q):WO P tab (⟨some d,none,.binB true x y⟩::l) ⟨t,ds,rd⟩ h Q:=
 WO.op _ _ rfl (by unfold Ope at *;simp only[aop,hx,hy];rfl) k
theorem R.conv64 {d:Nat} {x:Operand} {n:Int} {k2:IntKind} (hx:Ope t x (.int k2 n)) (h1: -9223372036854775808≤n) (h2:n≤9223372036854775807) (k:WO P tab l ⟨t.set d (I n),ds,rd⟩ h Q):WO P tab (⟨some d,none,.conv .i64 x⟩::l) ⟨t,ds,rd⟩ h Q:=
 WO.op _ _ rfl (by unfold Ope at *;simp only[aop,hx,I];rw[wrap64 h1 h2]) k
theorem R.conv {d:Nat} {x:Operand} {n:Int} {kk k2:IntKind} (hx:Ope t x (.int k2 n)) (k:WO P tab l ⟨t.set d (.int kk (kk.wrap n)),ds,rd⟩ h Q):WO P tab (⟨some d,none,.conv kk x⟩::l) ⟨t,ds,rd⟩ h Q:=
 WO.op _ _ rfl (by unfold Ope at *;simp only[aop,hx]) k
theorem R.pickT {d:Nat} {c x y:Operand} {v:Value} {b:Bool} (hc:Ope t c (.bool b)) (hb:b=true) (hx:Ope t x v) (k:WO P tab l ⟨t.set d v,ds,rd⟩ h Q):WO P tab (⟨some d,none,.pick c x y⟩::l) ⟨t,ds,rd⟩ h Q:=
 WO.op _ _ rfl (by unfold Ope at *;subst hb;simp only[aop,hc,hx,if_true]) k
theorem R.pickF {d:Nat} {c x y:Operand} {v:Value} {b:Bool} (hc:Ope t c (.bool b)) (hb:b=false) (hy:Ope t y v) (k:WO P tab l ⟨t.set d v,ds,rd⟩ h Q):WO P tab (⟨some d,none,.pick c x y⟩::l) ⟨t,ds,rd⟩ h Q:=
 WO.op _ _ rfl (by unfold Ope at *;subst hb;simp only[aop,hc,hy,Bool.false_eq_true,if_false]) k
theorem R.tup2_0 {d:Nat} {x:Operand} {v0 v1:Value} (hx:Ope t x (.tuple #[v0,v1])) (k:WO P tab l ⟨t.set d v0,ds,rd⟩ h Q):WO P tab (⟨some d,none,.extract x 0⟩::l) ⟨t,ds,rd⟩ h Q:=
 WO.op _ _ rfl (by unfold Ope at *;simp only[aop,hx];rfl) k
theorem R.tup2_1 {d:Nat} {x:Operand} {v0 v1:Value} (hx:Ope t x (.tuple #[v0,v1])) (k:WO P tab l ⟨t.set d v1,ds,rd⟩ h Q):WO P tab (⟨some d,none,.extract x 1⟩::l) ⟨t,ds,rd⟩ h Q:=
 WO.op _ _ rfl (by unfold Ope at *;simp only[aop,hx];rfl) k
theorem R.tup3_0 {d:Nat} {x:Operand} {v0 v1 v2:Value} (hx:Ope t x (.tuple #[v0,v1,v2])) (k:WO P tab l ⟨t.set d v0,ds,rd⟩ h Q):WO P tab (⟨some d,none,.extract x 0⟩::l) ⟨t,ds,rd⟩ h Q:=
 WO.op _ _ rfl (by unfold Ope at *;simp only[aop,hx];rfl) k
theorem R.tup3_1 {d:Nat} {x:Operand} {v0 v1 v2:Value} (hx:Ope t x (.tuple #[v0,v1,v2])) (k:WO P tab l ⟨t.set d v1,ds,rd⟩ h Q):WO P tab (⟨some d,none,.extract x 1⟩::l) ⟨t,ds,rd⟩ h Q:=
 WO.op _ _ rfl (by unfold Ope at *;simp only[aop,hx];rfl) k
theorem R.tup3_2 {d:Nat} {x:Operand} {v0 v1 v2:Value} (hx:Ope t x (.tuple #[v0,v1,v2])) (k:WO P tab l ⟨t.set d v2,ds,rd⟩ h Q):WO P tab (⟨some d,none,.extract x 2⟩::l) ⟨t,ds,rd⟩ h Q:=
 WO.op _ _ rfl (by unfold Ope at *;simp only[aop,hx];rfl) k
theorem R.tup4_0 {d:Nat} {x:Operand} {v0 v1 v2 v3:Value} (hx:Ope t x (.tuple #[v0,v1,v2,v3])) (k:WO P tab l ⟨t.set d v0,ds,rd⟩ h Q):WO P tab (⟨some d,none,.extract x 0⟩::l) ⟨t,ds,rd⟩ h Q:=
 WO.op _ _ rfl (by unfold Ope at *;simp only[aop,hx];rfl) k
theorem R.tup4_1 {d:Nat} {x:Operand} {v0 v1 v2 v3:Value} (hx:Ope t x (.tuple #[v0,v1,v2,v3])) (k:WO P tab l ⟨t.set d v1,ds,rd⟩ h Q):WO P tab (⟨some d,none,.extract x 1⟩::l) ⟨t,ds,rd⟩ h Q:=
 WO.op _ _ rfl (by unfold Ope at *;simp only[aop,hx];rfl) k
theorem R.tup4_2 {d:Nat} {x:Operand} {v0 v1 v2 v3:Value} (hx:Ope t x (.tuple #[v0,v1,v2,v3])) (k:WO P tab l ⟨t.set d v2,ds,rd⟩ h Q):WO P tab (⟨some d,none,.extract x 2⟩::l) ⟨t,ds,rd⟩ h Q:=
 WO.op _ _ rfl (by unfold Ope at *;simp only[aop,hx];rfl) k
theorem R.tup4_3 {d:Nat} {x:Operand} {v0 v1 v2 v3:Value} (hx:Ope t x (.tuple #[v0,v1,v2,v3])) (k:WO P tab l ⟨t.set d v3,ds,rd⟩ h Q):WO P tab (⟨some d,none,.extract x 3⟩::l) ⟨t,ds,rd⟩ h Q:=
 WO.op _ _ rfl (by unfold Ope at *;simp only[aop,hx];rfl) k
theorem R.lenC {d:Nat} {n:Nat} (k:WO P tab l ⟨t.set d (I n),ds,rd⟩ h Q):WO P tab (⟨some d,none,.lenC n⟩::l) ⟨t,ds,rd⟩ h Q:=
 WO.op _ _ rfl (by simp only[aop]) k
theorem R.nil {d:Nat} {x:Operand} {kind:Nat} {neg b:Bool} {v:Value} (hx:Ope t x v) (hn:nilV kind v=some b) (k:WO P tab l ⟨t.set d (.bool (if neg then !b else b)),ds,rd⟩ h Q):WO P tab (⟨some d,none,.isNil kind neg x⟩::l) ⟨t,ds,rd⟩ h Q:=
 WO.op _ _ rfl (by unfold Ope at *;simp only[aop,hx,hn,Option.map_some]) k
theorem R.lenI {d:Nat} {x:Operand} {v:Value} {xs:List Int} (hx:Ope t x v) (s:SlI h v xs) (k:WO P tab l ⟨t.set d (I xs.length),ds,rd⟩ h Q):WO P tab (⟨some d,none,.len x⟩::l) ⟨t,ds,rd⟩ h Q:=
 WO.op _ _ rfl (by exact SlI.len' hx s) k
theorem R.lenR {d:Nat} {x:Operand} {v:Value} {α:Type} {c:Nat} {R:AHeap→List Value→α→Prop} {xs:List α} (hx:Ope t x v) (s:SlR c R h v xs) (k:WO P tab l ⟨t.set d (I xs.length),ds,rd⟩ h Q):WO P tab (⟨some d,none,.len x⟩::l) ⟨t,ds,rd⟩ h Q:=
 WO.op _ _ rfl (by exact SlR.len' hx s) k
theorem R.idxI {d:Nat} {x y:Operand} {v:Value} {n:Int} {i:Nat} {xs:List Int} (hx:Ope t x v) (hy:Ope t y (I n)) (hi:AsN n i) (s:SlI h v xs) (hl:i<xs.length) (k:WO P tab l ⟨t.set d (elemP v i),ds,rd⟩ h Q):WO P tab (⟨some d,none,.idx 1 x y⟩::l) ⟨t,ds,rd⟩ h Q:=
 WO.op _ _ rfl (by unfold Ope at hy;exact SlI.idx' hx (by rw[hy];exact hi) s hl) k
theorem R.idxR {d:Nat} {x y:Operand} {v:Value} {n:Int} {i:Nat} {α:Type} {c:Nat} {R:AHeap→List Value→α→Prop} {xs:List α} (hx:Ope t x v) (hy:Ope t y (I n)) (hi:AsN n i) (s:SlR c R h v xs) (hl:i<xs.length) (k:WO P tab l ⟨t.set d (elemP v (i * c)),ds,rd⟩ h Q):WO P tab (⟨some d,none,.idx c x y⟩::l) ⟨t,ds,rd⟩ h Q:=
 WO.op _ _ rfl (by unfold Ope at hy;exact SlR.idx' hx (by rw[hy];exact hi) s hl) k
theorem R.loadI {d:Nat} {x:Operand} {v:Value} {i:Nat} {xs:List Int} (hx:Ope t x (elemP v i)) (s:SlI h v xs) (hl:i<xs.length) (k:WO P tab l ⟨t.set d (I (xs.getD i 0)),ds,rd⟩ h Q):WO P tab (⟨some d,none,.load false 1 x⟩::l) ⟨t,ds,rd⟩ h Q:=
 WO.op _ _ rfl (by exact SlI.loadD hx s hl) k
theorem R.pceA {d:Nat} {x:Operand} {v r:Value} {j n off:Nat} {cs:List Value} (hx:Ope t x (elemP v (j+off))) (p:Piece h v j cs) (hn:0<n) (hr:(cut cs off n).bind (ofCells true)=some r) (k:WO P tab l ⟨t.set d r,ds,rd⟩ h Q):WO P tab (⟨some d,none,.load true n x⟩::l) ⟨t,ds,rd⟩ h Q:=
 WO.op _ _ rfl (by exact Piece.load hx p hn hr) k
theorem R.pce {d:Nat} {x:Operand} {v r:Value} {j n off:Nat} {cs:List Value} (hx:Ope t x (elemP v (j+off))) (p:Piece h v j cs) (hn:0<n) (hr:(cut cs off n).bind (ofCells false)=some r) (k:WO P tab l ⟨t.set d r,ds,rd⟩ h Q):WO P tab (⟨some d,none,.load false n x⟩::l) ⟨t,ds,rd⟩ h Q:=
 WO.op _ _ rfl (by exact Piece.load hx p hn hr) k
theorem R.pce0A {d:Nat} {x:Operand} {v r:Value} {j n:Nat} {cs:List Value} (hx:Ope t x (elemP v j)) (p:Piece h v j cs) (hn:0<n) (hr:(cut cs 0 n).bind (ofCells true)=some r) (k:WO P tab l ⟨t.set d r,ds,rd⟩ h Q):WO P tab (⟨some d,none,.load true n x⟩::l) ⟨t,ds,rd⟩ h Q:=
 WO.op _ _ rfl (by exact Piece.load0 hx p hn hr) k
theorem R.pce0 {d:Nat} {x:Operand} {v r:Value} {j n:Nat} {cs:List Value} (hx:Ope t x (elemP v j)) (p:Piece h v j cs) (hn:0<n) (hr:(cut cs 0 n).bind (ofCells false)=some r) (k:WO P tab l ⟨t.set d r,ds,rd⟩ h Q):WO P tab (⟨some d,none,.load false n x⟩::l) ⟨t,ds,rd⟩ h Q:=
 WO.op _ _ rfl (by exact Piece.load0 hx p hn hr) k
theorem R.fldP {d:Nat} {x:Operand} {v:Value} {j off:Nat} (hx:Ope t x (elemP v j)) (hv:IsSl v) (k:WO P tab l ⟨t.set d (elemP v (j+off)),ds,rd⟩ h Q):WO P tab (⟨some d,none,.fld off x⟩::l) ⟨t,ds,rd⟩ h Q:=
 WO.op _ _ rfl (by exact Go.Am.fldP hx hv) k
theorem R.fldC0 {d:Nat} {x:Operand} {p:Value} {off:Nat} {h0:AHeap} {cs:List Value} (hx:Ope t x p) (o:OwnC h0 h p cs) (k:WO P tab l ⟨t.set d (ptrAt p off),ds,rd⟩ h Q):WO P tab (⟨some d,none,.fld off x⟩::l) ⟨t,ds,rd⟩ h Q:=
 WO.op _ _ rfl (by exact OwnC.fld0 hx o) k
theorem R.fldC {d:Nat} {x:Operand} {p:Value} {j off:Nat} {h0:AHeap} {cs:List Value} (hx:Ope t x (ptrAt p j)) (o:OwnC h0 h p cs) (k:WO P tab l ⟨t.set d (ptrAt p (j+off)),ds,rd⟩ h Q):WO P tab (⟨some d,none,.fld off x⟩::l) ⟨t,ds,rd⟩ h Q:=
 WO.op _ _ rfl (by exact OwnC.fld hx o) k
theorem R.idxZ {d:Nat} {x y:Operand} {p:Value} {n:Int} {i len:Nat} {kk:IntKind} {h0:AHeap} {cs:List Value} (hx:Ope t x (ptrAt p 0)) (o:OwnC h0 h p cs) (hy:Ope t y (.int kk n)) (hi:AsN n i) (hl:i<len) (k:WO P tab l ⟨t.set d (ptrAt p i),ds,rd⟩ h Q):WO P tab (⟨some d,none,.idxArr len 1 x y⟩::l) ⟨t,ds,rd⟩ h Q:=
 WO.op _ _ rfl (by unfold Ope at hx hy;have hi2:asN (ev t y)=some i:=(by rw[hy];exact(by cases n<;>rfl:asN (.int kk n)=asN (I n)).trans hi);have:=OwnC.idxArr (P:=P) (ih:=Ex.bot) (c:=1) hx hi2 o hl;rwa [Nat.zero_add,Nat.mul_one]at this) k
theorem R.idxA0 {d:Nat} {x y:Operand} {p:Value} {n:Int} {i len:Nat} {kk:IntKind} {h0:AHeap} {cs:List Value} (hx:Ope t x p) (o:OwnC h0 h p cs) (hy:Ope t y (.int kk n)) (hi:AsN n i) (hl:i<len) (k:WO P tab l ⟨t.set d (ptrAt p i),ds,rd⟩ h Q):WO P tab (⟨some d,none,.idxArr len 1 x y⟩::l) ⟨t,ds,rd⟩ h Q:=
 WO.op _ _ rfl (by unfold Ope at hx hy;have hi2:asN (ev t y)=some i:=(by rw[hy];exact(by cases n<;>rfl:asN (.int kk n)=asN (I n)).trans hi);have:=OwnC.idxArr0 (P:=P) (ih:=Ex.bot) (c:=1) hx hi2 o hl;rwa [Nat.mul_one]at this) k
theorem R.idxA1 {d:Nat} {x y:Operand} {p:Value} {n:Int} {i j len:Nat} {kk:IntKind} {h0:AHeap} {cs:List Value} (hx:Ope t x (ptrAt p j)) (o:OwnC h0 h p cs) (hy:Ope t y (.int kk n)) (hi:AsN n i) (hl:i<len) (k:WO P tab l ⟨t.set d (ptrAt p (j+i)),ds,rd⟩ h Q):WO P tab (⟨some d,none,.idxArr len 1 x y⟩::l) ⟨t,ds,rd⟩ h Q:=
 WO.op _ _ rfl (by unfold Ope at hx hy;have hi2:asN (ev t y)=some i:=(by rw[hy];exact(by cases n<;>rfl:asN (.int kk n)=asN (I n)).trans hi);have:=OwnC.idxArr (P:=P) (ih:=Ex.bot) (c:=1) hx hi2 o hl;rwa [Nat.mul_one]at this) k
theorem R.loadA {d:Nat} {x:Operand} {p:Value} {q:Nat} {xs:List Int} {h0:AHeap} (hx:Ope t x (ptrAt p q)) (o:OwnC h0 h p (xs.map I)) (hl:q<xs.length) (k:WO P tab l ⟨t.set d (I (xs.getD q 0)),ds,rd⟩ h Q):WO P tab (⟨some d,none,.load false 1 x⟩::l) ⟨t,ds,rd⟩ h Q:=
 WO.op _ _ rfl (by refine OwnC.load hx o ?_;have h1:(xs.map I).drop q=I xs[q]::(xs.map I).drop (q+1):=(by rw[List.drop_eq_getElem_cons (by simpa using hl),List.getElem_map]);have hc:cut (xs.map I) q 1=some [I (xs.getD q 0)]:=(by rw[cut_ok (by simp;omega),h1];simp[List.getD,List.getElem?_eq_getElem hl]);rw[hc];rfl) k
theorem R.loadC0A {d:Nat} {x:Operand} {p r:Value} {n:Nat} {h0:AHeap} {cs:List Value} (hx:Ope t x p) (o:OwnC h0 h p cs) (hr:(cut cs 0 n).bind (ofCells true)=some r) (k:WO P tab l ⟨t.set d r,ds,rd⟩ h Q):WO P tab (⟨some d,none,.load true n x⟩::l) ⟨t,ds,rd⟩ h Q:=
 WO.op _ _ rfl (by exact OwnC.load0 hx o hr) k
theorem R.loadC0 {d:Nat} {x:Operand} {p r:Value} {n:Nat} {h0:AHeap} {cs:List Value} (hx:Ope t x p) (o:OwnC h0 h p cs) (hr:(cut cs 0 n).bind (ofCells false)=some r) (k:WO P tab l ⟨t.set d r,ds,rd⟩ h Q):WO P tab (⟨some d,none,.load false n x⟩::l) ⟨t,ds,rd⟩ h Q:=
 WO.op _ _ rfl (by exact OwnC.load0 hx o hr) k
theorem R.loadCA {d:Nat} {x:Operand} {p r:Value} {n j:Nat} {h0:AHeap} {cs:List Value} (hx:Ope t x (ptrAt p j)) (o:OwnC h0 h p cs) (hr:(cut cs j n).bind (ofCells true)=some r) (k:WO P tab l ⟨t.set d r,ds,rd⟩ h Q):WO P tab (⟨some d,none,.load true n x⟩::l) ⟨t,ds,rd⟩ h Q:=
 WO.op _ _ rfl (by exact OwnC.load hx o hr) k
theorem R.loadC {d:Nat} {x:Operand} {p r:Value} {n j:Nat} {h0:AHeap} {cs:List Value} (hx:Ope t x (ptrAt p j)) (o:OwnC h0 h p cs) (hr:(cut cs j n).bind (ofCells false)=some r) (k:WO P tab l ⟨t.set d r,ds,rd⟩ h Q):WO P tab (⟨some d,none,.load false n x⟩::l) ⟨t,ds,rd⟩ h Q:=
 WO.op _ _ rfl (by exact OwnC.load hx o hr) k
theorem R.partA {d:Nat} {x:Operand} {off n:Nat} {r:Value} {cs:Array Value} (hx:Ope t x (.agg cs)) (hr:(cut cs.toList off n).bind (ofCells true)=some r) (k:WO P tab l ⟨t.set d r,ds,rd⟩ h Q):WO P tab (⟨some d,none,.part true off n x⟩::l) ⟨t,ds,rd⟩ h Q:=
 WO.op _ _ rfl (by unfold Ope at *;simp only[aop,hx,hr,Option.map_some]) k
theorem R.part {d:Nat} {x:Operand} {off n:Nat} {r:Value} {cs:Array Value} (hx:Ope t x (.agg cs)) (hr:(cut cs.toList off n).bind (ofCells false)=some r) (k:WO P tab l ⟨t.set d r,ds,rd⟩ h Q):WO P tab (⟨some d,none,.part false off n x⟩::l) ⟨t,ds,rd⟩ h Q:=
 WO.op _ _ rfl (by unfold Ope at *;simp only[aop,hx,hr,Option.map_some]) k
theorem R.idxG {d:Nat} {len c g:Nat} {y:Operand} {n:Int} {i:Nat} {kk:IntKind} (hy:Ope t y (.int kk n)) (hi:AsN n i) (hl:i<len) (k:WO P tab l ⟨t.set d (.pointer (some ⟨g,0+i * c,none⟩)),ds,rd⟩ h Q):WO P tab (⟨some d,none,.idxArr len c (.global g) y⟩::l) ⟨t,ds,rd⟩ h Q:=
 WO.op _ _ rfl (by unfold Ope at hy;have hb:Nat.ble (i+1) len=true:=Nat.ble_eq_true_of_le hl;have hi2:asN (ev t y)=some i:=(by rw[hy];exact(by cases n<;>rfl:asN (.int kk n)=asN (I n)).trans hi);simp only[aop,hi2];simp only[ev,hb,Option.isNone_none,Bool.and_self,cond_true]) k
theorem R.loadG {d:Nat} {x:Operand} {g off n:Nat} {r:Value} {cells:List Value} (hx:Ope t x (.pointer (some ⟨g,off,none⟩))) (hg:rowOf h g=some cells) (hr:(cut cells off n).bind (ofCells true)=some r) (k:WO P tab l ⟨t.set d r,ds,rd⟩ h Q):WO P tab (⟨some d,none,.load true n x⟩::l) ⟨t,ds,rd⟩ h Q:=
 WO.op _ _ rfl (by unfold Ope at *;simp only[aop,hx,hg,Option.isNone_none,cond_true,Option.bind_some,hr,Option.map_some]) k
theorem R.agg {d:Nat} {zero:List Value} {parts:List (Nat×Nat×Operand)} {vs:List (Nat×Nat×Value)} {cells:List Value} (hp:Parts t parts vs) (hf:fillA zero vs=some cells) (k:WO P tab l ⟨t.set d (.agg cells.toArray),ds,rd⟩ h Q):WO P tab (⟨some d,none,.build zero parts⟩::l) ⟨t,ds,rd⟩ h Q:=
 WO.op _ _ rfl (by unfold Parts at hp;simp only[aop,hp,hf,Option.map_some]) k
theorem R.nck {d:Nat} {x:Operand} {a:Addr} (hx:Ope t x (.pointer (some a))) (k:WO P tab l ⟨t.set d (.pointer (some a)),ds,rd⟩ h Q):WO P tab (⟨some d,none,.nilCheck x⟩::l) ⟨t,ds,rd⟩ h Q:=
 WO.op _ _ rfl (by unfold Ope at *;simp only[aop,hx,nilCheckV,Option.map_some]) k
theorem R.lenM {d:Nat} {x:Operand} {m:Value} {es:List (Int×Int)} {h0:AHeap} (hx:Ope t x m) (o:OwnM h0 h m es) (k:WO P tab l ⟨t.set d (I es.length),ds,rd⟩ h Q):WO P tab (⟨some d,none,.lenMap x⟩::l) ⟨t,ds,rd⟩ h Q:=
 WO.op _ _ rfl (by unfold Ope at *;obtain⟨g,c,es',_,_,rfl,hg,he⟩:=o;have hl:es'.length=es.length:=(by have:=congrArg List.length he;simpa using this);simp only[aop,hx,hg,hl]) k
theorem R.lkN {d:Nat} {mm ky:Operand} {z m:Value} {a:Int} {es:List (Int×Int)} {h0:AHeap} (hx:Ope t mm m) (hk:Ope t ky (I a)) (o:OwnM h0 h m es) (hl:es.lookup a=none) (k:WO P tab l ⟨t.set d (.tuple #[z,.bool false]),ds,rd⟩ h Q):WO P tab (⟨some d,none,.lookup true z mm ky⟩::l) ⟨t,ds,rd⟩ h Q:=
 WO.op _ _ rfl (by unfold Ope at *;obtain⟨g,c,es',_,_,rfl,hg,he⟩:=o;simp only[aop,hx,hk,hg,find_none 0 he hl,if_true]) k
theorem R.lkS {d:Nat} {mm ky:Operand} {z m:Value} {a v:Int} {es:List (Int×Int)} {h0:AHeap} (hx:Ope t mm m) (hk:Ope t ky (I a)) (o:OwnM h0 h m es) (hl:es.lookup a=some v) (k:WO P tab l ⟨t.set d (.tuple #[I v,.bool true]),ds,rd⟩ h Q):WO P tab (⟨some d,none,.lookup true z mm ky⟩::l) ⟨t,ds,rd⟩ h Q:=
 WO.op _ _ rfl (by unfold Ope at *;obtain⟨g,c,es',_,_,rfl,hg,he⟩:=o;obtain⟨j,hj⟩:=find_some 0 he hl;simp only[aop,hx,hk,hg,hj,if_true]) k
theorem R.fun {d:Nat} {f:FuncId} {xs ys:List Operand} {vs us:List Value} (hx:Opes t xs vs) (hy:Opes t ys us) (k:WO P tab l ⟨t.set d (.func (.func f) vs.toArray us.toArray),ds,rd⟩ h Q):WO P tab (⟨some d,none,.mkFunc (.func f) xs ys⟩::l) ⟨t,ds,rd⟩ h Q:=
 WO.op _ _ rfl (by unfold Opes at *;simp only[aop,hx,hy]) k
theorem R.gT {d:Option Nat} {j:Nat} {want b:Bool} {op:AOp} (s:Slot t j (.bool b)) (hb:b=want) (k:WO P tab (⟨d,none,op⟩::l) ⟨t,ds,rd⟩ h Q):WO P tab (⟨d,some (j,want),op⟩::l) ⟨t,ds,rd⟩ h Q:=
 WO.guardT (hb▸s) k
theorem R.gF1 {d j:Nat} {b:Bool} {op:AOp} (s:Slot t j (.bool b)) (hb:b=false) (k:WO P tab l ⟨t.set d undef,ds,rd⟩ h Q):WO P tab (⟨some d,some (j,true),op⟩::l) ⟨t,ds,rd⟩ h Q:=by
 subst hb;exact WO.guardF s k
theorem R.gF2 {d j:Nat} {b:Bool} {op:AOp} (s:Slot t j (.bool b)) (hb:b=true) (k:WO P tab l ⟨t.set d undef,ds,rd⟩ h Q):WO P tab (⟨some d,some (j,false),op⟩::l) ⟨t,ds,rd⟩ h Q:=by
 subst hb;exact WO.guardF s k
theorem R.gU {d j:Nat} {want:Bool} {op:AOp} (s:Slot t j undef) (k:WO P tab l ⟨t.set d undef,ds,rd⟩ h Q):WO P tab (⟨some d,some (j,want),op⟩::l) ⟨t,ds,rd⟩ h Q:=
 WO.guardU s k
theorem WO.sp {d:Option Nat} {j:Nat} {want b:Bool} {op:AOp} (h1:b=true→WO P tab (⟨d,some (j,want),op⟩::l) ⟨t,ds,rd⟩ h Q) (h2:b=false→WO P tab (⟨d,some (j,want),op⟩::l) ⟨t,ds,rd⟩ h Q) (s:Slot t j (.bool b):=by exact slotA):
  WO P tab (⟨d,some (j,want),op⟩::l) ⟨t,ds,rd⟩ h Q:=by
 cases b with
 |true=>exact h1 rfl
 |false=>exact h2 rfl
theorem WO.con {d:Nat} {f:FuncId} {args:List Operand} {as:List Value} {R:Value→AHeap→Prop} (hc:WC P tab f as h R) (k:∀ v h',R v h'→WO P tab l ⟨t.set d v,ds,rd⟩ h' Q) (ha:Opes t args as:=by exact opesA):
  WO P tab (⟨some d,none,.call (.func f) args⟩::l) ⟨t,ds,rd⟩ h Q:=WO.call ha (hc.mono k)
theorem WO.conV {d:Nat} {f:Operand} {fv:Value} {args:List Operand} {as:List Value} {R:Value→AHeap→Prop} (hc:WV P tab fv as h R) (k:∀ v h',R v h'→WO P tab l ⟨t.set d v,ds,rd⟩ h' Q) (hf:Ope t f fv:=by exact opeA) (ha:Opes t args as:=by exact opesA):
  WO P tab (⟨some d,none,.call f args⟩::l) ⟨t,ds,rd⟩ h Q:=WO.callv hf ha (hc.mono k)
theorem WO.al {d:Nat} {zero:List Value} (k:∀ p h',Ext h h'→OwnC h h' p zero→WO P tab l ⟨t.set d p,ds,rd⟩ h' Q):WO P tab (⟨some d,none,.alloc zero⟩::l) ⟨t,ds,rd⟩ h Q:=WO.allocC k
theorem WO.stC0 {x y:Operand} {p v:Value} {cells cs:List Value} {n:Nat} {h0:AHeap} (o:OwnC h0 h p cells) (e0:Ext h0 h) (k:∀ h',Ext h0 h'→OwnC h0 h' p cs→UpdC p h h'→WO P tab l ⟨t,ds,rd⟩ h' Q)
  (hx:Ope t x p:=by exact opeA) (hy:Ope t y v:=by exact opeA) (hv:v.cells=cs.toArray:=by rfl) (hn:cs.length=n:=by rfl) (hl:cells.length=n:=by rfl) (h1:oneCells cs=true:=by rfl):WO P tab (⟨none,none,.store n x y⟩::l) ⟨t,ds,rd⟩ h Q:=
 WO.storeC0 hx hy hv h1 hn o e0 hl k
theorem WO.stC {x y:Operand} {p v:Value} {cells cs:List Value} {n j:Nat} {h0:AHeap} (o:OwnC h0 h p cells) (e0:Ext h0 h) (k:∀ h',Ext h0 h'→OwnC h0 h' p (putAt cells j cs)→UpdC p h h'→WO P tab l ⟨t,ds,rd⟩ h' Q)
  (hx:Ope t x (ptrAt p j):=by exact opeA) (hy:Ope t y v:=by exact opeA) (hv:v.cells=cs.toArray:=by rfl) (hn:cs.length=n:=by rfl) (hl:j+n≤cells.length:=by decide) (h1:oneCells cs=true:=by rfl):WO P tab (⟨none,none,.store n x y⟩::l) ⟨t,ds,rd⟩ h Q:=
 WO.storeC hx hy hv h1 hn o e0 hl k
theorem WO.bl {d n:Nat} {zero:List Value} {parts:List (Nat×Nat×Operand)} {vs:List (Nat×Nat×Value)} (xs:List Int) (k:∀ v h',Ext h h'→OwnI h h' v xs→WO P tab l ⟨t.set d v,ds,rd⟩ h' Q)
  (hp:Parts t parts vs:=by (repeat (apply Parts.cons;(exact opeA)));exact Parts.nil) (hn:xs.length=n:=by rfl) (hf:fillA (repl zero n) vs=some (xs.map I):=by rfl):WO P tab (⟨some d,none,.buildSlice n 1 zero parts⟩::l) ⟨t,ds,rd⟩ h Q:=
 WO.buildI xs hn (by unfold Parts at hp;rw[hp];exact hf) k
theorem WO.apN {d:Nat} {x y:Operand} {v w:Value} {xs ys:List Int} {h0:AHeap} (o:OwnN h0 h v xs) (s:SlI h w ys) (e0:Ext h0 h) (hr:xs.length+ys.length≤4294967296) (k:∀ v' h',Ext h0 h'→OwnN h0 h' v' (xs++ys)→WO P tab l ⟨t.set d v',ds,rd⟩ h' Q)
  (hx:Ope t x v:=by exact opeA) (hy:Ope t y w:=by exact opeA):WO P tab (⟨some d,none,.append 1 x y⟩::l) ⟨t,ds,rd⟩ h Q:=by
 by_cases hne:ys=[]
 ·subst hne
  have hsrc:srcCells 1 h w=some []:=by simpa using srcCells_of s
  have hv:∃ a n k,v= .slice a n k∧(a=none→n=0∧k=0):=by
   rcases o with ⟨rfl,_⟩|⟨g,_,_,rfl,_⟩
   ·exact⟨_,_,_,rfl,fun _=>⟨rfl,rfl⟩⟩
   ·exact⟨_,_,_,rfl,fun h=>by cases h⟩
  refine WO.op v h rfl ?_ (k v h e0 (by simpa using o))
  unfold Ope at hx hy
  obtain⟨a,n,kk,rfl,ha⟩:=hv
  cases a with
  |none=>obtain⟨rfl,rfl⟩:=ha rfl;simp only[aop,hx,hy,appendA,hsrc]
  |some a=>simp only[aop,hx,hy,appendA,hsrc]
 ·exact WO.appendI hx hy o s e0 hne hr fun v' h' a b _=>k v' h' a (.inr b)
theorem WO.bp {d:Nat} {op:BinOp} {ty:TypeId} {x y:Operand} {a b v:Value} (hp:pureRun P (do eqGuard op ty x y a b;binOp op ty a b)=some v) (k:WO P tab l ⟨t.set d v,ds,rd⟩ h Q)
  (hx:Ope t x a:=by exact opeA) (hy:Ope t y b:=by exact opeA) (hc:(closedD a&&closedD b)=true:=by rfl) (hv:closedV v=true:=by rfl):WO P tab (⟨some d,none,.binP op ty x y⟩::l) ⟨t,ds,rd⟩ h Q:=by
 unfold Ope at hx hy
 refine WO.op v h rfl ?_ k
 simp only[aop,hx,hy,hc,cond_true,hp,hv]
theorem WO.slLo {d c i:Nat} {x y:Operand} {v r:Value} (hr:sliceA c v (some i) none none=some r) (k:WO P tab l ⟨t.set d r,ds,rd⟩ h Q) (hx:Ope t x v:=by exact opeA) (hy:Ope t y (I (i:Int)):=by exact opeA):
  WO P tab (⟨some d,none,.slice c x (some y) none none⟩::l) ⟨t,ds,rd⟩ h Q:=by
 unfold Ope at hx hy
 refine WO.op r h rfl ?_ k
 have:asN (I (i:Int))=some i:=rfl
 simp only[aop,optA,hx,hy,this,Option.map_some,hr]
theorem WO.bx {d:Nat} {x:Operand} {v:Value} (k:∀ p h',Ext h h'→OwnC h h' p v.cells.toList→WO P tab l ⟨t.set d p,ds,rd⟩ h' Q) (hx:Ope t x v:=by exact opeA):
  WO P tab (⟨some d,none,.box x⟩::l) ⟨t,ds,rd⟩ h Q:=WO.boxC v.cells.toList (by unfold Ope at hx;rw[hx]) k
theorem WX.cT {c:Operand} {x y:ACode} {K:AExit→AFr→AHeap→Prop} {b:Bool} (s:Ope t c (.bool b)) (hb:b=true) (h1:WX P tab x ⟨t,ds,rd⟩ h K):WX P tab (.cond c x y) ⟨t,ds,rd⟩ h K:=
 WX.condT (hb▸s) h1
theorem WX.cF {c:Operand} {x y:ACode} {K:AExit→AFr→AHeap→Prop} {b:Bool} (s:Ope t c (.bool b)) (hb:b=false) (h1:WX P tab y ⟨t,ds,rd⟩ h K):WX P tab (.cond c x y) ⟨t,ds,rd⟩ h K:=
 WX.condF (hb▸s) h1
theorem WX.br {c:Operand} {x y:ACode} {K:AExit→AFr→AHeap→Prop} {b:Bool} (h1:b=true→WX P tab x ⟨t,ds,rd⟩ h K) (h2:b=false→WX P tab y ⟨t,ds,rd⟩ h K) (s:Ope t c (.bool b):=by exact opeA):WX P tab (.cond c x y) ⟨t,ds,rd⟩ h K:=
 WX.cond b s h1 h2
theorem sl_ {k:Nat} {v:Value} (s:Slot t k v:=by (repeat (first|((with_reducible apply Slot.there);rfl)|((with_reducible apply Slot.same);(with_reducible assumption);rfl)));first|with_reducible exact Slot.here|with_reducible assumption|(unfold Slot;with_reducible assumption)|exact Slot.here):tmGet t k=v:=s
theorem sln {k i:Nat} (s:Slot t k (I ((i:Int)+1)):=by (repeat (first|((with_reducible apply Slot.there);rfl)|((with_reducible apply Slot.same);(with_reducible assumption);rfl)));first|with_reducible exact Slot.here|with_reducible assumption|(unfold Slot;with_reducible assumption)|exact Slot.here):tmGet t k=I ((i+1:Nat):Int):=s
def Res (h:AHeap) (t:Trie Value) (rs:List (Nat×Option (Bool×Nat))) (vs:List Value):Prop:=resultsA h t rs=some vs
theorem Res.nil:Res h t [] []:=rfl
theorem Res.cons {j:Nat} {v:Value} {rs:List (Nat×Option (Bool×Nat))} {vs:List Value} (s:Slot t j v) (k:Res h t rs vs):Res h t ((j,none)::rs) (v::vs):=by
 unfold Res at *;unfold Slot at s;simp only[resultsA,resultA,s,k]
theorem Res.consA {j n:Nat} {p v:Value} {h0:AHeap} {cs:List Value} {rs:List (Nat×Option (Bool×Nat))} {vs:List Value} (s:Slot t j p) (o:OwnC h0 h p cs) (hr:(cut cs 0 n).bind (ofCells true)=some v) (k:Res h t rs vs):Res h t ((j,some (true,n))::rs) (v::vs):=by
 obtain⟨g,_,_,rfl,hg⟩:=o
 unfold Res at *;unfold Slot at s;simp only[resultsA,resultA,s,rowOf_get hg,Option.isNone_none,cond_true,Option.bind_some,hr,k]
theorem rt {rs:List (Nat×Option (Bool×Nat))} {Q:Value→AHeap→Prop} {vs:List Value} (hq:Q (one vs) h) (r:Res h t rs vs:=by (repeat (first|(apply Res.cons;(exact slotA))|(apply Res.consA;(exact slotA);(with_reducible assumption);(first|exact(rfl:_=some (Value.agg #[_,_]))|exact(rfl:_=some (Value.agg #[_,_,_]))|exact(rfl:_=some (Value.agg #[_,_,_,_]))|exact(rfl:_=some (Value.agg #[_,_,_,_,_]))|exact(rfl:_=some (Value.agg #[_,_,_,_,_,_]))|exact(rfl:_=some (Value.agg #[_,_,_,_,_,_,_]))|exact(rfl:_=some (Value.agg #[_,_,_,_,_,_,_,_]))|rfl))));exact Res.nil):retK P tab rs Q .ret ⟨t,[],rd⟩ h:=retK_ret r hq
theorem rtN {rs:List (Nat×Option (Bool×Nat))} {Q:Value→AHeap→Prop} {vs:List Value} (hq:Q (one vs) h) (r:Res h t rs vs:=by (repeat (first|(apply Res.cons;(exact slotA))|(apply Res.consA;(exact slotA);(with_reducible assumption);(first|exact(rfl:_=some (Value.agg #[_,_]))|exact(rfl:_=some (Value.agg #[_,_,_]))|exact(rfl:_=some (Value.agg #[_,_,_,_]))|exact(rfl:_=some (Value.agg #[_,_,_,_,_]))|exact(rfl:_=some (Value.agg #[_,_,_,_,_,_]))|exact(rfl:_=some (Value.agg #[_,_,_,_,_,_,_]))|exact(rfl:_=some (Value.agg #[_,_,_,_,_,_,_,_]))|rfl))));exact Res.nil):retK P tab rs Q .normal ⟨t,[],rd⟩ h:=retK_normal r hq
theorem WX.loopA (ws:List Nat) {α:Type} {b:ACode} {K:AExit→AFr→AHeap→Prop} (hw:writesOf b=ws) (μ:α→Nat) (I:α→Trie Value→AHeap→Prop) (x:α) (h0:I x t h)
  (hb:∀ x t' h',SameA ws t t'→I x t' h'→WX P tab b ⟨t',ds,rd⟩ h' (loopK μ I x ds rd K)):WX P tab (.loop b) ⟨t,ds,rd⟩ h K:=
 WX.loopF μ I x h0 fun x t' h' hs hi=>hb x t' h' (fun j hj=>hs j (by rw[hw];exact notIn_contains hj)) hi
structure Wrap (G:Prop):Prop where
 out:G
theorem go {G' G:Prop} (k:G') (r:Wrap G'→G:=by
  intro hgo
  repeat (first|refine WX.seq ?_|refine WX.region ?_|(apply R.mov;(exact opeA))|(apply R.add;(exact opeA);(exact opeA);(omega);(omega))|(apply R.sub;(exact opeA);(exact opeA);(omega);(omega))|(apply R.mul;(exact opeA);(exact opeA);(omega);(omega))|(apply R.lss;(exact opeA);(exact opeA))|(apply R.leq;(exact opeA);(exact opeA))|(apply R.gtr;(exact opeA);(exact opeA))|(apply R.geq;(exact opeA);(exact opeA))|(apply R.eql;(exact opeA);(exact opeA))|(apply R.neq;(exact opeA);(exact opeA))|(apply R.not;(exact opeA))|(apply R.eqB;(exact opeA);(exact opeA))|(apply R.neB;(exact opeA);(exact opeA))|(apply R.conv64;(exact opeA);(omega);(omega))|(apply R.conv;(exact opeA))|(apply R.pickT;(exact opeA);(exact decA);(exact opeA))|(apply R.pickF;(exact opeA);(exact decA);(exact opeA))|(apply R.tup2_0;(exact opeA))|(apply R.tup2_1;(exact opeA))|(apply R.tup3_0;(exact opeA))|(apply R.tup3_1;(exact opeA))|(apply R.tup3_2;(exact opeA))|(apply R.tup4_0;(exact opeA))|(apply R.tup4_1;(exact opeA))|(apply R.tup4_2;(exact opeA))|(apply R.tup4_3;(exact opeA))|(apply R.lenC)|(apply R.nil;(exact opeA);(rfl))|(apply R.lenI;(exact opeA);(first|with_reducible assumption|exact SlI.ext (by with_reducible assumption) (by with_reducible assumption)|exact OwnI.sl (by with_reducible assumption)|exact OwnN.sl (by with_reducible assumption)|fail))|(apply R.lenR;(exact opeA);(with_reducible assumption))|(apply R.idxI;(exact opeA);(exact opeA);(first|exact AsN.nat|exact AsN.lit rfl|exact AsN.int (by omega)|fail);(first|with_reducible assumption|exact SlI.ext (by with_reducible assumption) (by with_reducible assumption)|exact OwnI.sl (by with_reducible assumption)|exact OwnN.sl (by with_reducible assumption)|fail);(first|omega|with_reducible assumption|(simp only[List.length_map,List.length_set,List.length_append,List.length_cons,List.length_nil]at *;omega)))|(apply R.idxR;(exact opeA);(exact opeA);(first|exact AsN.nat|exact AsN.lit rfl|exact AsN.int (by omega)|fail);(with_reducible assumption);(first|omega|with_reducible assumption|(simp only[List.length_map,List.length_set,List.length_append,List.length_cons,List.length_nil]at *;omega)))|(apply R.loadI;(exact opeA);(first|with_reducible assumption|exact SlI.ext (by with_reducible assumption) (by with_reducible assumption)|exact OwnI.sl (by with_reducible assumption)|exact OwnN.sl (by with_reducible assumption)|fail);(first|omega|with_reducible assumption|(simp only[List.length_map,List.length_set,List.length_append,List.length_cons,List.length_nil]at *;omega)))|(apply R.pceA;(exact opeA);(with_reducible assumption);(decide);(first|exact(rfl:_=some (Value.agg #[_,_]))|exact(rfl:_=some (Value.agg #[_,_,_]))|exact(rfl:_=some (Value.agg #[_,_,_,_]))|exact(rfl:_=some (Value.agg #[_,_,_,_,_]))|exact(rfl:_=some (Value.agg #[_,_,_,_,_,_]))|exact(rfl:_=some (Value.agg #[_,_,_,_,_,_,_]))|exact(rfl:_=some (Value.agg #[_,_,_,_,_,_,_,_]))|rfl))|(apply R.pce;(exact opeA);(with_reducible assumption);(decide);(rfl))|(apply R.pce0A;(exact opeA);(with_reducible assumption);(decide);(first|exact(rfl:_=some (Value.agg #[_,_]))|exact(rfl:_=some (Value.agg #[_,_,_]))|exact(rfl:_=some (Value.agg #[_,_,_,_]))|exact(rfl:_=some (Value.agg #[_,_,_,_,_]))|exact(rfl:_=some (Value.agg #[_,_,_,_,_,_]))|exact(rfl:_=some (Value.agg #[_,_,_,_,_,_,_]))|exact(rfl:_=some (Value.agg #[_,_,_,_,_,_,_,_]))|rfl))|(apply R.pce0;(exact opeA);(with_reducible assumption);(decide);(rfl))|(apply R.fldP;(exact opeA);(with_reducible assumption))|(apply R.fldC0;(exact opeA);(with_reducible assumption))|(apply R.fldC;(exact opeA);(with_reducible assumption))|(apply R.idxZ;(exact opeA);(with_reducible assumption);(exact opeA);(first|exact AsN.nat|exact AsN.lit rfl|exact AsN.int (by omega)|fail);(first|omega|with_reducible assumption|(simp only[List.length_map,List.length_set,List.length_append,List.length_cons,List.length_nil]at *;omega)))|(apply R.idxA0;(exact opeA);(with_reducible assumption);(exact opeA);(first|exact AsN.nat|exact AsN.lit rfl|exact AsN.int (by omega)|fail);(first|omega|with_reducible assumption|(simp only[List.length_map,List.length_set,List.length_append,List.length_cons,List.length_nil]at *;omega)))|(apply R.idxA1;(exact opeA);(with_reducible assumption);(exact opeA);(first|exact AsN.nat|exact AsN.lit rfl|exact AsN.int (by omega)|fail);(first|omega|with_reducible assumption|(simp only[List.length_map,List.length_set,List.length_append,List.length_cons,List.length_nil]at *;omega)))|(apply R.loadA;(exact opeA);(with_reducible assumption);(first|omega|with_reducible assumption|(simp only[List.length_map,List.length_set,List.length_append,List.length_cons,List.length_nil]at *;omega)))|(apply R.loadC0A;(exact opeA);(with_reducible assumption);(first|exact(rfl:_=some (Value.agg #[_,_]))|exact(rfl:_=some (Value.agg #[_,_,_]))|exact(rfl:_=some (Value.agg #[_,_,_,_]))|exact(rfl:_=some (Value.agg #[_,_,_,_,_]))|exact(rfl:_=some (Value.agg #[_,_,_,_,_,_]))|exact(rfl:_=some (Value.agg #[_,_,_,_,_,_,_]))|exact(rfl:_=some (Value.agg #[_,_,_,_,_,_,_,_]))|rfl))|(apply R.loadC0;(exact opeA);(with_reducible assumption);(rfl))|(apply R.loadCA;(exact opeA);(with_reducible assumption);(first|exact(rfl:_=some (Value.agg #[_,_]))|exact(rfl:_=some (Value.agg #[_,_,_]))|exact(rfl:_=some (Value.agg #[_,_,_,_]))|exact(rfl:_=some (Value.agg #[_,_,_,_,_]))|exact(rfl:_=some (Value.agg #[_,_,_,_,_,_]))|exact(rfl:_=some (Value.agg #[_,_,_,_,_,_,_]))|exact(rfl:_=some (Value.agg #[_,_,_,_,_,_,_,_]))|rfl))|(apply R.loadC;(exact opeA);(with_reducible assumption);(rfl))|(apply R.partA;(exact opeA);(first|exact(rfl:_=some (Value.agg #[_,_]))|exact(rfl:_=some (Value.agg #[_,_,_]))|exact(rfl:_=some (Value.agg #[_,_,_,_]))|exact(rfl:_=some (Value.agg #[_,_,_,_,_]))|exact(rfl:_=some (Value.agg #[_,_,_,_,_,_]))|exact(rfl:_=some (Value.agg #[_,_,_,_,_,_,_]))|exact(rfl:_=some (Value.agg #[_,_,_,_,_,_,_,_]))|rfl))|(apply R.part;(exact opeA);(rfl))|(apply R.idxG;(exact opeA);(first|exact AsN.nat|exact AsN.lit rfl|exact AsN.int (by omega)|fail);(first|omega|with_reducible assumption|(simp only[List.length_map,List.length_set,List.length_append,List.length_cons,List.length_nil]at *;omega)))|(apply R.loadG;(exact opeA);(with_reducible assumption);(with_reducible assumption))|(apply R.agg;((repeat (apply Parts.cons;(exact opeA)));exact Parts.nil);(first|exact(rfl:_=some [_,_])|exact(rfl:_=some [_,_,_])|exact(rfl:_=some [_,_,_,_])|exact(rfl:_=some [_,_,_,_,_])|exact(rfl:_=some [_,_,_,_,_,_])|exact(rfl:_=some [_,_,_,_,_,_,_])|exact(rfl:_=some [_,_,_,_,_,_,_,_])|rfl))|(apply R.nck;(exact opeA))|(apply R.lenM;(exact opeA);(with_reducible assumption))|(apply R.lkN;(exact opeA);(exact opeA);(with_reducible assumption);(with_reducible assumption))|(apply R.lkS;(exact opeA);(exact opeA);(with_reducible assumption);(with_reducible assumption))|(apply R.fun;(exact opesA);(exact opesA))|(apply R.gT;(exact slotA);(exact decA))|(apply R.gF1;(exact slotA);(exact decA))|(apply R.gF2;(exact slotA);(exact decA))|(apply R.gU;(exact slotA))|refine WO.nil ?_|refine thenK_normal ?_|refine WX.skip ?_|refine WX.block ?_|refine WX.exit ?_|refine blockK_exit ?_|refine blockK_normal ?_|refine thenK_exit ?_|refine blockK_exit_ne rfl ?_|refine loopK_exit ?_|refine WX.ret ?_|refine thenK_ret ?_|refine blockK_ret ?_|refine loopK_ret ?_|(apply WX.cT;(exact opeA);(exact decA))|(apply WX.cF;(exact opeA);(exact decA))|refine WX.label ?_|refine WX.goto ?_|refine thenK_goto ?_|refine blockK_goto ?_|refine loopK_goto ?_|refine WX.regionC_quiet rfl ?_)
  exact hgo.out):G:=r ⟨k⟩
end
end Go.Am
namespace Go.Am
section
variable {P:Program}
theorem pureRun_bind {α β:Type} (x:Sem α) (f:α→Sem β):pureRun P (x>>=f)=(pureRun P x).bind fun a=>pureRun P (f a):=by
 show pureRun P (x.bind f)=_
 induction x with
 |pure a=>rfl
 |program k ih=>simp only[Sem.bind,pureRun];exact ih _
 |mark m k ih=>simp only[Sem.bind,pureRun];exact ih
 |_=>simp[Sem.bind,pureRun]
theorem pureRun_program:pureRun P program=some P:=rfl
theorem pureRun_underlying {t:TypeId} {d:TypeDesc} (h:P.underlying t=some d):pureRun P (underlying t)=some d:=by
 unfold underlying
 rw[pureRun_bind,pureRun_program]
 simp only[Option.bind_some,h];rfl
def eqOne:Value→Value→Bool
 | .int _ a,.int _ b=>a == b
 | .bool a,.bool b=>a == b
 |_,_=>false
def isOne (P:Program) (f:Field):Value→Value→Bool
 | .int k _,.int k' _=>decide (k=k')&&(match P.underlying f.type with|some (.int _)=>true|_=>false)
 | .bool _,.bool _=>(match P.underlying f.type with|some .bool=>true|_=>false)
 |_,_=>false
def flatOk (P:Program):List Field→Nat→List Value→List Value→Bool
 |[],_,[],[]=>true
 |f::fs,i,x::xs,y::ys=>(f.name != "_")&&Nat.beq f.offset i&&(match pureRun P (isAgg f.type)with|some false=>true|_=>false)&&isOne P f x y&&flatOk P fs (i+1) xs ys
 |_,_,_,_=>false
def eqAll:List Value→List Value→Bool
 |x::xs,y::ys=>eqOne x y&&eqAll xs ys
 |_,_=>true
theorem equal_one {f:Field} {x y:Value} {d:Nat} (h:isOne P f x y=true):pureRun P (Op.equalIn (d+1) f.type x y)=some (eqOne x y):=by
 unfold isOne at h
 split at h
 ·rename_i k a k' b
  rw[Bool.and_eq_true]at h
  obtain⟨h1,h2⟩:=h
  have h1:=of_decide_eq_true h1
  subst h1
  split at h2
  case h_2=>cases h2
  rename_i k2 hu
  rw[Op.equalIn,pureRun_bind,pureRun_underlying hu]
  simp only[Option.bind_some,if_true];rfl
 ·split at h
  case h_2=>cases h
  rename_i hu
  rw[Op.equalIn,pureRun_bind,pureRun_underlying hu]
  simp only[Option.bind_some];rfl
 ·cases h
theorem part_one {t:TypeId} {cs:Array Value} {off:Nat} {v:Value} (h:(match pureRun P (isAgg t)with|some false=>true|_=>false)=true) (hv:cs[off]?=some v):pureRun P (part t cs off)=some v:=by
 have h':pureRun P (isAgg t)=some false:=by
  split at h
  ·assumption
  ·cases h
 unfold part
 rw[pureRun_bind,h']
 simp only[Option.bind_some,hv];rfl
theorem eq_loop {xs ys:Array Value} {n d:Nat} (hn:n=d+1):∀ (l:List Field) (i:Nat) (us vs:List Value),flatOk P l i us vs=true→(∀ j,xs[i+j]?=us[j]?)→(∀ j,ys[i+j]?=vs[j]?)→
  pureRun P (do
   let s ←(forIn l (none,()) fun f (__s:Option Bool×Unit)=>
          if f.name≠ "_" then do
           let __do_lift ←part f.type xs f.offset
           let __do_lift_1 ←part f.type ys f.offset
           let __do_lift ←Op.equalIn n f.type __do_lift __do_lift_1
           if (!__do_lift)=true then pure (ForInStep.done (some false,()))
            else pure (ForInStep.yield (none,()))
          else pure (ForInStep.yield (none,())):Sem (Option Bool×Unit))
   match s.fst with
        |some r=>pure r
        |none=>pure true)=some (eqAll us vs):=by
 intro l
 induction l with
 |nil=>
  intro i us vs hk _ _
  cases us with
  |cons _ _=>cases hk
  |nil=>cases vs with
   |cons _ _=>cases hk
   |nil=>rfl
 |cons f l ih=>
  intro i us vs hk hx hy
  cases us with
  |nil=>cases hk
  |cons u us=>cases vs with
   |nil=>cases hk
   |cons v vs=>
   simp only[flatOk,Bool.and_eq_true]at hk
   obtain⟨⟨⟨⟨k1,k2⟩,k3⟩,k4⟩,k5⟩:=hk
   have hoff:=Nat.eq_of_beq_eq_true k2
   have hname:f.name≠ "_":=by simpa using k1
   have hxu:xs[f.offset]?=some u:=by rw[hoff];simpa using hx 0
   have hyv:ys[f.offset]?=some v:=by rw[hoff];simpa using hy 0
   have ihl:=ih (i+1) us vs k5 (fun j=>by have:=hx (j+1);rw[List.getElem?_cons_succ]at this;rw[←this];congr 1;omega) (fun j=>by have:=hy (j+1);rw[List.getElem?_cons_succ]at this;rw[←this];congr 1;omega)
   have heq:pureRun P (Op.equalIn n f.type u v)=some (eqOne u v):=by rw[hn];exact equal_one k4
   rw[List.forIn_cons]
   simp only[bind_assoc,pureRun_bind,if_pos hname,part_one k3 hxu,part_one k3 hyv,Option.bind_some,heq]
   cases he:eqOne u v with
   |false=>simp only[eqAll,he,Bool.false_and];rfl
   |true=>
    simp only[eqAll,he,Bool.true_and]
    rw[←ihl,pureRun_bind];rfl
def chk (P:Program) (t:TypeId) (xs ys:List Value):Bool:=
 (match P.underlying t with|some (.struct fs)=>flatOk P fs.toList 0 xs ys|_=>false)&& !P.stoodInHeld t&& !P.eqGuardType P.depth t
end
end Go.Am
namespace Go.Am
section
variable {P:Program}
theorem ne_struct {t:TypeId} {fs:Array Field} {xs ys:Array Value} {x y:Operand} (ht:P.underlying t=some (.struct fs)) (hs:P.stoodInHeld t=false) (hg:P.eqGuardType P.depth t=false) (hk:flatOk P fs.toList 0 xs.toList ys.toList=true):
  pureRun P (do eqGuard .neq t x y (.agg xs) (.agg ys);binOp .neq t (.agg xs) (.agg ys))=some (.bool (!eqAll xs.toList ys.toList)):=by
 have h1:pureRun P (eqGuard .neq t x y (.agg xs) (.agg ys))=some ():=by
  unfold eqGuard
  simp only[Bool.not_true,Bool.false_eq_true,if_false]
  rw[pureRun_bind,pureRun_program]
  simp only[Option.bind_some]
  rw[pureRun_bind,pureRun_program]
  simp only[Option.bind_some,hg,Bool.not_false,if_true];rfl
 rw[pureRun_bind,h1]
 simp only[Option.bind_some]
 unfold binOp
 simp only[]
 rw[pureRun_bind]
 have h2:pureRun P (Op.equal t (.agg xs) (.agg ys))=some (eqAll xs.toList ys.toList):=by
  unfold Op.equal Op.maxDepth
  rw[show (10000:Nat)=9999+1 from rfl,Op.equalIn,pureRun_bind,pureRun_underlying ht]
  simp only[Option.bind_some]
  rw[pureRun_bind,pureRun_program]
  simp only[Option.bind_some,hs,Bool.false_eq_true,if_false]
  have:=eq_loop (P:=P) (xs:=xs) (ys:=ys) (n:=9999) (d:=9998) rfl fs.toList 0 xs.toList ys.toList hk (fun j=>by simp) (fun j=>by simp)
  rw[←this,←Array.forIn_toList,pureRun_bind,pureRun_bind]
  congr 1
  funext s;obtain⟨a,_⟩:=s;cases a<;>rfl
 rw[h2];rfl
theorem ne_chk {t:TypeId} {xs ys:Array Value} {x y:Operand} {b:Bool} (h:chk P t xs.toList ys.toList=true) (hb:eqAll xs.toList ys.toList=b):pureRun P (do eqGuard .neq t x y (.agg xs) (.agg ys);binOp .neq t (.agg xs) (.agg ys))=some (.bool (!b)):=by
 subst hb
 unfold chk at h
 simp only[Bool.and_eq_true,Bool.not_eq_true']at h
 obtain⟨⟨h1,h2⟩,h3⟩:=h
 split at h1
 case h_2=>cases h1
 rename_i fs hu
 exact ne_struct hu h2 h3 h1
end
end Go.Am
namespace Go.Am
section
variable {P:Program} {tab:Tab}
def okU (m N0:Nat) (un:List Nat) (cl:Bool) (t:Trie Value) (o:AOper) (h h':AHeap):Prop:=
 (∀ g∈h'.wr,m≤g)∧h.n≤h'.n∧(un=[]∨(cl=true∧h'.wr=[]∧∀ g,readsA t o=some g→g<N0))
def WU2 (P:Program) (tab:Tab) (m N0:Nat):List (AOper×List Nat)→Nat→Bool→AFr→AHeap→(AFr→AHeap→Prop)→Prop
 |[],_,_,fr,h,Q=>Q fr h
 |(o,un)::l,g,cl,fr,h,Q=>
  if Nat.beq (kindA o.op) 3=true then
   un=[]∧wantedA fr.tm o.guard=true∧m≤g∧∃ ob f,madeA fr.tm o.op=some (ob,f)∧WU2 P tab m N0 l (g+1) false (val o.dst fr (f g)) ((inC h).lay g ob) Q
  else WO P tab [o] fr (inC h) fun fr' h'=>okU m N0 un cl fr.tm o h h'∧WU2 P tab m N0 l g (cl&&h'.wr.isEmpty) fr' h' Q
theorem okU_check {m N0:Nat} {un:List Nat} {cl:Bool} {t:Trie Value} {o:AOper} {h h':AHeap} (hk:okU m N0 un cl t o h h') {ws:List (Nat×Nat)} (hw:cl=true→ws=[]) {bs:List (Nat×Nat)} (hb:∀ e∈bs,N0≤e.2) (rs:List (Nat×Nat×Option (Nat×Nat×List Value))):
  ((match readsA t o with
   |some g=>(ws.all fun x=> !(Nat.beq g x.2&&un.contains x.1))&&bs.all fun x=> !un.contains x.1||Nat.ble (g+1) x.2
   |none=>true)&&rs.all fun x=> !(un.contains x.1&&h'.wr.contains x.2.1)||seenA h' x.2.1 x.2.2)=true:=by
 obtain⟨_,_,rfl|⟨h1,h2,h3⟩⟩:=hk
 ·exact ok_nil o ws rs bs t h'
 ·rw[hw h1,h2]
  have e2:(rs.all fun x=> !(un.contains x.1&&([]:List Nat).contains x.2.1)||seenA h' x.2.1 x.2.2)=true:=by simp
  rw[e2,Bool.and_true]
  cases hr:readsA t o with
  |none=>rfl
  |some g=>
   have hg:=h3 g hr
   simp only[List.all_nil,Bool.true_and]
   rw[List.all_eq_true]
   intro x hx
   have:Nat.ble (g+1) x.2=true:=Nat.ble_eq_true_of_le (Nat.lt_of_lt_of_le hg (hb x hx))
   rw[this,Bool.or_true]
theorem WU2.run {m N0:Nat}:∀ {ops:List (AOper×List Nat)} {g:Nat} {cl:Bool} {fr:AFr} {h:AHeap} {Q:AFr→AHeap→Prop},N0≤h.n→WU2 P tab m N0 ops g cl fr h Q→
  ∃ fr' h',Q fr' h'∧∀ (i:Nat) (ws:List (Nat×Nat)) (rs:List (Nat×Nat×Option (Nat×Nat×List Value))) (bs:List (Nat×Nat)),(∀ e∈ws,m≤e.2)→(cl=true→ws=[])→(∀ e∈bs,N0≤e.2)→
   ∃ ws',(∀ e∈ws',m≤e.2)∧Ev fun n=>aopersC P (aex P tab n) ops i g ws rs bs fr h=some (fr',h',ws'):=by
 intro ops
 induction ops with
 |nil=>intro g cl fr h Q _ hx;exact⟨fr,h,hx,fun i ws rs bs hw _ _=>⟨ws,hw,Ev.all fun n=>rfl⟩⟩
 |cons x ops ihl=>
  intro g cl fr h Q hn hx
  obtain⟨o,un⟩:=x
  simp only[WU2]at hx
  have go:∀ {g':Nat} {cl':Bool} {fr1:AFr} {h1:AHeap},(g'=bif Nat.beq (kindA o.op) 3 then g+1 else g)→(cl'=true→cl=true∧h1.wr=[])→(Ev fun n=>aoperC P (aex P tab n) g o fr (inC h)=some (fr1,h1))→okU m N0 un cl fr.tm o h h1→WU2 P tab m N0 ops g' cl' fr1 h1 Q→
    ∃ fr' h',Q fr' h'∧∀ (i:Nat) (ws:List (Nat×Nat)) (rs:List (Nat×Nat×Option (Nat×Nat×List Value))) (bs:List (Nat×Nat)),(∀ e∈ws,m≤e.2)→(cl=true→ws=[])→(∀ e∈bs,N0≤e.2)→
     ∃ ws',(∀ e∈ws',m≤e.2)∧Ev fun n=>aopersC P (aex P tab n) ((o,un)::ops) i g ws rs bs fr h=some (fr',h',ws'):=by
   intro g' cl' fr1 h1 hg hcl ev hk hx
   obtain⟨fr',h',q,run⟩:=ihl (Nat.le_trans hn hk.2.1) hx
   refine⟨fr',h',q,fun i ws rs bs hws hwc hbs=> ?_⟩
   obtain⟨ws',w1,w2⟩:=run (i+1) (h1.wr.map (fun g=>(i,g))++ws) (match readsA fr.tm o with
     |some g=>(i,g,viewA fr.tm h o.op)::rs
     |none=>rs) ((i,h.n)::bs) (fun e he=>by
      rcases List.mem_append.1 he with he|he
      ·obtain⟨y,hy,rfl⟩:=List.mem_map.1 he;exact hk.1 y hy
      ·exact hws e he) (fun hc=>by
      obtain⟨c1,c2⟩:=hcl hc
      rw[hwc c1,c2];rfl) (fun e he=>by
      rcases List.mem_cons.1 he with rfl|he
      ·exact hn
      ·exact hbs e he)
   refine⟨ws',w1,(ev.and w2).mono fun n ⟨e1,e2⟩=> ?_⟩
   simp only[aopersC]
   have e1':aoperC P (aex P tab n) g o fr {h with mark:=h.n,wr:=[]}=some (fr1,h1):=e1
   rw[e1']
   have hok:=okU_check hk hwc hbs rs
   exact(congrArg (fun b:Bool=>bif b then aopersC P (aex P tab n) ops (i+1) (bif Nat.beq (kindA o.op) 3 then g+1 else g) (h1.wr.map (fun g=>(i,g))++ws) (match readsA fr.tm o with
     |some g=>(i,g,viewA fr.tm h o.op)::rs
     |none=>rs) ((i,h.n)::bs) fr1 h1 else none) hok).trans (by rw[cond_true,←hg];exact e2)
  by_cases hk:Nat.beq (kindA o.op) 3=true
  ·rw[if_pos hk]at hx
   obtain⟨rfl,hw,hm,ob,f,hmade,hx⟩:=hx
   refine go (g':=g+1) (cl':=false) (by rw[hk];rfl) (fun h=>by cases h) (Ev.all fun n=> ?_) (h1:=(inC h).lay g ob) ⟨fun x hx=> ?_,(show h.n≤h.n from Nat.le_refl _),.inl rfl⟩ hx
   ·unfold aoperC;simp only[hk,hw,hmade,cond_true]
   ·rcases log_mem hx with rfl|hx
    ·exact hm
    ·cases hx
  ·rw[if_neg hk]at hx
   have hk':Nat.beq (kindA o.op) 3=false:=by cases hb:Nat.beq (kindA o.op) 3 with
    |false=>rfl
    |true=>exact absurd hb hk
   unfold WO at hx
   obtain⟨fr1,h1,⟨q1,q2⟩,ev⟩:=hx
   refine go (g':=g) (cl':=cl&&h1.wr.isEmpty) (by rw[hk'];rfl) (fun hc=>by
    rw[Bool.and_eq_true]at hc
    exact⟨hc.1,List.isEmpty_iff.1 hc.2⟩) (ev.mono fun n e=> ?_) q1 q2
   unfold aoperC;simp only[hk',cond_false]
   simp only[aopers]at e
   cases ha:aoper P (aex P tab n) o fr (inC h)with
   |none=>rw[ha]at e;cases e
   |some p=>rw[ha]at e;exact e
def asideN (k:Nat) (h:AHeap):AHeap:={h with n:=h.n+k}
theorem WX.regionU2 {ops:List (AOper×List Nat)} {fr:AFr} {h:AHeap} {K:AExit→AFr→AHeap→Prop} (k:Nat) (hk:cnt3 ops=k) (hne:ops.isEmpty=false)
  (hx:WU2 P tab h.mark (h.n+k) ops h.n true fr (inC (asideN k h)) (regQ K h)):WX P tab (.regionC ops) fr h K:=by
 subst hk
 have hx':WU2 P tab h.mark (h.n+cnt3 ops) ops h.n true fr (asideN (cnt3 ops) h) (regQ K h):=by
  cases ops with
  |nil=>cases hne
  |cons x ops=>exact hx
 obtain⟨fr',h',q,run⟩:=WU2.run (h:=asideN (cnt3 ops) h) (show h.n+cnt3 ops≤h.n+cnt3 ops from Nat.le_refl _) hx'
 obtain⟨ws',w1,w2⟩:=run 0 [] [] [] (fun e he=>by cases he) (fun _=>rfl) (fun e he=>by cases he)
 unfold WX
 refine⟨.normal,fr',_,q,Ev.up (w2.mono fun n e=> ?_)⟩
 rw[exec_succ]
 simp only[execA,regionA]
 have e':aopersC P (aex P tab n) ops 0 h.n [] [] [] fr {h with n:=h.n+(ops.filter fun x=>Nat.beq (kindA x.1.op) 3).length}=some (fr',h',ws'):=e
 rw[e']
 have:((ws'.map (·.2)).filter fun g=> !Nat.ble h.mark g)=[]:=by
  rw[List.filter_eq_nil_iff]
  intro g hg
  obtain⟨y,hy,rfl⟩:=List.mem_map.1 hg
  have:Nat.ble h.mark y.2=true:=Nat.ble_eq_true_of_le (w1 y hy)
  simp[this]
 simp[this,outC]
end
section
variable {P:Program} {tab:Tab} {m N0:Nat} {l:List (AOper×List Nat)} {o:AOper} {un:List Nat} {g:Nat} {cl:Bool} {fr:AFr} {h h0 h':AHeap} {Q:AFr→AHeap→Prop} {K:AExit→AFr→AHeap→Prop} {x:AOper×List Nat}
def uK2 (P:Program) (tab:Tab) (m N0:Nat) (un:List Nat) (t:Trie Value) (o:AOper) (h:AHeap) (l:List (AOper×List Nat)) (g:Nat) (cl:Bool) (Q:AFr→AHeap→Prop):AFr→AHeap→Prop:=
 fun fr' h'=>okU m N0 un cl t o h h'∧WU2 P tab m N0 l g (cl&&h'.wr.isEmpty) fr' h' Q
theorem WU2.q (hk:Nat.beq (kindA o.op) 3=false) (hx:WO P tab [o] fr (inC h) (uK2 P tab m N0 un fr.tm o (inC h) l g cl Q)):WU2 P tab m N0 ((o,un)::l) g cl fr (inC h) Q:=by
 simp only[WU2];rw[if_neg (by rw[hk];exact Bool.noConfusion)];exact hx
theorem uK2_q {t:Trie Value} (hx:WU2 P tab m N0 l g cl fr (inC h) Q):uK2 P tab m N0 [] t o (inC h) l g cl Q fr (inC h):=
 ⟨⟨fun g hg=>(by cases hg),Nat.le_refl _,.inl rfl⟩,by rw[show (cl&&(inC h).wr.isEmpty)=cl from by simp[inC]];exact hx⟩
theorem uK2_r {t:Trie Value} (hr:∀ g,readsA t o=some g→g<N0) (hx:WU2 P tab m N0 l g true fr (inC h) Q):uK2 P tab m N0 un t o (inC h) l g true Q fr (inC h):=
 ⟨⟨fun g hg=>(by cases hg),Nat.le_refl _,.inr ⟨rfl,rfl,hr⟩⟩,by rw[show (true&&(inC h).wr.isEmpty)=true from by simp[inC]];exact hx⟩
theorem uK2_e {t:Trie Value} (e:Ext (inC h) h') (hr:readsA t o=none) (hx:WU2 P tab m N0 (x::l) g true fr (inC h') Q):uK2 P tab m N0 un t o (inC h) (x::l) g true Q fr h':=by
 have hw:=e.wrnil
 refine⟨⟨fun g hg=>(by rw[hw]at hg;cases hg),e.n,?_⟩,?_⟩
 ·exact .inr ⟨rfl,hw,fun g hg=>by rw[hr]at hg;cases hg⟩
 ·rw[hw];exact hx
theorem uK2_nil {t:Trie Value} (hx:K .normal fr (outC h0 (inC h))):uK2 P tab m N0 [] t o (inC h) [] g cl (regQ K h0) fr (inC h):=⟨⟨fun g hg=>(by cases hg),Nat.le_refl _,.inl rfl⟩,hx⟩
end
end Go.Am
namespace Go.Am
section
variable {P:Program} {tab:Tab} {ds:List Deferred} {rd:Option Nat} {h:AHeap} {l:List AOper} {t:Trie Value}
theorem goU {G' G:Prop} (k:G') (r:Wrap G'→G:=by
  intro hgo
  repeat (first|(apply WU2.q;rfl)|refine uK2_q ?_|refine uK2_nil ?_|refine WX.seq ?_|refine WX.region ?_|(apply R.mov;(exact opeA))|(apply R.add;(exact opeA);(exact opeA);(omega);(omega))|(apply R.sub;(exact opeA);(exact opeA);(omega);(omega))|(apply R.mul;(exact opeA);(exact opeA);(omega);(omega))|(apply R.lss;(exact opeA);(exact opeA))|(apply R.leq;(exact opeA);(exact opeA))|(apply R.gtr;(exact opeA);(exact opeA))|(apply R.geq;(exact opeA);(exact opeA))|(apply R.eql;(exact opeA);(exact opeA))|(apply R.neq;(exact opeA);(exact opeA))|(apply R.not;(exact opeA))|(apply R.eqB;(exact opeA);(exact opeA))|(apply R.neB;(exact opeA);(exact opeA))|(apply R.conv64;(exact opeA);(omega);(omega))|(apply R.conv;(exact opeA))|(apply R.pickT;(exact opeA);(exact decA);(exact opeA))|(apply R.pickF;(exact opeA);(exact decA);(exact opeA))|(apply R.tup2_0;(exact opeA))|(apply R.tup2_1;(exact opeA))|(apply R.tup3_0;(exact opeA))|(apply R.tup3_1;(exact opeA))|(apply R.tup3_2;(exact opeA))|(apply R.tup4_0;(exact opeA))|(apply R.tup4_1;(exact opeA))|(apply R.tup4_2;(exact opeA))|(apply R.tup4_3;(exact opeA))|(apply R.lenC)|(apply R.nil;(exact opeA);(rfl))|(apply R.lenI;(exact opeA);(first|with_reducible assumption|exact SlI.ext (by with_reducible assumption) (by with_reducible assumption)|exact OwnI.sl (by with_reducible assumption)|exact OwnN.sl (by with_reducible assumption)|fail))|(apply R.lenR;(exact opeA);(with_reducible assumption))|(apply R.idxI;(exact opeA);(exact opeA);(first|exact AsN.nat|exact AsN.lit rfl|exact AsN.int (by omega)|fail);(first|with_reducible assumption|exact SlI.ext (by with_reducible assumption) (by with_reducible assumption)|exact OwnI.sl (by with_reducible assumption)|exact OwnN.sl (by with_reducible assumption)|fail);(first|omega|with_reducible assumption|(simp only[List.length_map,List.length_set,List.length_append,List.length_cons,List.length_nil]at *;omega)))|(apply R.idxR;(exact opeA);(exact opeA);(first|exact AsN.nat|exact AsN.lit rfl|exact AsN.int (by omega)|fail);(with_reducible assumption);(first|omega|with_reducible assumption|(simp only[List.length_map,List.length_set,List.length_append,List.length_cons,List.length_nil]at *;omega)))|(apply R.loadI;(exact opeA);(first|with_reducible assumption|exact SlI.ext (by with_reducible assumption) (by with_reducible assumption)|exact OwnI.sl (by with_reducible assumption)|exact OwnN.sl (by with_reducible assumption)|fail);(first|omega|with_reducible assumption|(simp only[List.length_map,List.length_set,List.length_append,List.length_cons,List.length_nil]at *;omega)))|(apply R.pceA;(exact opeA);(with_reducible assumption);(decide);(first|exact(rfl:_=some (Value.agg #[_,_]))|exact(rfl:_=some (Value.agg #[_,_,_]))|exact(rfl:_=some (Value.agg #[_,_,_,_]))|exact(rfl:_=some (Value.agg #[_,_,_,_,_]))|exact(rfl:_=some (Value.agg #[_,_,_,_,_,_]))|exact(rfl:_=some (Value.agg #[_,_,_,_,_,_,_]))|exact(rfl:_=some (Value.agg #[_,_,_,_,_,_,_,_]))|rfl))|(apply R.pce;(exact opeA);(with_reducible assumption);(decide);(rfl))|(apply R.pce0A;(exact opeA);(with_reducible assumption);(decide);(first|exact(rfl:_=some (Value.agg #[_,_]))|exact(rfl:_=some (Value.agg #[_,_,_]))|exact(rfl:_=some (Value.agg #[_,_,_,_]))|exact(rfl:_=some (Value.agg #[_,_,_,_,_]))|exact(rfl:_=some (Value.agg #[_,_,_,_,_,_]))|exact(rfl:_=some (Value.agg #[_,_,_,_,_,_,_]))|exact(rfl:_=some (Value.agg #[_,_,_,_,_,_,_,_]))|rfl))|(apply R.pce0;(exact opeA);(with_reducible assumption);(decide);(rfl))|(apply R.fldP;(exact opeA);(with_reducible assumption))|(apply R.fldC0;(exact opeA);(with_reducible assumption))|(apply R.fldC;(exact opeA);(with_reducible assumption))|(apply R.idxZ;(exact opeA);(with_reducible assumption);(exact opeA);(first|exact AsN.nat|exact AsN.lit rfl|exact AsN.int (by omega)|fail);(first|omega|with_reducible assumption|(simp only[List.length_map,List.length_set,List.length_append,List.length_cons,List.length_nil]at *;omega)))|(apply R.idxA0;(exact opeA);(with_reducible assumption);(exact opeA);(first|exact AsN.nat|exact AsN.lit rfl|exact AsN.int (by omega)|fail);(first|omega|with_reducible assumption|(simp only[List.length_map,List.length_set,List.length_append,List.length_cons,List.length_nil]at *;omega)))|(apply R.idxA1;(exact opeA);(with_reducible assumption);(exact opeA);(first|exact AsN.nat|exact AsN.lit rfl|exact AsN.int (by omega)|fail);(first|omega|with_reducible assumption|(simp only[List.length_map,List.length_set,List.length_append,List.length_cons,List.length_nil]at *;omega)))|(apply R.loadA;(exact opeA);(with_reducible assumption);(first|omega|with_reducible assumption|(simp only[List.length_map,List.length_set,List.length_append,List.length_cons,List.length_nil]at *;omega)))|(apply R.loadC0A;(exact opeA);(with_reducible assumption);(first|exact(rfl:_=some (Value.agg #[_,_]))|exact(rfl:_=some (Value.agg #[_,_,_]))|exact(rfl:_=some (Value.agg #[_,_,_,_]))|exact(rfl:_=some (Value.agg #[_,_,_,_,_]))|exact(rfl:_=some (Value.agg #[_,_,_,_,_,_]))|exact(rfl:_=some (Value.agg #[_,_,_,_,_,_,_]))|exact(rfl:_=some (Value.agg #[_,_,_,_,_,_,_,_]))|rfl))|(apply R.loadC0;(exact opeA);(with_reducible assumption);(rfl))|(apply R.loadCA;(exact opeA);(with_reducible assumption);(first|exact(rfl:_=some (Value.agg #[_,_]))|exact(rfl:_=some (Value.agg #[_,_,_]))|exact(rfl:_=some (Value.agg #[_,_,_,_]))|exact(rfl:_=some (Value.agg #[_,_,_,_,_]))|exact(rfl:_=some (Value.agg #[_,_,_,_,_,_]))|exact(rfl:_=some (Value.agg #[_,_,_,_,_,_,_]))|exact(rfl:_=some (Value.agg #[_,_,_,_,_,_,_,_]))|rfl))|(apply R.loadC;(exact opeA);(with_reducible assumption);(rfl))|(apply R.partA;(exact opeA);(first|exact(rfl:_=some (Value.agg #[_,_]))|exact(rfl:_=some (Value.agg #[_,_,_]))|exact(rfl:_=some (Value.agg #[_,_,_,_]))|exact(rfl:_=some (Value.agg #[_,_,_,_,_]))|exact(rfl:_=some (Value.agg #[_,_,_,_,_,_]))|exact(rfl:_=some (Value.agg #[_,_,_,_,_,_,_]))|exact(rfl:_=some (Value.agg #[_,_,_,_,_,_,_,_]))|rfl))|(apply R.part;(exact opeA);(rfl))|(apply R.idxG;(exact opeA);(first|exact AsN.nat|exact AsN.lit rfl|exact AsN.int (by omega)|fail);(first|omega|with_reducible assumption|(simp only[List.length_map,List.length_set,List.length_append,List.length_cons,List.length_nil]at *;omega)))|(apply R.loadG;(exact opeA);(with_reducible assumption);(with_reducible assumption))|(apply R.agg;((repeat (apply Parts.cons;(exact opeA)));exact Parts.nil);(first|exact(rfl:_=some [_,_])|exact(rfl:_=some [_,_,_])|exact(rfl:_=some [_,_,_,_])|exact(rfl:_=some [_,_,_,_,_])|exact(rfl:_=some [_,_,_,_,_,_])|exact(rfl:_=some [_,_,_,_,_,_,_])|exact(rfl:_=some [_,_,_,_,_,_,_,_])|rfl))|(apply R.nck;(exact opeA))|(apply R.lenM;(exact opeA);(with_reducible assumption))|(apply R.lkN;(exact opeA);(exact opeA);(with_reducible assumption);(with_reducible assumption))|(apply R.lkS;(exact opeA);(exact opeA);(with_reducible assumption);(with_reducible assumption))|(apply R.fun;(exact opesA);(exact opesA))|(apply R.gT;(exact slotA);(exact decA))|(apply R.gF1;(exact slotA);(exact decA))|(apply R.gF2;(exact slotA);(exact decA))|(apply R.gU;(exact slotA))|refine WO.nil ?_|refine thenK_normal ?_|refine WX.skip ?_|refine WX.block ?_|refine WX.exit ?_|refine blockK_exit ?_|refine blockK_normal ?_|refine thenK_exit ?_|refine blockK_exit_ne rfl ?_|refine loopK_exit ?_|refine WX.ret ?_|refine thenK_ret ?_|refine blockK_ret ?_|refine loopK_ret ?_|(apply WX.cT;(exact opeA);(exact decA))|(apply WX.cF;(exact opeA);(exact decA))|refine WX.label ?_|refine WX.goto ?_|refine thenK_goto ?_|refine blockK_goto ?_|refine loopK_goto ?_|refine WX.regionC_quiet rfl ?_)
  exact hgo.out):G:=r ⟨k⟩
theorem WU2.upd {N0 g:Nat} {cl:Bool} {mx kx vx:Operand} {mv:Value} {a b:Int} {es:List (Int×Int)} {h0 hS:AHeap} {K:AExit→AFr→AHeap→Prop} (o:OwnM h0 hS mv es) (e0:Ext h0 hS) (hm:hS.mark≤h0.n) (hl:es.lookup a=none)
  (k:∀ h1,Ext h0 h1→OwnM h0 h1 mv (es++[(a,b)])→UpdM mv hS h1→K .normal ⟨t,ds,rd⟩ h1) (hmx:Ope t mx mv:=by exact opeA) (hkx:Ope t kx (I a):=by exact opeA) (hvx:Ope t vx (I b):=by exact opeA):
  WU2 P tab hS.mark N0 [(⟨none,none,.update mx kx vx⟩,[])] g cl ⟨t,ds,rd⟩ (inC (asideN 0 hS)) (regQ K hS):=by
 obtain⟨q,c,es',g1,g2,rfl,g4,g5⟩:=o
 unfold Ope at hmx hkx hvx
 have hf:=find_none 0 g5 hl
 have g4':(inC (inC (asideN 0 hS))).get q=some (.map es' c):=g4
 rw[WU2,if_neg (show ¬Nat.beq (kindA (AOp.update mx kx vx)) 3=true from Bool.noConfusion)]
 refine WO.op0 undef ((inC (inC (asideN 0 hS))).set q (.map (es'++[{key:=I a,val:=I b,born:=c}]) (c+1))) rfl (by simp only[aop,hmx,hkx,hvx,g4',hf]) ?_
 refine WO.nil ⟨⟨fun x hx=> ?_,Nat.le_refl _,.inl rfl⟩,?_⟩
 ·have hx2:x∈(inC (inC (asideN 0 hS))).log q:=hx
  rcases log_mem hx2 with rfl|hx3
  ·omega
  ·cases hx3
 ·refine k (outC hS ((inC (inC (asideN 0 hS))).set q (.map (es'++[{key:=I a,val:=I b,born:=c}]) (c+1)))) ?_ ?_ ?_
  ·refine⟨e0.n,fun j hj=> ?_,fun w j hj=> ?_,e0.mark,fun hmk=>e0.wr hmk⟩
   ·show (hS.tab.set q _).get j=_
    rw[trie_get_set,if_neg (by omega)];exact e0.get j hj
   ·have hj:hS.n≤j:=hj
    show (hS.tab.set q _).get j=_
    rw[trie_get_set,if_neg (by omega)];exact e0.wf w j hj
  ·refine⟨q,c+1,es'++[{key:=I a,val:=I b,born:=c}],g1,g2,rfl,?_,by simp[g5]⟩
   show (hS.tab.set q _).get q=_
   rw[trie_get_set,if_pos rfl]
  ·refine⟨Nat.le_refl _,fun j _ hj=> ?_⟩
   show (hS.tab.set q _).get j=_
   rw[trie_get_set,if_neg (fun e=>hj (by rw[e]))];rfl
theorem ope_ {x:Operand} {v:Value} (hx:Ope t x v:=by exact opeA):ev t x=v:=hx
theorem uK2_own {m N0 n g j:Nat} {un:List Nat} {d:Option Nat} {agg:Bool} {x:Operand} {p:Value} {cs:List Value} {h0 hs:AHeap} {l:List (AOper×List Nat)} {fr:AFr} {Q:AFr→AHeap→Prop} (o:OwnC h0 hs p cs) (hN:hs.n≤N0) (hx:WU2 P tab m N0 l g true fr (inC h) Q)
  (hr:Ope t x (ptrAt p j):=by exact opeA):uK2 P tab m N0 un t ⟨d,none,.load agg n x⟩ (inC h) l g true Q fr (inC h):=by
 refine uK2_r (fun k hk=> ?_) hx
 obtain⟨q,q1,q2,rfl,q3⟩:=o
 unfold Ope ptrAt at hr
 simp only[readsA,wantedA,cond_true,hr,Option.some.injEq]at hk
 omega
end
end Go.Am
namespace Go.Am
section
variable {P:Program} {tab:Tab} {t:Trie Value} {h:AHeap} {ds:List Deferred} {rd:Option Nat} {l:List AOper} {Q:AFr→AHeap→Prop}
end
end Go.Am
namespace Go.Am
open Go.RowKit
section
variable {H:Type}
variable {P:Program} {h:AHeap}
end
end Go.Am
namespace Go.Am
section
variable {H:Type} {P:Program} {h:AHeap}
end
end Go.Am
namespace Go.Am
set_option linter.unusedVariables false
def Lies (h:AHeap) (g:Nat) (o:AObj):Prop:=g<h.n∧h.get g=some o
def isRow:AObj→Bool
 | .row .. =>true
 |_=>false
def isRec:AObj→Bool
 | .loop .. | .deferred .. =>true
 |_=>false
theorem Lies.ext {h h':AHeap} {g:Nat} {o:AObj} (k:Lies h g o) (e:Ext h h'):Lies h' g o:=⟨Nat.lt_of_lt_of_le k.1 e.n,(e.get g k.1).trans k.2⟩
theorem Lies.upd {h0 h h':AHeap} {g:Nat} {o:AObj} {v:Value} {xs:List Int} (k:Lies h g o) (hr:isRec o=true) (w:OwnN h0 h v xs) (u:Upd v h h'):Lies h' g o:=by
 refine⟨Nat.lt_of_lt_of_le k.1 u.1,(u.2 g k.1 fun a n c hv e=> ?_).trans k.2⟩
 rcases w with ⟨rfl,_⟩|⟨g2,_,_,rfl,hg⟩
 ·cases hv
 ·cases hv;simp only at e;subst e
  have:=k.2;rw[hg]at this;cases this;cases hr
theorem Lies.set {h:AHeap} {g l:Nat} {o p:AObj} (k:Lies h g o) (hne:g≠l):Lies (h.set l p) g o:=⟨k.1,by rw[get_set,if_neg hne];exact k.2⟩
theorem Lies.self {h:AHeap} {g:Nat} {o p:AObj} (k:Lies h g o):Lies (h.set g p) g p:=⟨k.1,by rw[get_set,if_pos rfl]⟩
theorem reads_call {t:Trie Value} {d:Option Nat} {g:Option (Nat×Bool)} {f:Operand} {args:List Operand}:readsA t ⟨d,g,.call f args⟩=none:=by
 unfold readsA;cases wantedA t g<;>rfl
section
variable {P:Program} {tab:Tab}
attribute [local semireducible] WX WV WC Ev
def yieldK (l:Nat) (Q:Value→AHeap→Prop):AExit→AFr→AHeap→Prop
 | .normal,fr,h2=>fr.dfs=[]∧∃ r2,Lies h2 l (.loop r2)∧Q (.bool true) (h2.set l (.loop {r2 with state:= .ready,pending:=none}))
 |_,_,_=>False
def assignK (P:Program) (tab:Tab) (l:Nat) (r:ALoop) (h0:AHeap) (Q:Value→AHeap→Prop):AExit→AFr→AHeap→Prop
 | .normal,fr,h=>h=h0∧WX P tab r.body fr (h.set l (.loop {r with state:= .busy})) (yieldK l Q)
 |_,_,_=>False
theorem WV.yield {l args h Q a b} {r:ALoop} (hl:Lies h l (.loop r)) (hr:r.state= .ready) (hn:Nat.beq args.length r.params.length=true)
  (hx:WX P tab r.assign ⟨setTm r.params args r.tm,[],some l⟩ h (assignK P tab l r h Q)):WV P tab (.func (.yield l) a b) args h Q:=by
 obtain⟨e,fr,h1,k,ev⟩:=hx
 cases e with
 |normal=>
  obtain⟨rfl,e2,fr2,h2,k2,ev2⟩:=k
  cases e2 with
  |normal=>
   obtain⟨kd,r2,hl2,hq⟩:=k2
   refine⟨_,_,hq,(ev.and ev2).mono fun n ⟨x1,x2⟩=> ?_⟩
   have h1:=hl.2
   have h2:=hl2.2
   simp only[callV,h1,hn,cond_true,roundA,x1,hr,x2,kd,h2,roundEnd]
  |exit i=>exact k2.elim
  |goto i=>exact k2.elim
  |ret=>exact k2.elim
 |exit i=>exact k.elim
 |goto i=>exact k.elim
 |ret=>exact k.elim
def busy (r:ALoop):ALoop:={r with state:= .busy}
end
end Go.Am
namespace Go.Am
set_option linter.unusedVariables false
set_option linter.unusedSimpArgs false
structure Hid (p:Prop):Prop where
 out:p
abbrev atI (xs:List Int) (i:Int):Int:=xs.getD i.toNat 0
structure PI (a b:Int) (xs ys:List Int):Prop where
 len:ys.length=xs.length
 perm:ys.Perm xs
 out:∀ k:Int,0≤k→(k<a∨b≤k)→atI ys k=atI xs k
theorem PI.refl (a b:Int) (xs:List Int):PI a b xs xs:=⟨rfl,.refl _,fun _ _ _=>rfl⟩
theorem PI.trans {a b:Int} {xs ys zs:List Int} (h:PI a b xs ys) (k:PI a b ys zs):PI a b xs zs:=⟨k.len.trans h.len,k.perm.trans h.perm,fun i h0 hi=>(k.out i h0 hi).trans (h.out i h0 hi)⟩
theorem PI.mono {a b a' b':Int} {xs ys:List Int} (h:PI a b xs ys) (ha:a'≤a) (hb:b≤b'):PI a' b' xs ys:=⟨h.len,h.perm,fun k h0 hk=>h.out k h0 (by omega)⟩
theorem list_three (xs:List Int) (a b:Nat) (hab:a≤b):xs=xs.take a++((xs.drop a).take (b - a)++xs.drop b):=by
 have:xs.drop b=(xs.drop a).drop (b - a):=by rw[List.drop_drop];congr 1;omega
 rw[this,List.take_append_drop,List.take_append_drop]
theorem eq_of_at {xs ys:List Int} (hl:xs.length=ys.length) (h:∀ k:Nat,k<xs.length→xs.getD k 0=ys.getD k 0):xs=ys:=by
 apply List.ext_getElem hl
 intro i h1 h2
 have:=h i h1
 simpa [List.getD,List.getElem?_eq_getElem h1,List.getElem?_eq_getElem h2]using this
theorem PI.all {a b:Int} {xs ys:List Int} (h:PI a b xs ys) (h0:0≤a) (hb:b≤xs.length) {p:Int→Prop} (hp:∀ k,a≤k→k<b→p (atI xs k)):∀ k,a≤k→k<b→p (atI ys k):=by
 intro k hk1 hk2
 obtain⟨A,rfl⟩:∃ A:Nat,a=A:=⟨a.toNat,by omega⟩
 obtain⟨B,rfl⟩:∃ B:Nat,b=B:=⟨b.toNat,by omega⟩
 have hl:=h.len
 have e1:=list_three xs A B (by omega)
 have e2:=list_three ys A B (by omega)
 have t1:ys.take A=xs.take A:=eq_of_at (by simp[hl]) fun k hk=>by
  have hk':k<A:=by simp at hk;omega
  have:=h.out (k:Int) (by omega) (by omega)
  simpa [atI,List.getD_eq_getElem?_getD,List.getElem?_take,hk']using this
 have t2:ys.drop B=xs.drop B:=eq_of_at (by simp[hl]) fun k hk=>by
  have:=h.out ((B+k:Nat):Int) (by omega) (by omega)
  simp only[atI,Int.toNat_natCast]at this
  simpa [List.getD_eq_getElem?_getD,List.getElem?_drop]using this
 have hp':=h.perm
 rw[e1,e2,t1,t2]at hp'
 have hs:=(List.perm_append_right_iff _).1 ((List.perm_append_left_iff _).1 hp')
 have hmem:atI ys k∈(ys.drop A).take (B - A):=by
  rw[List.mem_iff_getElem?]
  refine⟨k.toNat - A,?_⟩
  rw[List.getElem?_take,if_pos (by omega),List.getElem?_drop,show A+(k.toNat - A)=k.toNat by omega]
  unfold atI
  rw[List.getD_eq_getElem?_getD,List.getElem?_eq_getElem (by omega)];rfl
 obtain⟨m,hm⟩:=List.mem_iff_getElem?.1 (hs.mem_iff.1 hmem)
 rw[List.getElem?_take]at hm
 split at hm
 ·rename_i hlt
  rw[List.getElem?_drop]at hm
  have:=hp ((A+m:Nat):Int) (by omega) (by omega)
  unfold atI at this
  rw[Int.toNat_natCast,List.getD_eq_getElem?_getD,hm]at this
  exact this
 ·cases hm
theorem Upd.trans {v:Value} {h h1 h2:AHeap} (a:Upd v h h1) (b:Upd v h1 h2):Upd v h h2:=⟨Nat.le_trans a.1 b.1,fun g hg hv=>(b.2 g (Nat.lt_of_lt_of_le hg a.1) hv).trans (a.2 g hg hv)⟩
theorem Upd.refl (v:Value) (h:AHeap):Upd v h h:=⟨Nat.le_refl _,fun _ _ _=>rfl⟩
structure SS (hB h:AHeap) (v:Value) (a b:Int) (xs ys:List Int) (h1:AHeap):Prop where
 own:OwnI hB h1 v ys
 ext:Ext hB h1
 upd:Upd v h h1
 pi:PI a b xs ys
theorem SS.call {hB h h1 h2:AHeap} {v:Value} {a b c d:Int} {xs ys zs:List Int} (s:SS hB h v a b xs ys h1) (k:SS hB h1 v c d ys zs h2) (ha:a≤c) (hb:d≤b):SS hB h v a b xs zs h2:=
 ⟨k.own,k.ext,s.upd.trans k.upd,s.pi.trans (k.pi.mono ha hb)⟩
theorem SS.mono {hB h h1:AHeap} {v:Value} {a b c d:Int} {xs ys:List Int} (k:SS hB h v c d xs ys h1) (ha:a≤c) (hb:d≤b):SS hB h v a b xs ys h1:=
 ⟨k.own,k.ext,k.upd,k.pi.mono ha hb⟩
theorem UpdC.trans {p:Value} {h h1 h2:AHeap} (a:UpdC p h h1) (b:UpdC p h1 h2):UpdC p h h2:=⟨Nat.le_trans a.1 b.1,fun g hg hv=>(b.2 g (Nat.lt_of_lt_of_le hg a.1) hv).trans (a.2 g hg hv)⟩
theorem UpdC.upd {p w:Value} {h h' h2:AHeap} {xs:List Int} (u:UpdC p h h') (o:OwnN h h' w xs) (u2:Upd w h' h2):UpdC p h h2:=⟨Nat.le_trans u.1 u2.1,fun g hg hv=>by
 refine(u2.2 g (Nat.lt_of_lt_of_le hg u.1) fun a n c e=> ?_).trans (u.2 g hg hv)
 rcases o with ⟨rfl,_⟩|⟨q,q1,_,rfl,_⟩
 ·cases e
 ·cases e;simp only;omega⟩
theorem UpdC.refl (p:Value) (h:AHeap):UpdC p h h:=⟨Nat.le_refl _,fun _ _ _=>rfl⟩
theorem SS.len {hB h h1:AHeap} {v:Value} {a b:Int} {xs ys:List Int} (k:SS hB h v a b xs ys h1):ys.length=xs.length:=k.pi.len
section
variable {P:Program} {tab:Tab} {t:Trie Value} {ds:List Deferred} {rd:Option Nat}
theorem WX.cutA {c:ACode} {h:AHeap} {K:AExit→AFr→AHeap→Prop} (ws:List Nat) (hw:writesOf c=ws) (M:Trie Value→AHeap→Prop) (h1:WX P tab c ⟨t,ds,rd⟩ h (cutK M ds rd K)) (h2:∀ t' h',SameA ws t t'→M t' h'→K .normal ⟨t',ds,rd⟩ h'):WX P tab c ⟨t,ds,rd⟩ h K:=
 (WX.frame h1).mono fun e fr h ⟨hf,hx⟩=>by
  unfold cutK at hx
  cases e with
  |normal=>
   obtain⟨t',ds',rd'⟩:=fr
   obtain⟨e1,e2,e3⟩:=hx
   simp only at e1 e2 e3;subst e1 e2
   exact h2 _ _ (fun j hj=>hf j (by rw[hw];intro hc;have:=notIn_contains hj;simp[hc]at this)) e3
  |exit i=>exact hx
  |goto i=>exact hx
  |ret=>exact hx
theorem WO.bin {d:Nat} {op:BinOp} {x y:Operand} {vx vy v:Value} {h:AHeap} {l:List AOper} {Q:AFr→AHeap→Prop} (hx:Ope t x vx) (hy:Ope t y vy) (e:binV op vx vy=some v) (k:WO P tab l ⟨t.set d v,ds,rd⟩ h Q):WO P tab (⟨some d,none,.bin op x y⟩::l) ⟨t,ds,rd⟩ h Q:=
 WO.o (by
  have hx:ev t x=vx:=hx
  have hy:ev t y=vy:=hy
  simp only[aop,hx,hy,e,Option.map_some]) k
theorem WO.quo {d:Nat} {x:Operand} {a c:Int} {h:AHeap} {l:List AOper} {Q:AFr→AHeap→Prop} (hc:c≠0) (h1: -9223372036854775808≤a.tdiv c) (h2:a.tdiv c≤9223372036854775807) (k:WO P tab l ⟨t.set d (I (a.tdiv c)),ds,rd⟩ h Q) (hx:Ope t x (I a):=by exact ope_):WO P tab (⟨some d,none,.bin .quo x (.const (I c))⟩::l) ⟨t,ds,rd⟩ h Q:=
 WO.bin hx (vy:=I c) rfl (by simp only[binV,if_true,if_neg hc,wrap64 h1 h2]) k
end
end Go.Am
