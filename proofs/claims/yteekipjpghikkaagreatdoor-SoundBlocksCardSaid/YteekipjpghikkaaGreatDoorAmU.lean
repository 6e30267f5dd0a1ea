/- A part of the abstract machine for the model's programs and of the proof that what it yields the model's call yields (definitions, operations, runs, regions that draw their order); no statement of the seat is proved in this text. -/
import Derived.Test.YteekipjpghikkaaGreatDoorAmR
import Derived.Test.YteekipjpghikkaaGreatDoorAmA
import Derived.Test.YteekipjpghikkaaGreatDoorAmD
set_option linter.unusedVariables false
set_option linter.unusedSimpArgs false
namespace Go.Am
def oV (a b:ACode):ACode:= .seq a b
def oJ (c:Nat) (a b:ACode):ACode:= .cond (.tmp c) a b
def o5 (n:Nat) (a:ACode):ACode:= .block n a
def o6 (l:List (AOper×List Nat)):ACode:= .regionC l
instance:Coe AOper (AOper×List Nat):=⟨fun o=>(o,[])⟩
def Slot (t:Trie Value) (k:Nat) (v:Value):Prop:=zB t k=v
def Ope (t:Trie Value) (x:Operand) (v:Value):Prop:=ev t x=v
def zHg (j:Nat):List Nat->Bool
 |[]=>true
 |k::l=>bif Nat.beq j k then false else zHg j l
def zHq (ws:List Nat) (t0 t:Trie Value):Prop:=∀ j,zHg j ws=true->zB t j=zB t0 j
theorem Slot.here {t:Trie Value} {k:Nat} {v:Value}:Slot (t.set k v) k v:=by unfold Slot;rw[z0,QI rfl]
theorem Slot.there {t:Trie Value} {k j:Nat} {v w:Value} (hn:Nat.beq j k=false) (s:Slot t j v):Slot (t.set k w) j v:=by
 unfold Slot at *;rw[z0,QD (fun e=>by subst e;simp at hn)];exact s
theorem Slot.same {ws t0 t j v} (hs:zHq ws t0 t) (hn:zHg j ws=true) (s:Slot t0 j v):Slot t j v:=(hs j hn).trans s
theorem Ope.tmp {t k v} (s:Slot t k v):Ope t (.tmp k) v:=s
theorem Ope.const {t v}:Ope t (.const v) v:=rfl
theorem Ope.fn {t f}:Ope t (.func f) (.func (.func f) #[] #[]):=rfl
theorem Ope.glob {t g}:Ope t (.global g) (.pointer (some ⟨g,0,none⟩)):=rfl
def Opes (t:Trie Value) (xs:List Operand) (vs:List Value):Prop:=xs.map (ev t)=vs
theorem Opes.nil {t}:Opes t [] []:=rfl
theorem Opes.cons {t x xs v vs} (h:Ope t x v) (k:Opes t xs vs):Opes t (x::xs) (v::vs):=by unfold Opes Ope at *;simp[h,k]
def AsN (n:Int) (i:Nat):Prop:=asN (I n)=some i
theorem AsN.nat {i:Nat}:AsN (i:Int) i:=rfl
theorem AsN.lit {n:Int} {i:Nat} (h:n=(i:Int)):AsN n i:=by subst h;rfl
theorem AsN.int {n:Int} (h:0<=n):AsN n n.toNat:=by
 obtain⟨i,rfl⟩:=Int.eq_ofNat_of_zero_le h;rfl
def Parts (t:Trie Value) (ps:List (Nat×Nat×Operand)) (vs:List (Nat×Nat×Value)):Prop:=zl t ps=vs
theorem Parts.nil {t}:Parts t [] []:=rfl
theorem Parts.cons {t a b x ps v vs} (h:Ope t x v) (k:Parts t ps vs):Parts t ((a,b,x)::ps) ((a,b,v)::vs):=by unfold Parts Ope at *;unfold zl at *;simp[h,k]
theorem Zu {j:Nat}:∀ {l:List Nat},zHg j l=true->l.contains j=false
 |[],_=>rfl
 |k::l,h=>by
  unfold zHg at h;cases hb:Nat.beq j k with
  |true=>rw[hb]at h;cases h
  |false=>
   rw[hb]at h;have:=Zu (l:=l) h;simp only[List.contains_cons,this,Qr];have:j≠k:=fun e=>by subst e;simp at hb
   simpa using this
theorem Z1 {t k v} (h:Slot t k v:=by (repeat (first|((with_reducible apply Slot.there);rfl)|((with_reducible apply Slot.same);(with_reducible assumption);rfl)));first|with_reducible exact Slot.here|with_reducible assumption|(unfold Slot;with_reducible assumption)):Slot t k v:=h
theorem zJ {t x v} (h:Ope t x v:=by first|with_reducible exact Ope.const|((with_reducible apply Ope.tmp);(repeat (first|((with_reducible apply Slot.there);rfl)|((with_reducible apply Slot.same);(with_reducible assumption);rfl)));first|with_reducible exact Slot.here|with_reducible assumption|(unfold Slot;with_reducible assumption))|with_reducible exact Ope.fn|with_reducible exact Ope.glob|fail):Ope t x v:=h
theorem zKY {t xs vs} (h:Opes t xs vs:=by (repeat (apply Opes.cons;(exact zJ)));exact Opes.nil):Opes t xs vs:=h
theorem zVd {b:Bool} (h:b=false):(!b)=true:=by rw[h];rfl
theorem zVk {b:Bool} (h:b=true):(!b)=false:=by rw[h];rfl
theorem DB:(∀ a:Prop,∀ [Decidable a],(decide a=true)=a)/\(∀ a:Prop,∀ [Decidable a],(decide a=false)=¬a)/\(∀ b:Bool,((!b)=true)=(b=false))/\(∀ b:Bool,((!b)=false)=(b=true))/\
  (∀ a b:Bool,((a||b)=true)=(a=true\/b=true))/\(∀ a b:Bool,((a&&b)=true)=(a=true/\b=true))/\(∀ a b:Bool,((a||b)=false)=(a=false/\b=false))/\(∀ a b:Bool,((a&&b)=false)=(a=false\/b=false))/\
  (∀ a b:Int,(¬a<b)=(b<=a))/\(∀ a b:Int,(¬a<=b)=(b<a))/\((true=true)=True)/\((false=false)=True)/\((true=false)=False)/\((false=true)=False):=
 ⟨fun a _=>by simp,fun a _=>by simp,fun b=>by simp,fun b=>by simp,fun a b=>by simp,fun a b=>by simp,fun a b=>by simp,fun a b=>by cases a<;>cases b<;>simp,fun a b=>by simp,fun a b=>by simp,by simp,by simp,by simp,by simp⟩
theorem zFN {p:Prop} (h:p:=by first|with_reducible rfl|with_reducible exact Qd|with_reducible exact QU|with_reducible assumption|exact QZ (by first|with_reducible assumption|omega)|exact QT (by first|with_reducible assumption|omega)|exact zVd (by first|with_reducible assumption|exact QT (by first|with_reducible assumption|omega)|fail)|exact zVk (by first|with_reducible assumption|exact QZ (by first|with_reducible assumption|omega)|fail)|(simp only[DB, *];done)|fail):p:=h
theorem zIa {p:Prop} (h:p:=by first|omega|with_reducible assumption|(simp only[GK,GJ,QX,Q2,Gh]at *;omega)):p:=h
theorem zNE {n:Int} {i:Nat} (h:AsN n i:=by first|exact AsN.nat|exact AsN.lit rfl|exact AsN.int (by omega)|fail):AsN n i:=h
theorem zUJ {h:AHeap} {v:Value} {xs:List Int} (s:SlI h v xs:=by first|with_reducible assumption|exact SlI.ext (by with_reducible assumption) (by with_reducible assumption)|exact OwnI.sl (by with_reducible assumption)|exact OwnN.sl (by with_reducible assumption)|fail):SlI h v xs:=s
theorem zJN {o:Option Value} {r:Value} (h:o=some r:=by first|exact(rfl:_=some (Value.agg #[_,_]))|exact(rfl:_=some (Value.agg #[_,_,_]))|exact(rfl:_=some (Value.agg #[_,_,_,_]))|exact(rfl:_=some (Value.agg #[_,_,_,_,_]))|exact(rfl:_=some (Value.agg #[_,_,_,_,_,_]))|exact(rfl:_=some (Value.agg #[_,_,_,_,_,_,_]))|exact(rfl:_=some (Value.agg #[_,_,_,_,_,_,_,_]))|rfl):o=some r:=h
theorem zVa {o:Option (List Value)} {r:List Value} (h:o=some r:=by first|exact(rfl:_=some [_,_])|exact(rfl:_=some [_,_,_])|exact(rfl:_=some [_,_,_,_])|exact(rfl:_=some [_,_,_,_,_])|exact(rfl:_=some [_,_,_,_,_,_])|exact(rfl:_=some [_,_,_,_,_,_,_])|exact(rfl:_=some [_,_,_,_,_,_,_,_])|rfl):o=some r:=h
def zMY (v:Value):Prop:=∃ a k m,v= .slice (some a) k m
section
variable {P:Program} {tab:Tab} {ds:List Deferred} {rd:Option Nat}
variable {h:AHeap} {l:List AOper} {t:Trie Value} {Q:AFr->AHeap->Prop}
theorem R.mov {d:Nat} {x:Operand} {v:Value} (hx:Ope t x v) (k:WO P tab l ⟨t.set d v,ds,rd⟩ h Q):WO P tab (⟨some d,none,.mov x⟩::l) ⟨t,ds,rd⟩ h Q:=
 WO.op _ _ rfl (by unfold Ope at *;simp only[aop,hx]) k
theorem R.add {d:Nat} {x y:Operand} {a b:Int} (hx:Ope t x (I a)) (hy:Ope t y (I b)) (h1: -9223372036854775808<=a+b) (h2:a+b<=9223372036854775807) (k:WO P tab l ⟨t.set d (I (a+b)),ds,rd⟩ h Q):WO P tab (⟨some d,none,.bin .add x y⟩::l) ⟨t,ds,rd⟩ h Q:=
 WO.op _ _ rfl (by unfold Ope at *;simp only[aop,hx,hy,I,zNU,QK];rw[zCu h1 h2]) k
theorem R.sub {d:Nat} {x y:Operand} {a b:Int} (hx:Ope t x (I a)) (hy:Ope t y (I b)) (h1: -9223372036854775808<=a - b) (h2:a - b<=9223372036854775807) (k:WO P tab l ⟨t.set d (I (a - b)),ds,rd⟩ h Q):WO P tab (⟨some d,none,.bin .sub x y⟩::l) ⟨t,ds,rd⟩ h Q:=
 WO.op _ _ rfl (by unfold Ope at *;simp only[aop,hx,hy,I,zOG,QK];rw[zCu h1 h2]) k
theorem R.mul {d:Nat} {x y:Operand} {a b:Int} (hx:Ope t x (I a)) (hy:Ope t y (I b)) (h1: -9223372036854775808<=a * b) (h2:a * b<=9223372036854775807) (k:WO P tab l ⟨t.set d (I (a * b)),ds,rd⟩ h Q):WO P tab (⟨some d,none,.bin .mul x y⟩::l) ⟨t,ds,rd⟩ h Q:=
 WO.op _ _ rfl (by unfold Ope at *;simp only[aop,hx,hy,I,zPQ,QK];rw[zCu h1 h2]) k
theorem R.lss {d:Nat} {x y:Operand} {a b:Int} {kk:IntKind} (hx:Ope t x (.int kk a)) (hy:Ope t y (.int kk b)) (k:WO P tab l ⟨t.set d (.bool (decide (a<b))),ds,rd⟩ h Q):WO P tab (⟨some d,none,.bin .lss x y⟩::l) ⟨t,ds,rd⟩ h Q:=
 WO.op _ _ rfl (by unfold Ope at *;simp only[aop,hx,hy,zOK,QK]) k
theorem R.leq {d:Nat} {x y:Operand} {a b:Int} {kk:IntKind} (hx:Ope t x (.int kk a)) (hy:Ope t y (.int kk b)) (k:WO P tab l ⟨t.set d (.bool (decide (a<=b))),ds,rd⟩ h Q):WO P tab (⟨some d,none,.bin .leq x y⟩::l) ⟨t,ds,rd⟩ h Q:=
 WO.op _ _ rfl (by unfold Ope at *;simp only[aop,hx,hy,zPG,QK]) k
theorem R.gtr {d:Nat} {x y:Operand} {a b:Int} {kk:IntKind} (hx:Ope t x (.int kk a)) (hy:Ope t y (.int kk b)) (k:WO P tab l ⟨t.set d (.bool (decide (b<a))),ds,rd⟩ h Q):WO P tab (⟨some d,none,.bin .gtr x y⟩::l) ⟨t,ds,rd⟩ h Q:=
 WO.op _ _ rfl (by unfold Ope at *;simp only[aop,hx,hy,zO6,QK]) k
theorem R.geq {d:Nat} {x y:Operand} {a b:Int} {kk:IntKind} (hx:Ope t x (.int kk a)) (hy:Ope t y (.int kk b)) (k:WO P tab l ⟨t.set d (.bool (decide (b<=a))),ds,rd⟩ h Q):WO P tab (⟨some d,none,.bin .geq x y⟩::l) ⟨t,ds,rd⟩ h Q:=
 WO.op _ _ rfl (by unfold Ope at *;simp only[aop,hx,hy,zPU,QK]) k
theorem R.eql {d:Nat} {x y:Operand} {a b:Int} {kk:IntKind} (hx:Ope t x (.int kk a)) (hy:Ope t y (.int kk b)) (k:WO P tab l ⟨t.set d (.bool (decide (a=b))),ds,rd⟩ h Q):WO P tab (⟨some d,none,.bin .eql x y⟩::l) ⟨t,ds,rd⟩ h Q:=
 WO.op _ _ rfl (by unfold Ope at *;simp only[aop,hx,hy,zOY,QK]) k
theorem R.neq {d:Nat} {x y:Operand} {a b:Int} {kk:IntKind} (hx:Ope t x (.int kk a)) (hy:Ope t y (.int kk b)) (k:WO P tab l ⟨t.set d (.bool (!decide (a=b))),ds,rd⟩ h Q):WO P tab (⟨some d,none,.bin .neq x y⟩::l) ⟨t,ds,rd⟩ h Q:=
 WO.op _ _ rfl (by unfold Ope at *;simp only[aop,hx,hy,zPb,QK]) k
theorem R.not {d:Nat} {x:Operand} {b:Bool} (hx:Ope t x (.bool b)) (k:WO P tab l ⟨t.set d (.bool (!b)),ds,rd⟩ h Q):WO P tab (⟨some d,none,.un .not x⟩::l) ⟨t,ds,rd⟩ h Q:=
 WO.op _ _ rfl (by unfold Ope at *;simp only[aop,hx,unV,QK]) k
theorem R.eqB {d:Nat} {x y:Operand} {a b:Bool} (hx:Ope t x (.bool a)) (hy:Ope t y (.bool b)) (k:WO P tab l ⟨t.set d (.bool (a == b)),ds,rd⟩ h Q):WO P tab (⟨some d,none,.binB false x y⟩::l) ⟨t,ds,rd⟩ h Q:=
 WO.op _ _ rfl (by unfold Ope at *;simp only[aop,hx,hy];rfl) k
theorem R.neB {d:Nat} {x y:Operand} {a b:Bool} (hx:Ope t x (.bool a)) (hy:Ope t y (.bool b)) (k:WO P tab l ⟨t.set d (.bool (a != b)),ds,rd⟩ h Q):WO P tab (⟨some d,none,.binB true x y⟩::l) ⟨t,ds,rd⟩ h Q:=
 WO.op _ _ rfl (by unfold Ope at *;simp only[aop,hx,hy];rfl) k
theorem R.conv64 {d:Nat} {x:Operand} {n:Int} {k2:IntKind} (hx:Ope t x (.int k2 n)) (h1: -9223372036854775808<=n) (h2:n<=9223372036854775807) (k:WO P tab l ⟨t.set d (I n),ds,rd⟩ h Q):WO P tab (⟨some d,none,.conv .i64 x⟩::l) ⟨t,ds,rd⟩ h Q:=
 WO.op _ _ rfl (by unfold Ope at *;simp only[aop,hx,I];rw[zCu h1 h2]) k
theorem R.conv {d:Nat} {x:Operand} {n:Int} {kk k2:IntKind} (hx:Ope t x (.int k2 n)) (k:WO P tab l ⟨t.set d (.int kk (kk.wrap n)),ds,rd⟩ h Q):WO P tab (⟨some d,none,.conv kk x⟩::l) ⟨t,ds,rd⟩ h Q:=
 WO.op _ _ rfl (by unfold Ope at *;simp only[aop,hx]) k
theorem R.pickT {d:Nat} {c x y:Operand} {v:Value} {b:Bool} (hc:Ope t c (.bool b)) (hb:b=true) (hx:Ope t x v) (k:WO P tab l ⟨t.set d v,ds,rd⟩ h Q):WO P tab (⟨some d,none,.pick c x y⟩::l) ⟨t,ds,rd⟩ h Q:=
 WO.op _ _ rfl (by unfold Ope at *;subst hb;simp only[aop,hc,hx,Qv]) k
theorem R.pickF {d:Nat} {c x y:Operand} {v:Value} {b:Bool} (hc:Ope t c (.bool b)) (hb:b=false) (hy:Ope t y v) (k:WO P tab l ⟨t.set d v,ds,rd⟩ h Q):WO P tab (⟨some d,none,.pick c x y⟩::l) ⟨t,ds,rd⟩ h Q:=
 WO.op _ _ rfl (by unfold Ope at *;subst hb;simp only[aop,hc,hy,Qk,Gp]) k
theorem R.tup2_0 {d:Nat} {x:Operand} {v0 v1:Value} (hx:Ope t x (.tuple #[v0,v1])) (k:WO P tab l ⟨t.set d v0,ds,rd⟩ h Q):WO P tab (⟨some d,none,.extract x 0⟩::l) ⟨t,ds,rd⟩ h Q:=
 WO.op _ _ rfl (by unfold Ope at *;simp only[aop,hx];rfl) k
theorem R.tup2_1 {d:Nat} {x:Operand} {v0 v1:Value} (hx:Ope t x (.tuple #[v0,v1])) (k:WO P tab l ⟨t.set d v1,ds,rd⟩ h Q):WO P tab (⟨some d,none,.extract x 1⟩::l) ⟨t,ds,rd⟩ h Q:=
 WO.op _ _ rfl (by unfold Ope at *;simp only[aop,hx];rfl) k
theorem R.tup3_0 {d:Nat} {x:Operand} {v0 v1 v2:Value} (hx:Ope t x (.tuple #[v0,v1,v2])) (k:WO P tab l ⟨t.set d v0,ds,rd⟩ h Q):WO P tab (⟨some d,none,.extract x 0⟩::l) ⟨t,ds,rd⟩ h Q:=
 WO.op _ _ rfl (by unfold Ope at *;simp only[aop,hx];rfl) k
theorem R.tup3_1 {d:Nat} {x:Operand} {v0 v1 v2:Value} (hx:Ope t x (.tuple #[v0,v1,v2])) (k:WO P tab l ⟨t.set d v1,ds,rd⟩ h Q):WO P tab (⟨some d,none,.extract x 1⟩::l) ⟨t,ds,rd⟩ h Q:=
 WO.op _ _ rfl (by unfold Ope at *;simp only[aop,hx];rfl) k
theorem R.tup3_2 {d:Nat} {x:Operand} {v0 v1 v2:Value} (hx:Ope t x (.tuple #[v0,v1,v2])) (k:WO P tab l ⟨t.set d v2,ds,rd⟩ h Q):WO P tab (⟨some d,none,.extract x 2⟩::l) ⟨t,ds,rd⟩ h Q:=
 WO.op _ _ rfl (by unfold Ope at *;simp only[aop,hx];rfl) k
theorem R.tup4_0 {d:Nat} {x:Operand} {v0 v1 v2 v3:Value} (hx:Ope t x (.tuple #[v0,v1,v2,v3])) (k:WO P tab l ⟨t.set d v0,ds,rd⟩ h Q):WO P tab (⟨some d,none,.extract x 0⟩::l) ⟨t,ds,rd⟩ h Q:=
 WO.op _ _ rfl (by unfold Ope at *;simp only[aop,hx];rfl) k
theorem R.tup4_1 {d:Nat} {x:Operand} {v0 v1 v2 v3:Value} (hx:Ope t x (.tuple #[v0,v1,v2,v3])) (k:WO P tab l ⟨t.set d v1,ds,rd⟩ h Q):WO P tab (⟨some d,none,.extract x 1⟩::l) ⟨t,ds,rd⟩ h Q:=
 WO.op _ _ rfl (by unfold Ope at *;simp only[aop,hx];rfl) k
theorem R.tup4_2 {d:Nat} {x:Operand} {v0 v1 v2 v3:Value} (hx:Ope t x (.tuple #[v0,v1,v2,v3])) (k:WO P tab l ⟨t.set d v2,ds,rd⟩ h Q):WO P tab (⟨some d,none,.extract x 2⟩::l) ⟨t,ds,rd⟩ h Q:=
 WO.op _ _ rfl (by unfold Ope at *;simp only[aop,hx];rfl) k
theorem R.tup4_3 {d:Nat} {x:Operand} {v0 v1 v2 v3:Value} (hx:Ope t x (.tuple #[v0,v1,v2,v3])) (k:WO P tab l ⟨t.set d v3,ds,rd⟩ h Q):WO P tab (⟨some d,none,.extract x 3⟩::l) ⟨t,ds,rd⟩ h Q:=
 WO.op _ _ rfl (by unfold Ope at *;simp only[aop,hx];rfl) k
theorem R.lenC {d:Nat} {n:Nat} (k:WO P tab l ⟨t.set d (I n),ds,rd⟩ h Q):WO P tab (⟨some d,none,.lenC n⟩::l) ⟨t,ds,rd⟩ h Q:=
 WO.op _ _ rfl (by simp only[aop]) k
theorem R.nil {d:Nat} {x:Operand} {kind:Nat} {neg b:Bool} {v:Value} (hx:Ope t x v) (hn:zDj kind v=some b) (k:WO P tab l ⟨t.set d (.bool (if neg then !b else b)),ds,rd⟩ h Q):WO P tab (⟨some d,none,.isNil kind neg x⟩::l) ⟨t,ds,rd⟩ h Q:=
 WO.op _ _ rfl (by unfold Ope at *;simp only[aop,hx,hn,QK]) k
theorem R.lenI {d:Nat} {x:Operand} {v:Value} {xs:List Int} (hx:Ope t x v) (s:SlI h v xs) (k:WO P tab l ⟨t.set d (I xs.length),ds,rd⟩ h Q):WO P tab (⟨some d,none,.len x⟩::l) ⟨t,ds,rd⟩ h Q:=
 WO.op _ _ rfl (by exact SlI.len' hx s) k
theorem R.lenR {d:Nat} {x:Operand} {v:Value} {α:Type} {c:Nat} {R:AHeap->List Value->α->Prop} {xs:List α} (hx:Ope t x v) (s:SlR c R h v xs) (k:WO P tab l ⟨t.set d (I xs.length),ds,rd⟩ h Q):WO P tab (⟨some d,none,.len x⟩::l) ⟨t,ds,rd⟩ h Q:=
 WO.op _ _ rfl (by exact SlR.len' hx s) k
theorem R.idxI {d:Nat} {x y:Operand} {v:Value} {n:Int} {i:Nat} {xs:List Int} (hx:Ope t x v) (hy:Ope t y (I n)) (hi:AsN n i) (s:SlI h v xs) (hl:i<xs.length) (k:WO P tab l ⟨t.set d (zw v i),ds,rd⟩ h Q):WO P tab (⟨some d,none,.idx 1 x y⟩::l) ⟨t,ds,rd⟩ h Q:=
 WO.op _ _ rfl (by unfold Ope at hy;exact SlI.idx' hx (by rw[hy];exact hi) s hl) k
theorem R.idxR {d:Nat} {x y:Operand} {v:Value} {n:Int} {i:Nat} {α:Type} {c:Nat} {R:AHeap->List Value->α->Prop} {xs:List α} (hx:Ope t x v) (hy:Ope t y (I n)) (hi:AsN n i) (s:SlR c R h v xs) (hl:i<xs.length) (k:WO P tab l ⟨t.set d (zw v (i * c)),ds,rd⟩ h Q):WO P tab (⟨some d,none,.idx c x y⟩::l) ⟨t,ds,rd⟩ h Q:=
 WO.op _ _ rfl (by unfold Ope at hy;exact SlR.idx' hx (by rw[hy];exact hi) s hl) k
theorem R.loadI {d:Nat} {x:Operand} {v:Value} {i:Nat} {xs:List Int} (hx:Ope t x (zw v i)) (s:SlI h v xs) (hl:i<xs.length) (k:WO P tab l ⟨t.set d (I (xs.getD i 0)),ds,rd⟩ h Q):WO P tab (⟨some d,none,.load false 1 x⟩::l) ⟨t,ds,rd⟩ h Q:=
 WO.op _ _ rfl (by exact SlI.loadD hx s hl) k
theorem R.pceA {d:Nat} {x:Operand} {v r:Value} {j n off:Nat} {cs:List Value} (hx:Ope t x (zw v (j+off))) (p:Piece h v j cs) (hn:0<n) (hr:(cut cs off n).bind (zG true)=some r) (k:WO P tab l ⟨t.set d r,ds,rd⟩ h Q):WO P tab (⟨some d,none,.load true n x⟩::l) ⟨t,ds,rd⟩ h Q:=
 WO.op _ _ rfl (by exact Piece.load hx p hn hr) k
theorem R.pce {d:Nat} {x:Operand} {v r:Value} {j n off:Nat} {cs:List Value} (hx:Ope t x (zw v (j+off))) (p:Piece h v j cs) (hn:0<n) (hr:(cut cs off n).bind (zG false)=some r) (k:WO P tab l ⟨t.set d r,ds,rd⟩ h Q):WO P tab (⟨some d,none,.load false n x⟩::l) ⟨t,ds,rd⟩ h Q:=
 WO.op _ _ rfl (by exact Piece.load hx p hn hr) k
theorem R.pce0A {d:Nat} {x:Operand} {v r:Value} {j n:Nat} {cs:List Value} (hx:Ope t x (zw v j)) (p:Piece h v j cs) (hn:0<n) (hr:(cut cs 0 n).bind (zG true)=some r) (k:WO P tab l ⟨t.set d r,ds,rd⟩ h Q):WO P tab (⟨some d,none,.load true n x⟩::l) ⟨t,ds,rd⟩ h Q:=
 WO.op _ _ rfl (by exact Piece.load0 hx p hn hr) k
theorem R.pce0 {d:Nat} {x:Operand} {v r:Value} {j n:Nat} {cs:List Value} (hx:Ope t x (zw v j)) (p:Piece h v j cs) (hn:0<n) (hr:(cut cs 0 n).bind (zG false)=some r) (k:WO P tab l ⟨t.set d r,ds,rd⟩ h Q):WO P tab (⟨some d,none,.load false n x⟩::l) ⟨t,ds,rd⟩ h Q:=
 WO.op _ _ rfl (by exact Piece.load0 hx p hn hr) k
theorem R.fldP {d:Nat} {x:Operand} {v:Value} {j off:Nat} (hx:Ope t x (zw v j)) (hv:zMY v) (k:WO P tab l ⟨t.set d (zw v (j+off)),ds,rd⟩ h Q):WO P tab (⟨some d,none,.fld off x⟩::l) ⟨t,ds,rd⟩ h Q:=
 WO.op _ _ rfl (by exact Go.Am.fldP hx hv) k
theorem R.fldC0 {d:Nat} {x:Operand} {p:Value} {off:Nat} {h0:AHeap} {cs:List Value} (hx:Ope t x p) (o:OwnC h0 h p cs) (k:WO P tab l ⟨t.set d (yH p off),ds,rd⟩ h Q):WO P tab (⟨some d,none,.fld off x⟩::l) ⟨t,ds,rd⟩ h Q:=
 WO.op _ _ rfl (by exact OwnC.fld0 hx o) k
theorem R.fldC {d:Nat} {x:Operand} {p:Value} {j off:Nat} {h0:AHeap} {cs:List Value} (hx:Ope t x (yH p j)) (o:OwnC h0 h p cs) (k:WO P tab l ⟨t.set d (yH p (j+off)),ds,rd⟩ h Q):WO P tab (⟨some d,none,.fld off x⟩::l) ⟨t,ds,rd⟩ h Q:=
 WO.op _ _ rfl (by exact OwnC.fld hx o) k
theorem R.idxZ {d:Nat} {x y:Operand} {p:Value} {n:Int} {i len:Nat} {kk:IntKind} {h0:AHeap} {cs:List Value} (hx:Ope t x (yH p 0)) (o:OwnC h0 h p cs) (hy:Ope t y (.int kk n)) (hi:AsN n i) (hl:i<len) (k:WO P tab l ⟨t.set d (yH p i),ds,rd⟩ h Q):WO P tab (⟨some d,none,.idxArr len 1 x y⟩::l) ⟨t,ds,rd⟩ h Q:=
 WO.op _ _ rfl (by unfold Ope at hx hy;have hi2:asN (ev t y)=some i:=(by rw[hy];exact(by cases n<;>rfl:asN (.int kk n)=asN (I n)).trans hi);have:=OwnC.idxArr (P:=P) (ih:=Ex.bot) (c:=1) hx hi2 o hl;rwa [Q4,G9]at this) k
theorem R.idxA0 {d:Nat} {x y:Operand} {p:Value} {n:Int} {i len:Nat} {kk:IntKind} {h0:AHeap} {cs:List Value} (hx:Ope t x p) (o:OwnC h0 h p cs) (hy:Ope t y (.int kk n)) (hi:AsN n i) (hl:i<len) (k:WO P tab l ⟨t.set d (yH p i),ds,rd⟩ h Q):WO P tab (⟨some d,none,.idxArr len 1 x y⟩::l) ⟨t,ds,rd⟩ h Q:=
 WO.op _ _ rfl (by unfold Ope at hx hy;have hi2:asN (ev t y)=some i:=(by rw[hy];exact(by cases n<;>rfl:asN (.int kk n)=asN (I n)).trans hi);have:=OwnC.idxArr0 (P:=P) (ih:=Ex.bot) (c:=1) hx hi2 o hl;rwa [G9]at this) k
theorem R.idxA1 {d:Nat} {x y:Operand} {p:Value} {n:Int} {i j len:Nat} {kk:IntKind} {h0:AHeap} {cs:List Value} (hx:Ope t x (yH p j)) (o:OwnC h0 h p cs) (hy:Ope t y (.int kk n)) (hi:AsN n i) (hl:i<len) (k:WO P tab l ⟨t.set d (yH p (j+i)),ds,rd⟩ h Q):WO P tab (⟨some d,none,.idxArr len 1 x y⟩::l) ⟨t,ds,rd⟩ h Q:=
 WO.op _ _ rfl (by unfold Ope at hx hy;have hi2:asN (ev t y)=some i:=(by rw[hy];exact(by cases n<;>rfl:asN (.int kk n)=asN (I n)).trans hi);have:=OwnC.idxArr (P:=P) (ih:=Ex.bot) (c:=1) hx hi2 o hl;rwa [G9]at this) k
theorem R.loadA {d:Nat} {x:Operand} {p:Value} {q:Nat} {xs:List Int} {h0:AHeap} (hx:Ope t x (yH p q)) (o:OwnC h0 h p (xs.map I)) (hl:q<xs.length) (k:WO P tab l ⟨t.set d (I (xs.getD q 0)),ds,rd⟩ h Q):WO P tab (⟨some d,none,.load false 1 x⟩::l) ⟨t,ds,rd⟩ h Q:=
 WO.op _ _ rfl (by refine OwnC.load hx o ?_;have h1:(xs.map I).drop q=I xs[q]::(xs.map I).drop (q+1):=(by rw[Qx (by simpa using hl),List.getElem_map]);have hc:cut (xs.map I) q 1=some [I (xs.getD q 0)]:=(by rw[yo (by simp;omega),h1];simp[List.getD,QB hl]);rw[hc];rfl) k
theorem R.loadC0A {d:Nat} {x:Operand} {p r:Value} {n:Nat} {h0:AHeap} {cs:List Value} (hx:Ope t x p) (o:OwnC h0 h p cs) (hr:(cut cs 0 n).bind (zG true)=some r) (k:WO P tab l ⟨t.set d r,ds,rd⟩ h Q):WO P tab (⟨some d,none,.load true n x⟩::l) ⟨t,ds,rd⟩ h Q:=
 WO.op _ _ rfl (by exact OwnC.load0 hx o hr) k
theorem R.loadC0 {d:Nat} {x:Operand} {p r:Value} {n:Nat} {h0:AHeap} {cs:List Value} (hx:Ope t x p) (o:OwnC h0 h p cs) (hr:(cut cs 0 n).bind (zG false)=some r) (k:WO P tab l ⟨t.set d r,ds,rd⟩ h Q):WO P tab (⟨some d,none,.load false n x⟩::l) ⟨t,ds,rd⟩ h Q:=
 WO.op _ _ rfl (by exact OwnC.load0 hx o hr) k
theorem R.loadCA {d:Nat} {x:Operand} {p r:Value} {n j:Nat} {h0:AHeap} {cs:List Value} (hx:Ope t x (yH p j)) (o:OwnC h0 h p cs) (hr:(cut cs j n).bind (zG true)=some r) (k:WO P tab l ⟨t.set d r,ds,rd⟩ h Q):WO P tab (⟨some d,none,.load true n x⟩::l) ⟨t,ds,rd⟩ h Q:=
 WO.op _ _ rfl (by exact OwnC.load hx o hr) k
theorem R.loadC {d:Nat} {x:Operand} {p r:Value} {n j:Nat} {h0:AHeap} {cs:List Value} (hx:Ope t x (yH p j)) (o:OwnC h0 h p cs) (hr:(cut cs j n).bind (zG false)=some r) (k:WO P tab l ⟨t.set d r,ds,rd⟩ h Q):WO P tab (⟨some d,none,.load false n x⟩::l) ⟨t,ds,rd⟩ h Q:=
 WO.op _ _ rfl (by exact OwnC.load hx o hr) k
theorem R.partA {d:Nat} {x:Operand} {off n:Nat} {r:Value} {cs:Array Value} (hx:Ope t x (.agg cs)) (hr:(cut cs.toList off n).bind (zG true)=some r) (k:WO P tab l ⟨t.set d r,ds,rd⟩ h Q):WO P tab (⟨some d,none,.part true off n x⟩::l) ⟨t,ds,rd⟩ h Q:=
 WO.op _ _ rfl (by unfold Ope at *;simp only[aop,hx,hr,QK]) k
theorem R.part {d:Nat} {x:Operand} {off n:Nat} {r:Value} {cs:Array Value} (hx:Ope t x (.agg cs)) (hr:(cut cs.toList off n).bind (zG false)=some r) (k:WO P tab l ⟨t.set d r,ds,rd⟩ h Q):WO P tab (⟨some d,none,.part false off n x⟩::l) ⟨t,ds,rd⟩ h Q:=
 WO.op _ _ rfl (by unfold Ope at *;simp only[aop,hx,hr,QK]) k
theorem R.idxG {d:Nat} {len c g:Nat} {y:Operand} {n:Int} {i:Nat} {kk:IntKind} (hy:Ope t y (.int kk n)) (hi:AsN n i) (hl:i<len) (k:WO P tab l ⟨t.set d (.pointer (some ⟨g,0+i * c,none⟩)),ds,rd⟩ h Q):WO P tab (⟨some d,none,.idxArr len c (.global g) y⟩::l) ⟨t,ds,rd⟩ h Q:=
 WO.op _ _ rfl (by unfold Ope at hy;have hb:Nat.ble (i+1) len=true:=QH hl;have hi2:asN (ev t y)=some i:=(by rw[hy];exact(by cases n<;>rfl:asN (.int kk n)=asN (I n)).trans hi);simp only[aop,hi2];simp only[ev,hb,Qs,Qu,cond_true]) k
theorem R.loadG {d:Nat} {x:Operand} {g off n:Nat} {r:Value} {cells:List Value} (hx:Ope t x (.pointer (some ⟨g,off,none⟩))) (hg:zk h g=some cells) (hr:(cut cells off n).bind (zG true)=some r) (k:WO P tab l ⟨t.set d r,ds,rd⟩ h Q):WO P tab (⟨some d,none,.load true n x⟩::l) ⟨t,ds,rd⟩ h Q:=
 WO.op _ _ rfl (by unfold Ope at *;simp only[aop,hx,hg,Qs,cond_true,QP,hr,QK]) k
theorem R.agg {d:Nat} {zero:List Value} {parts:List (Nat×Nat×Operand)} {vs:List (Nat×Nat×Value)} {cells:List Value} (hp:Parts t parts vs) (hf:yx zero vs=some cells) (k:WO P tab l ⟨t.set d (.agg cells.toArray),ds,rd⟩ h Q):WO P tab (⟨some d,none,.build zero parts⟩::l) ⟨t,ds,rd⟩ h Q:=
 WO.op _ _ rfl (by unfold Parts at hp;simp only[aop,hp,hf,QK]) k
theorem R.nck {d:Nat} {x:Operand} {a:Addr} (hx:Ope t x (.pointer (some a))) (k:WO P tab l ⟨t.set d (.pointer (some a)),ds,rd⟩ h Q):WO P tab (⟨some d,none,.nilCheck x⟩::l) ⟨t,ds,rd⟩ h Q:=
 WO.op _ _ rfl (by unfold Ope at *;simp only[aop,hx,Yl,QK]) k
theorem R.lenM {d:Nat} {x:Operand} {m:Value} {es:List (Int×Int)} {h0:AHeap} (hx:Ope t x m) (o:OwnM h0 h m es) (k:WO P tab l ⟨t.set d (I es.length),ds,rd⟩ h Q):WO P tab (⟨some d,none,.lenMap x⟩::l) ⟨t,ds,rd⟩ h Q:=
 WO.op _ _ rfl (by unfold Ope at *;obtain⟨g,c,es',_,_,rfl,hg,he⟩:=o;have hl:es'.length=es.length:=(by have:=congrArg List.length he;simpa using this);simp only[aop,hx,hg,hl]) k
theorem R.lkN {d:Nat} {mm ky:Operand} {z m:Value} {a:Int} {es:List (Int×Int)} {h0:AHeap} (hx:Ope t mm m) (hk:Ope t ky (I a)) (o:OwnM h0 h m es) (hl:es.lookup a=none) (k:WO P tab l ⟨t.set d (.tuple #[z,.bool false]),ds,rd⟩ h Q):WO P tab (⟨some d,none,.lookup true z mm ky⟩::l) ⟨t,ds,rd⟩ h Q:=
 WO.op _ _ rfl (by unfold Ope at *;obtain⟨g,c,es',_,_,rfl,hg,he⟩:=o;simp only[aop,hx,hk,hg,Yg 0 he hl,Qv]) k
theorem R.lkS {d:Nat} {mm ky:Operand} {z m:Value} {a v:Int} {es:List (Int×Int)} {h0:AHeap} (hx:Ope t mm m) (hk:Ope t ky (I a)) (o:OwnM h0 h m es) (hl:es.lookup a=some v) (k:WO P tab l ⟨t.set d (.tuple #[I v,.bool true]),ds,rd⟩ h Q):WO P tab (⟨some d,none,.lookup true z mm ky⟩::l) ⟨t,ds,rd⟩ h Q:=
 WO.op _ _ rfl (by unfold Ope at *;obtain⟨g,c,es',_,_,rfl,hg,he⟩:=o;obtain⟨j,hj⟩:=zDA 0 he hl;simp only[aop,hx,hk,hg,hj,Qv]) k
theorem R.fun {d:Nat} {f:FuncId} {xs ys:List Operand} {vs us:List Value} (hx:Opes t xs vs) (hy:Opes t ys us) (k:WO P tab l ⟨t.set d (.func (.func f) vs.toArray us.toArray),ds,rd⟩ h Q):WO P tab (⟨some d,none,.mkFunc (.func f) xs ys⟩::l) ⟨t,ds,rd⟩ h Q:=
 WO.op _ _ rfl (by unfold Opes at *;simp only[aop,hx,hy]) k
theorem R.gT {d:Option Nat} {j:Nat} {want b:Bool} {op:AOp} (s:Slot t j (.bool b)) (hb:b=want) (k:WO P tab (⟨d,none,op⟩::l) ⟨t,ds,rd⟩ h Q):WO P tab (⟨d,some (j,want),op⟩::l) ⟨t,ds,rd⟩ h Q:=
 WO.guardT (hb▸s) k
theorem R.gF1 {d j:Nat} {b:Bool} {op:AOp} (s:Slot t j (.bool b)) (hb:b=false) (k:WO P tab l ⟨t.set d undef,ds,rd⟩ h Q):WO P tab (⟨some d,some (j,true),op⟩::l) ⟨t,ds,rd⟩ h Q:=by
 subst hb;exact WO.guardF s k
theorem R.gF2 {d j:Nat} {b:Bool} {op:AOp} (s:Slot t j (.bool b)) (hb:b=true) (k:WO P tab l ⟨t.set d undef,ds,rd⟩ h Q):WO P tab (⟨some d,some (j,false),op⟩::l) ⟨t,ds,rd⟩ h Q:=by
 subst hb;exact WO.guardF s k
theorem R.gU {d j:Nat} {want:Bool} {op:AOp} (s:Slot t j undef) (k:WO P tab l ⟨t.set d undef,ds,rd⟩ h Q):WO P tab (⟨some d,some (j,want),op⟩::l) ⟨t,ds,rd⟩ h Q:=
 WO.guardU s k
theorem WO.sp {d:Option Nat} {j:Nat} {want b:Bool} {op:AOp} (h1:b=true->WO P tab (⟨d,some (j,want),op⟩::l) ⟨t,ds,rd⟩ h Q) (h2:b=false->WO P tab (⟨d,some (j,want),op⟩::l) ⟨t,ds,rd⟩ h Q) (s:Slot t j (.bool b):=by exact Z1):
  WO P tab (⟨d,some (j,want),op⟩::l) ⟨t,ds,rd⟩ h Q:=by
 cases b with
 |true=>exact h1 rfl
 |false=>exact h2 rfl
theorem WO.con {d:Nat} {f:FuncId} {args:List Operand} {as:List Value} {R:Value->AHeap->Prop} (hc:WC P tab f as h R) (k:∀ v h',R v h'->WO P tab l ⟨t.set d v,ds,rd⟩ h' Q) (ha:Opes t args as:=by exact zKY):
  WO P tab (⟨some d,none,.call (.func f) args⟩::l) ⟨t,ds,rd⟩ h Q:=WO.call ha (hc.mono k)
theorem WO.conV {d:Nat} {f:Operand} {fv:Value} {args:List Operand} {as:List Value} {R:Value->AHeap->Prop} (hc:WV P tab fv as h R) (k:∀ v h',R v h'->WO P tab l ⟨t.set d v,ds,rd⟩ h' Q) (hf:Ope t f fv:=by exact zJ) (ha:Opes t args as:=by exact zKY):
  WO P tab (⟨some d,none,.call f args⟩::l) ⟨t,ds,rd⟩ h Q:=WO.callv hf ha (hc.mono k)
theorem WO.al {d:Nat} {zero:List Value} (k:∀ p h',Ext h h'->OwnC h h' p zero->WO P tab l ⟨t.set d p,ds,rd⟩ h' Q):WO P tab (⟨some d,none,.alloc zero⟩::l) ⟨t,ds,rd⟩ h Q:=WO.allocC k
theorem WO.stC0 {x y:Operand} {p v:Value} {cells cs:List Value} {n:Nat} {h0:AHeap} (o:OwnC h0 h p cells) (e0:Ext h0 h) (k:∀ h',Ext h0 h'->OwnC h0 h' p cs->UpdC p h h'->WO P tab l ⟨t,ds,rd⟩ h' Q)
  (hx:Ope t x p:=by exact zJ) (hy:Ope t y v:=by exact zJ) (hv:v.cells=cs.toArray:=by rfl) (hn:cs.length=n:=by rfl) (hl:cells.length=n:=by rfl) (h1:zN cs=true:=by rfl):WO P tab (⟨none,none,.store n x y⟩::l) ⟨t,ds,rd⟩ h Q:=
 WO.storeC0 hx hy hv h1 hn o e0 hl k
theorem WO.stC {x y:Operand} {p v:Value} {cells cs:List Value} {n j:Nat} {h0:AHeap} (o:OwnC h0 h p cells) (e0:Ext h0 h) (k:∀ h',Ext h0 h'->OwnC h0 h' p (zX cells j cs)->UpdC p h h'->WO P tab l ⟨t,ds,rd⟩ h' Q)
  (hx:Ope t x (yH p j):=by exact zJ) (hy:Ope t y v:=by exact zJ) (hv:v.cells=cs.toArray:=by rfl) (hn:cs.length=n:=by rfl) (hl:j+n<=cells.length:=by decide) (h1:zN cs=true:=by rfl):WO P tab (⟨none,none,.store n x y⟩::l) ⟨t,ds,rd⟩ h Q:=
 WO.storeC hx hy hv h1 hn o e0 hl k
theorem WO.bl {d n:Nat} {zero:List Value} {parts:List (Nat×Nat×Operand)} {vs:List (Nat×Nat×Value)} (xs:List Int) (k:∀ v h',Ext h h'->OwnI h h' v xs->WO P tab l ⟨t.set d v,ds,rd⟩ h' Q)
  (hp:Parts t parts vs:=by (repeat (apply Parts.cons;(exact zJ)));exact Parts.nil) (hn:xs.length=n:=by rfl) (hf:yx (zV zero n) vs=some (xs.map I):=by rfl):WO P tab (⟨some d,none,.buildSlice n 1 zero parts⟩::l) ⟨t,ds,rd⟩ h Q:=
 WO.buildI xs hn (by unfold Parts at hp;rw[hp];exact hf) k
theorem WO.apN {d:Nat} {x y:Operand} {v w:Value} {xs ys:List Int} {h0:AHeap} (o:OwnN h0 h v xs) (s:SlI h w ys) (e0:Ext h0 h) (hr:xs.length+ys.length<=4294967296) (k:∀ v' h',Ext h0 h'->OwnN h0 h' v' (xs++ys)->WO P tab l ⟨t.set d v',ds,rd⟩ h' Q)
  (hx:Ope t x v:=by exact zJ) (hy:Ope t y w:=by exact zJ):WO P tab (⟨some d,none,.append 1 x y⟩::l) ⟨t,ds,rd⟩ h Q:=by
 by_cases hne:ys=[]
 ·subst hne;have hsrc:yc 1 h w=some []:=by simpa using ZT s
  have hv:∃ a n k,v= .slice a n k/\(a=none->n=0/\k=0):=by
   rcases o with ⟨rfl,_⟩|⟨g,_,_,rfl,_⟩
   ·exact⟨_,_,_,rfl,fun _=>⟨rfl,rfl⟩⟩
   ·exact⟨_,_,_,rfl,fun h=>by cases h⟩
  refine WO.op v h rfl ?_ (k v h e0 (by simpa using o));unfold Ope at hx hy;obtain⟨a,n,kk,rfl,ha⟩:=hv;cases a with
  |none=>obtain⟨rfl,rfl⟩:=ha rfl;simp only[aop,hx,hy,yI,hsrc]
  |some a=>simp only[aop,hx,hy,yI,hsrc]
 ·exact WO.appendI hx hy o s e0 hne hr fun v' h' a b _=>k v' h' a (.inr b)
theorem WO.bp {d:Nat} {op:BinOp} {ty:TypeId} {x y:Operand} {a b v:Value} (hp:zP P (do eqGuard op ty x y a b;binOp op ty a b)=some v) (k:WO P tab l ⟨t.set d v,ds,rd⟩ h Q)
  (hx:Ope t x a:=by exact zJ) (hy:Ope t y b:=by exact zJ) (hc:(Ye a&&Ye b)=true:=by rfl) (hv:yR v=true:=by rfl):WO P tab (⟨some d,none,.binP op ty x y⟩::l) ⟨t,ds,rd⟩ h Q:=by
 unfold Ope at hx hy;refine WO.op v h rfl ?_ k;simp only[aop,hx,hy,hc,cond_true,hp,hv]
def zVh (M:Trie Value->AHeap->Prop) (ds:List Deferred) (rd:Option Nat):AFr->AHeap->Prop:=fun fr h=>fr.dfs=ds/\fr.round=rd/\M fr.tm h
theorem zBZ {ih:Ex}:∀ (a b:List AOper) (fr:AFr) (h:AHeap),yT P ih (a++b) fr h=(yT P ih a fr h).bind fun p=>yT P ih b p.1 p.2
 |[],b,fr,h=>rfl
 |o::a,b,fr,h=>by
  simp only[List.cons_append,yT];cases z8 P ih o fr h with
  |none=>rfl
  |some p=>obtain⟨fr1,h1⟩:=p;exact zBZ a b fr1 h1
theorem WO.mid (n:Nat) (M:Trie Value->AHeap->Prop) {ws:List Nat} (h1:WO P tab (l.take n) ⟨t,ds,rd⟩ h (zVh M ds rd)) (h2:∀ t' h',zHq ws t t'->M t' h'->WO P tab (l.drop n) ⟨t',ds,rd⟩ h' Q) (hw:(l.take n).filterMap (·.dst)=ws:=by rfl):WO P tab l ⟨t,ds,rd⟩ h Q:=by
 subst hw;unfold WO at h1;obtain⟨fr1,h',⟨q1,q2,q3⟩,ev1⟩:=h1;obtain⟨t1,ds1,rd1⟩:=fr1;simp only at q1 q2 q3;subst q1 q2;have hs:zHq ((l.take n).filterMap (·.dst)) t t1:=by
  intro j hj;obtain⟨N,a⟩:=(show ∃ N,∀ n',N<=n'->_ from by unfold Ev at ev1;exact ev1);exact zCb (a N (QF _)) (fun hm=>by
   have:=Zu hj;rw[List.contains_eq_mem,JH]at this;exact this hm)
 have:=h2 t1 h' hs q3;unfold WO at this |-;obtain⟨fr2,h2',q,ev2⟩:=this;refine⟨fr2,h2',q,(ev1.and ev2).mono fun k ⟨e1,e2⟩=> ?_⟩;rw[<-Gb n l,zBZ,e1];exact e2
theorem WO.slLo {d c i:Nat} {x y:Operand} {v r:Value} (hr:ZL c v (some i) none none=some r) (k:WO P tab l ⟨t.set d r,ds,rd⟩ h Q) (hx:Ope t x v:=by exact zJ) (hy:Ope t y (I (i:Int)):=by exact zJ):
  WO P tab (⟨some d,none,.slice c x (some y) none none⟩::l) ⟨t,ds,rd⟩ h Q:=by
 unfold Ope at hx hy;refine WO.op r h rfl ?_ k;have:asN (I (i:Int))=some i:=rfl;simp only[aop,zAI,hx,hy,this,QK,hr]
theorem WO.slHi {d c i:Nat} {x y:Operand} {v r:Value} (hr:ZL c v none (some i) none=some r) (k:WO P tab l ⟨t.set d r,ds,rd⟩ h Q) (hx:Ope t x v:=by exact zJ) (hy:Ope t y (I (i:Int)):=by exact zJ):
  WO P tab (⟨some d,none,.slice c x none (some y) none⟩::l) ⟨t,ds,rd⟩ h Q:=by
 unfold Ope at hx hy;refine WO.op r h rfl ?_ k;have:asN (I (i:Int))=some i:=rfl;simp only[aop,zAI,hx,hy,this,QK,hr]
theorem WO.clS {c:Nat} {zero:List Value} {x:Operand} {v:Value} {h':AHeap} (hr:zBR c zero v h=some (.tuple #[],h')) (k:WO P tab l ⟨t,ds,rd⟩ h' Q) (hx:Ope t x v:=by exact zJ):
  WO P tab (⟨none,none,.clearS c zero x⟩::l) ⟨t,ds,rd⟩ h Q:=by
 unfold Ope at hx;exact WO.op0 (.tuple #[]) h' rfl (by simp only[aop,hx,hr]) k
theorem WO.bx {d:Nat} {x:Operand} {v:Value} (k:∀ p h',Ext h h'->OwnC h h' p v.cells.toList->WO P tab l ⟨t.set d p,ds,rd⟩ h' Q) (hx:Ope t x v:=by exact zJ):
  WO P tab (⟨some d,none,.box x⟩::l) ⟨t,ds,rd⟩ h Q:=WO.boxC v.cells.toList (by unfold Ope at hx;rw[hx]) k
theorem WX.cT {c:Operand} {x y:ACode} {K:AExit->AFr->AHeap->Prop} {b:Bool} (s:Ope t c (.bool b)) (hb:b=true) (h1:WX P tab x ⟨t,ds,rd⟩ h K):WX P tab (.cond c x y) ⟨t,ds,rd⟩ h K:=
 WX.condT (hb▸s) h1
theorem WX.cF {c:Operand} {x y:ACode} {K:AExit->AFr->AHeap->Prop} {b:Bool} (s:Ope t c (.bool b)) (hb:b=false) (h1:WX P tab y ⟨t,ds,rd⟩ h K):WX P tab (.cond c x y) ⟨t,ds,rd⟩ h K:=
 WX.condF (hb▸s) h1
theorem WX.br {c:Operand} {x y:ACode} {K:AExit->AFr->AHeap->Prop} {b:Bool} (h1:b=true->WX P tab x ⟨t,ds,rd⟩ h K) (h2:b=false->WX P tab y ⟨t,ds,rd⟩ h K) (s:Ope t c (.bool b):=by exact zJ):WX P tab (.cond c x y) ⟨t,ds,rd⟩ h K:=
 WX.cond b s h1 h2
theorem sl_ {k:Nat} {v:Value} (s:Slot t k v:=by (repeat (first|((with_reducible apply Slot.there);rfl)|((with_reducible apply Slot.same);(with_reducible assumption);rfl)));first|with_reducible exact Slot.here|with_reducible assumption|(unfold Slot;with_reducible assumption)|exact Slot.here):zB t k=v:=s
theorem sln {k i:Nat} (s:Slot t k (I ((i:Int)+1)):=by (repeat (first|((with_reducible apply Slot.there);rfl)|((with_reducible apply Slot.same);(with_reducible assumption);rfl)));first|with_reducible exact Slot.here|with_reducible assumption|(unfold Slot;with_reducible assumption)|exact Slot.here):zB t k=I ((i+1:Nat):Int):=s
def Res (h:AHeap) (t:Trie Value) (rs:List (Nat×Option (Bool×Nat))) (vs:List Value):Prop:=zu h t rs=some vs
theorem Res.nil:Res h t [] []:=rfl
theorem Res.cons {j:Nat} {v:Value} {rs:List (Nat×Option (Bool×Nat))} {vs:List Value} (s:Slot t j v) (k:Res h t rs vs):Res h t ((j,none)::rs) (v::vs):=by
 unfold Res at *;unfold Slot at s;simp only[zu,YS,s,k]
theorem Res.consA {j n:Nat} {p v:Value} {h0:AHeap} {cs:List Value} {rs:List (Nat×Option (Bool×Nat))} {vs:List Value} (s:Slot t j p) (o:OwnC h0 h p cs) (hr:(cut cs 0 n).bind (zG true)=some v) (k:Res h t rs vs):Res h t ((j,some (true,n))::rs) (v::vs):=by
 obtain⟨g,_,_,rfl,hg⟩:=o;unfold Res at *;unfold Slot at s;simp only[zu,YS,s,ZZ hg,Qs,cond_true,QP,hr,k]
theorem rt {rs:List (Nat×Option (Bool×Nat))} {Q:Value->AHeap->Prop} {vs:List Value} (hq:Q (one vs) h) (r:Res h t rs vs:=by (repeat (first|(apply Res.cons;(exact Z1))|(apply Res.consA;(exact Z1);(with_reducible assumption);(exact zJN))));exact Res.nil):zE4 P tab rs Q .ret ⟨t,[],rd⟩ h:=zO9 r hq
theorem rtN {rs:List (Nat×Option (Bool×Nat))} {Q:Value->AHeap->Prop} {vs:List Value} (hq:Q (one vs) h) (r:Res h t rs vs:=by (repeat (first|(apply Res.cons;(exact Z1))|(apply Res.consA;(exact Z1);(with_reducible assumption);(exact zJN))));exact Res.nil):zE4 P tab rs Q .normal ⟨t,[],rd⟩ h:=zIx r hq
theorem WX.loopA (ws:List Nat) {α:Type} {b:ACode} {K:AExit->AFr->AHeap->Prop} (hw:z9 b=ws) (μ:α->Nat) (I:α->Trie Value->AHeap->Prop) (x:α) (h0:I x t h)
  (hb:∀ x t' h',zHq ws t t'->I x t' h'->WX P tab b ⟨t',ds,rd⟩ h' (zCP μ I x ds rd K)):WX P tab (.loop b) ⟨t,ds,rd⟩ h K:=
 WX.loopF μ I x h0 fun x t' h' hs hi=>hb x t' h' (fun j hj=>hs j (by rw[hw];exact Zu hj)) hi
structure Wrap (G:Prop):Prop where
 out:G
theorem go {G' G:Prop} (k:G') (r:Wrap G'->G:=by
  intro hgo;repeat (first|refine WX.seq ?_|refine WX.region ?_|(apply R.mov;(exact zJ))|(apply R.add;(exact zJ);(exact zJ);(omega);(omega))|(apply R.sub;(exact zJ);(exact zJ);(omega);(omega))|(apply R.mul;(exact zJ);(exact zJ);(omega);(omega))|(apply R.lss;(exact zJ);(exact zJ))|(apply R.leq;(exact zJ);(exact zJ))|(apply R.gtr;(exact zJ);(exact zJ))|(apply R.geq;(exact zJ);(exact zJ))|(apply R.eql;(exact zJ);(exact zJ))|(apply R.neq;(exact zJ);(exact zJ))|(apply R.not;(exact zJ))|(apply R.eqB;(exact zJ);(exact zJ))|(apply R.neB;(exact zJ);(exact zJ))|(apply R.conv64;(exact zJ);(omega);(omega))|(apply R.conv;(exact zJ))|(apply R.pickT;(exact zJ);(exact zFN);(exact zJ))|(apply R.pickF;(exact zJ);(exact zFN);(exact zJ))|(apply R.tup2_0;(exact zJ))|(apply R.tup2_1;(exact zJ))|(apply R.tup3_0;(exact zJ))|(apply R.tup3_1;(exact zJ))|(apply R.tup3_2;(exact zJ))|(apply R.tup4_0;(exact zJ))|(apply R.tup4_1;(exact zJ))|(apply R.tup4_2;(exact zJ))|(apply R.tup4_3;(exact zJ))|(apply R.lenC)|(apply R.nil;(exact zJ);(rfl))|(apply R.lenI;(exact zJ);(exact zUJ))|(apply R.lenR;(exact zJ);(with_reducible assumption))|(apply R.idxI;(exact zJ);(exact zJ);(exact zNE);(exact zUJ);(exact zIa))|(apply R.idxR;(exact zJ);(exact zJ);(exact zNE);(with_reducible assumption);(exact zIa))|(apply R.loadI;(exact zJ);(exact zUJ);(exact zIa))|(apply R.pceA;(exact zJ);(with_reducible assumption);(decide);(exact zJN))|(apply R.pce;(exact zJ);(with_reducible assumption);(decide);(rfl))|(apply R.pce0A;(exact zJ);(with_reducible assumption);(decide);(exact zJN))|(apply R.pce0;(exact zJ);(with_reducible assumption);(decide);(rfl))|(apply R.fldP;(exact zJ);(with_reducible assumption))|(apply R.fldC0;(exact zJ);(with_reducible assumption))|(apply R.fldC;(exact zJ);(with_reducible assumption))|(apply R.idxZ;(exact zJ);(with_reducible assumption);(exact zJ);(exact zNE);(exact zIa))|(apply R.idxA0;(exact zJ);(with_reducible assumption);(exact zJ);(exact zNE);(exact zIa))|(apply R.idxA1;(exact zJ);(with_reducible assumption);(exact zJ);(exact zNE);(exact zIa))|(apply R.loadA;(exact zJ);(with_reducible assumption);(exact zIa))|(apply R.loadC0A;(exact zJ);(with_reducible assumption);(exact zJN))|(apply R.loadC0;(exact zJ);(with_reducible assumption);(rfl))|(apply R.loadCA;(exact zJ);(with_reducible assumption);(exact zJN))|(apply R.loadC;(exact zJ);(with_reducible assumption);(rfl))|(apply R.partA;(exact zJ);(exact zJN))|(apply R.part;(exact zJ);(rfl))|(apply R.idxG;(exact zJ);(exact zNE);(exact zIa))|(apply R.loadG;(exact zJ);(with_reducible assumption);(with_reducible assumption))|(apply R.agg;((repeat (apply Parts.cons;(exact zJ)));exact Parts.nil);(exact zVa))|(apply R.nck;(exact zJ))|(apply R.lenM;(exact zJ);(with_reducible assumption))|(apply R.lkN;(exact zJ);(exact zJ);(with_reducible assumption);(with_reducible assumption))|(apply R.lkS;(exact zJ);(exact zJ);(with_reducible assumption);(with_reducible assumption))|(apply R.fun;(exact zKY);(exact zKY))|(apply R.gT;(exact Z1);(exact zFN))|(apply R.gF1;(exact Z1);(exact zFN))|(apply R.gF2;(exact Z1);(exact zFN))|(apply R.gU;(exact Z1))|refine WO.nil ?_|refine Zz ?_|refine WX.skip ?_|refine WX.block ?_|refine WX.exit ?_|refine zDR ?_|refine zBd ?_|refine zEF ?_|refine zBH rfl ?_|refine zEi ?_|refine WX.ret ?_|refine zFh ?_|refine zEN ?_|refine zGE ?_|(apply WX.cT;(exact zJ);(exact zFN))|(apply WX.cF;(exact zJ);(exact zFN))|refine WX.label ?_|refine WX.goto ?_|refine zFK ?_|refine zDK ?_|refine zEh ?_|refine WX.regionC_quiet rfl ?_)
  exact hgo.out):G:=r ⟨k⟩
theorem gr {G' G:Prop} (k:G') (r:Wrap G'->G:=by
  intro hgo;refine go ?_;refine rt ?_;exact hgo.out):G:=r ⟨k⟩
theorem goC {G' G:Prop} (k:G') (r:Wrap G'->G:=by
  intro hgo;repeat (first|refine WX.seq ?_|refine WX.region ?_|refine WO.nil ?_|refine Zz ?_|refine WX.skip ?_|refine WX.block ?_|refine WX.exit ?_|refine zDR ?_|refine zBd ?_|refine zEF ?_|refine zBH rfl ?_|refine zEi ?_|refine WX.ret ?_|refine zFh ?_|refine zEN ?_|refine zGE ?_|(apply WX.cT;(exact zJ);(exact zFN))|(apply WX.cF;(exact zJ);(exact zFN))|refine WX.label ?_|refine WX.goto ?_|refine zFK ?_|refine zDK ?_|refine zEh ?_|refine WX.regionC_quiet rfl ?_)
  exact hgo.out):G:=r ⟨k⟩
end
section
variable {P:Program}
theorem zI {α β:Type} (x:Sem α) (f:α->Sem β):zP P (x>>=f)=(zP P x).bind fun a=>zP P (f a):=by
 show zP P (x.bind f)=_;induction x with
 |pure a=>rfl
 |program k ih=>simp only[Sem.bind,zP];exact ih _
 |mark m k ih=>simp only[Sem.bind,zP];exact ih
 |_=>simp[Sem.bind,zP]
theorem zGv {α:Type} (a:α):zP P (pure a)=some a:=rfl
theorem yG:zP P program=some P:=rfl
theorem yV {t:TypeId} {d:TypeDesc} (h:P.underlying t=some d):zP P (underlying t)=some d:=by
 unfold underlying;rw[zI,yG];simp only[QP,h];rfl
def zDf:Value->Value->Bool
 | .int _ a,.int _ b=>a == b
 | .bool a,.bool b=>a == b
 |_,_=>false
def zPJ (P:Program) (f:Field):Value->Value->Bool
 | .int k _,.int k' _=>decide (k=k')&&(match P.underlying f.type with|some (.int _)=>true|_=>false)
 | .bool _,.bool _=>(match P.underlying f.type with|some .bool=>true|_=>false)
 |_,_=>false
def zC3 (P:Program):List Field->Nat->List Value->List Value->Bool
 |[],_,[],[]=>true
 |f::fs,i,x::xs,y::ys=>(f.name != "_")&&Nat.beq f.offset i&&(match zP P (isAgg f.type)with|some false=>true|_=>false)&&zPJ P f x y&&zC3 P fs (i+1) xs ys
 |_,_,_,_=>false
def YZ:List Value->List Value->Bool
 |x::xs,y::ys=>zDf x y&&YZ xs ys
 |_,_=>true
theorem zLl {f:Field} {x y:Value} {d:Nat} (h:zPJ P f x y=true):zP P (Op.equalIn (d+1) f.type x y)=some (zDf x y):=by
 unfold zPJ at h;split at h
 ·rename_i k a k' b;rw[QJ]at h;obtain⟨h1,h2⟩:=h;have h1:=G2 h1;subst h1;split at h2;case h_2=>cases h2
  rename_i k2 hu;rw[Op.equalIn,zI,yV hu];simp only[QP,Qv];rfl
 ·split at h;case h_2=>cases h
  rename_i hu;rw[Op.equalIn,zI,yV hu];simp only[QP];rfl
 ·cases h
theorem zCW {t:TypeId} {cs:Array Value} {off:Nat} {v:Value} (h:(match zP P (isAgg t)with|some false=>true|_=>false)=true) (hv:cs[off]?=some v):zP P (part t cs off)=some v:=by
 have h':zP P (isAgg t)=some false:=by
  split at h
  ·assumption
  ·cases h
 unfold part;rw[zI,h'];simp only[QP,hv];rfl
theorem zKW {xs ys:Array Value} {n d:Nat} (hn:n=d+1):∀ (l:List Field) (i:Nat) (us vs:List Value),zC3 P l i us vs=true->(∀ j,xs[i+j]?=us[j]?)->(∀ j,ys[i+j]?=vs[j]?)->
  zP P (do
   let s <-(forIn l (none,()) fun f (__s:Option Bool×Unit)=>
          if f.name≠ "_" then do
           let __do_lift <-part f.type xs f.offset
           let __do_lift_1 <-part f.type ys f.offset
           let __do_lift <-Op.equalIn n f.type __do_lift __do_lift_1
           if (!__do_lift)=true then pure (ForInStep.done (some false,()))
            else pure (ForInStep.yield (none,()))
          else pure (ForInStep.yield (none,())):Sem (Option Bool×Unit))
   match s.fst with
        |some r=>pure r
        |none=>pure true)=some (YZ us vs):=by
 intro l;induction l with
 |nil=>
  intro i us vs hk _ _;cases us with
  |cons _ _=>cases hk
  |nil=>cases vs with
   |cons _ _=>cases hk
   |nil=>rfl
 |cons f l ih=>
  intro i us vs hk hx hy;cases us with
  |nil=>cases hk
  |cons u us=>cases vs with
   |nil=>cases hk
   |cons v vs=>
   simp only[zC3,QJ]at hk;obtain⟨⟨⟨⟨k1,k2⟩,k3⟩,k4⟩,k5⟩:=hk;have hoff:=QL k2;have hname:f.name≠ "_":=by simpa using k1
   have hxu:xs[f.offset]?=some u:=by rw[hoff];simpa using hx 0
   have hyv:ys[f.offset]?=some v:=by rw[hoff];simpa using hy 0
   have ihl:=ih (i+1) us vs k5 (fun j=>by have:=hx (j+1);rw[List.getElem?_cons_succ]at this;rw[<-this];congr 1;omega) (fun j=>by have:=hy (j+1);rw[List.getElem?_cons_succ]at this;rw[<-this];congr 1;omega);have heq:zP P (Op.equalIn n f.type u v)=some (zDf u v):=by rw[hn];exact zLl k4
   rw[List.forIn_cons];simp only[bind_assoc,zI,QI hname,zCW k3 hxu,zCW k3 hyv,QP,heq];cases he:zDf u v with
   |false=>simp only[YZ,he,Qg];rfl
   |true=>
    simp only[YZ,he,Qe];rw[<-ihl,zI];rfl
theorem zMt {t:TypeId} {fs:Array Field} {xs ys:Array Value} {x y:Operand} (ht:P.underlying t=some (.struct fs)) (hs:P.stoodInHeld t=false) (hg:P.eqGuardType P.depth t=false) (hk:zC3 P fs.toList 0 xs.toList ys.toList=true):
  zP P (do eqGuard .eql t x y (.agg xs) (.agg ys);binOp .eql t (.agg xs) (.agg ys))=some (.bool (YZ xs.toList ys.toList)):=by
 have h1:zP P (eqGuard .eql t x y (.agg xs) (.agg ys))=some ():=by
  unfold eqGuard;simp only[QU,Qk,Gp];rw[zI,yG];simp only[QP];rw[zI,yG];simp only[QP,hg,Qd,Qv];rfl
 rw[zI,h1];simp only[QP];unfold binOp;simp only[];rw[zI];have h2:zP P (Op.equal t (.agg xs) (.agg ys))=some (YZ xs.toList ys.toList):=by
  unfold Op.equal Op.maxDepth;rw[show (10000:Nat)=9999+1 from rfl,Op.equalIn,zI,yV ht];simp only[QP];rw[zI,yG];simp only[QP,hs,Qk,Gp];have:=zKW (P:=P) (xs:=xs) (ys:=ys) (n:=9999) (d:=9998) rfl fs.toList 0 xs.toList ys.toList hk (fun j=>by simp) (fun j=>by simp);rw[<-this,<-Array.forIn_toList,zI,zI];congr 1;funext s;obtain⟨a,_⟩:=s;cases a<;>rfl
 rw[h2];rfl
def chk (P:Program) (t:TypeId) (xs ys:List Value):Bool:=
 (match P.underlying t with|some (.struct fs)=>zC3 P fs.toList 0 xs ys|_=>false)&& !P.stoodInHeld t&& !P.eqGuardType P.depth t
theorem zKE {t:TypeId} {xs ys:Array Value} {x y:Operand} {b:Bool} (h:chk P t xs.toList ys.toList=true) (hb:YZ xs.toList ys.toList=b):zP P (do eqGuard .eql t x y (.agg xs) (.agg ys);binOp .eql t (.agg xs) (.agg ys))=some (.bool b):=by
 subst hb;unfold chk at h;simp only[QJ,Gk]at h;obtain⟨⟨h1,h2⟩,h3⟩:=h;split at h1;case h_2=>cases h1
 rename_i fs hu;exact zMt hu h2 h3 h1
end
section
variable {P:Program}
theorem zM3 {t:TypeId} {fs:Array Field} {xs ys:Array Value} {x y:Operand} (ht:P.underlying t=some (.struct fs)) (hs:P.stoodInHeld t=false) (hg:P.eqGuardType P.depth t=false) (hk:zC3 P fs.toList 0 xs.toList ys.toList=true):
  zP P (do eqGuard .neq t x y (.agg xs) (.agg ys);binOp .neq t (.agg xs) (.agg ys))=some (.bool (!YZ xs.toList ys.toList)):=by
 have h1:zP P (eqGuard .neq t x y (.agg xs) (.agg ys))=some ():=by
  unfold eqGuard;simp only[QU,Qk,Gp];rw[zI,yG];simp only[QP];rw[zI,yG];simp only[QP,hg,Qd,Qv];rfl
 rw[zI,h1];simp only[QP];unfold binOp;simp only[];rw[zI];have h2:zP P (Op.equal t (.agg xs) (.agg ys))=some (YZ xs.toList ys.toList):=by
  unfold Op.equal Op.maxDepth;rw[show (10000:Nat)=9999+1 from rfl,Op.equalIn,zI,yV ht];simp only[QP];rw[zI,yG];simp only[QP,hs,Qk,Gp];have:=zKW (P:=P) (xs:=xs) (ys:=ys) (n:=9999) (d:=9998) rfl fs.toList 0 xs.toList ys.toList hk (fun j=>by simp) (fun j=>by simp);rw[<-this,<-Array.forIn_toList,zI,zI];congr 1;funext s;obtain⟨a,_⟩:=s;cases a<;>rfl
 rw[h2];rfl
theorem zUW {t:TypeId} {xs ys:Array Value} {x y:Operand} {b:Bool} (h:chk P t xs.toList ys.toList=true) (hb:YZ xs.toList ys.toList=b):zP P (do eqGuard .neq t x y (.agg xs) (.agg ys);binOp .neq t (.agg xs) (.agg ys))=some (.bool (!b)):=by
 subst hb;unfold chk at h;simp only[QJ,Gk]at h;obtain⟨⟨h1,h2⟩,h3⟩:=h;split at h1;case h_2=>cases h1
 rename_i fs hu;exact zM3 hu h2 h3 h1
end
section
variable {P:Program} {tab:Tab}
def okU (m N0:Nat) (un:List Nat) (cl:Bool) (t:Trie Value) (o:AOper) (h h':AHeap):Prop:=
 (∀ g∈h'.wr,m<=g)/\h.n<=h'.n/\(un=[]\/(cl=true/\h'.wr=[]/\∀ g,zZ t o=some g->g<N0))
def WU2 (P:Program) (tab:Tab) (m N0:Nat):List (AOper×List Nat)->Nat->Bool->AFr->AHeap->(AFr->AHeap->Prop)->Prop
 |[],_,_,fr,h,Q=>Q fr h
 |(o,un)::l,g,cl,fr,h,Q=>
  if Nat.beq (zF o.op) 3=true then
   un=[]/\((zL fr.tm o.guard=true/\m<=g/\∃ ob f,ye fr.tm o.op=some (ob,f)/\WU2 P tab m N0 l (g+1) false (val o.dst fr (f g)) ((inC h).lay g ob) Q)\/
    (zL fr.tm o.guard=false/\WU2 P tab m N0 l (g+1) cl (val o.dst fr undef) (inC h) Q))
  else WO P tab [o] fr (inC h) fun fr' h'=>okU m N0 un cl fr.tm o h h'/\WU2 P tab m N0 l g (cl&&h'.wr.isEmpty) fr' h' Q
theorem zMU {m N0:Nat} {un:List Nat} {cl:Bool} {t:Trie Value} {o:AOper} {h h':AHeap} (hk:okU m N0 un cl t o h h') {ws:List (Nat×Nat)} (hw:cl=true->ws=[]) {bs:List (Nat×Nat)} (hb:∀ e∈bs,N0<=e.2) (rs:List (Nat×Nat×Option (Nat×Nat×List Value))):
  ((match zZ t o with
   |some g=>(ws.all fun x=> !(Nat.beq g x.2&&un.contains x.1))&&bs.all fun x=> !un.contains x.1||Nat.ble (g+1) x.2
   |none=>true)&&rs.all fun x=> !(un.contains x.1&&h'.wr.contains x.2.1)||zDa h' x.2.1 x.2.2)=true:=by
 obtain⟨_,_,rfl|⟨h1,h2,h3⟩⟩:=hk
 ·exact zPi o ws rs bs t h'
 ·rw[hw h1,h2];have e2:(rs.all fun x=> !(un.contains x.1&&([]:List Nat).contains x.2.1)||zDa h' x.2.1 x.2.2)=true:=by simp
  rw[e2,Ql];cases hr:zZ t o with
  |none=>rfl
  |some g=>
   have hg:=h3 g hr;simp only[List.all_nil,Qe];rw[QY];intro x hx;have:Nat.ble (g+1) x.2=true:=QH (QG hg (hb x hx));rw[this,Qw]
theorem WU2.run {m N0:Nat}:∀ {ops:List (AOper×List Nat)} {g:Nat} {cl:Bool} {fr:AFr} {h:AHeap} {Q:AFr->AHeap->Prop},N0<=h.n->WU2 P tab m N0 ops g cl fr h Q->
  ∃ fr' h',Q fr' h'/\∀ (i:Nat) (ws:List (Nat×Nat)) (rs:List (Nat×Nat×Option (Nat×Nat×List Value))) (bs:List (Nat×Nat)),(∀ e∈ws,m<=e.2)->(cl=true->ws=[])->(∀ e∈bs,N0<=e.2)->
   ∃ ws',(∀ e∈ws',m<=e.2)/\Ev fun n=>yC P (aex P tab n) ops i g ws rs bs fr h=some (fr',h',ws'):=by
 intro ops;induction ops with
 |nil=>intro g cl fr h Q _ hx;exact⟨fr,h,hx,fun i ws rs bs hw _ _=>⟨ws,hw,Ev.all fun n=>rfl⟩⟩
 |cons x ops ihl=>
  intro g cl fr h Q hn hx;obtain⟨o,un⟩:=x;simp only[WU2]at hx;have go:∀ {g':Nat} {cl':Bool} {fr1:AFr} {h1:AHeap},(g'=bif Nat.beq (zF o.op) 3 then g+1 else g)->(cl'=true->cl=true/\h1.wr=[])->(Ev fun n=>zy P (aex P tab n) g o fr (inC h)=some (fr1,h1))->okU m N0 un cl fr.tm o h h1->WU2 P tab m N0 ops g' cl' fr1 h1 Q->
    ∃ fr' h',Q fr' h'/\∀ (i:Nat) (ws:List (Nat×Nat)) (rs:List (Nat×Nat×Option (Nat×Nat×List Value))) (bs:List (Nat×Nat)),(∀ e∈ws,m<=e.2)->(cl=true->ws=[])->(∀ e∈bs,N0<=e.2)->
     ∃ ws',(∀ e∈ws',m<=e.2)/\Ev fun n=>yC P (aex P tab n) ((o,un)::ops) i g ws rs bs fr h=some (fr',h',ws'):=by
   intro g' cl' fr1 h1 hg hcl ev hk hx;obtain⟨fr',h',q,run⟩:=ihl (QW hn hk.2.1) hx;refine⟨fr',h',q,fun i ws rs bs hws hwc hbs=> ?_⟩;obtain⟨ws',w1,w2⟩:=run (i+1) (h1.wr.map (fun g=>(i,g))++ws) (match zZ fr.tm o with
     |some g=>(i,g,Yr fr.tm h o.op)::rs
     |none=>rs) ((i,h.n)::bs) (fun e he=>by
      rcases Qf.1 he with he|he
      ·obtain⟨y,hy,rfl⟩:=Q0.1 he;exact hk.1 y hy
      ·exact hws e he) (fun hc=>by
      obtain⟨c1,c2⟩:=hcl hc;rw[hwc c1,c2];rfl) (fun e he=>by
      rcases Qj.1 he with rfl|he
      ·exact hn
      ·exact hbs e he)
   refine⟨ws',w1,(ev.and w2).mono fun n ⟨e1,e2⟩=> ?_⟩;simp only[yC];have e1':zy P (aex P tab n) g o fr {h with mark:=h.n,wr:=[]}=some (fr1,h1):=e1;rw[e1'];have hok:=zMU hk hwc hbs rs;exact(congrArg (fun b:Bool=>bif b then yC P (aex P tab n) ops (i+1) (bif Nat.beq (zF o.op) 3 then g+1 else g) (h1.wr.map (fun g=>(i,g))++ws) (match zZ fr.tm o with
     |some g=>(i,g,Yr fr.tm h o.op)::rs
     |none=>rs) ((i,h.n)::bs) fr1 h1 else none) hok).trans (by rw[cond_true,<-hg];exact e2)
  by_cases hk:Nat.beq (zF o.op) 3=true
  ·rw[QI hk]at hx;obtain⟨rfl,⟨hw,hm,ob,f,hmade,hx⟩|⟨hw,hx⟩⟩:=hx;case inr=>
    refine go (g':=g+1) (cl':=cl) (by rw[hk];rfl) (fun h=>⟨h,rfl⟩) (Ev.all fun n=> ?_) (h1:=inC h) ⟨fun x hx=>(by cases hx),(show h.n<=h.n from QF _),.inl rfl⟩ hx;unfold zy;simp only[hk,hw,cond_true,QR]
   refine go (g':=g+1) (cl':=false) (by rw[hk];rfl) (fun h=>by cases h) (Ev.all fun n=> ?_) (h1:=(inC h).lay g ob) ⟨fun x hx=> ?_,(show h.n<=h.n from QF _),.inl rfl⟩ hx
   ·unfold zy;simp only[hk,hw,hmade,cond_true]
   ·rcases yv hx with rfl|hx
    ·exact hm
    ·cases hx
  ·rw[QD hk]at hx;have hk':Nat.beq (zF o.op) 3=false:=by cases hb:Nat.beq (zF o.op) 3 with
    |false=>rfl
    |true=>exact absurd hb hk
   unfold WO at hx;obtain⟨fr1,h1,⟨q1,q2⟩,ev⟩:=hx;refine go (g':=g) (cl':=cl&&h1.wr.isEmpty) (by rw[hk'];rfl) (fun hc=>by
    rw[QJ]at hc;exact⟨hc.1,List.isEmpty_iff.1 hc.2⟩) (ev.mono fun n e=> ?_) q1 q2
   unfold zy;simp only[hk',QR];simp only[yT]at e;cases ha:z8 P (aex P tab n) o fr (inC h)with
   |none=>rw[ha]at e;cases e
   |some p=>rw[ha]at e;exact e
def zC (k:Nat) (h:AHeap):AHeap:={h with n:=h.n+k}
theorem zq (k:Nat) (h:AHeap):Ext h (zC k h):=⟨JB _ _,fun _ _=>rfl,fun w g hg=>w g (QW (JB _ _) hg),rfl,fun _=>rfl⟩
theorem WX.regionU2 {ops:List (AOper×List Nat)} {fr:AFr} {h:AHeap} {K:AExit->AFr->AHeap->Prop} (k:Nat) (hk:zGp ops=k) (hne:ops.isEmpty=false)
  (hx:WU2 P tab h.mark (h.n+k) ops h.n true fr (inC (zC k h)) (zB1 K h)):WX P tab (.regionC ops) fr h K:=by
 subst hk;have hx':WU2 P tab h.mark (h.n+zGp ops) ops h.n true fr (zC (zGp ops) h) (zB1 K h):=by
  cases ops with
  |nil=>cases hne
  |cons x ops=>exact hx
 obtain⟨fr',h',q,run⟩:=WU2.run (h:=zC (zGp ops) h) (show h.n+zGp ops<=h.n+zGp ops from QF _) hx';obtain⟨ws',w1,w2⟩:=run 0 [] [] [] (fun e he=>by cases he) (fun _=>rfl) (fun e he=>by cases he);unfold WX;refine⟨.normal,fr',_,q,Ev.up (w2.mono fun n e=> ?_)⟩;rw[zi];simp only[zb,YP];have e':yC P (aex P tab n) ops 0 h.n [] [] [] fr {h with n:=h.n+(ops.filter fun x=>Nat.beq (zF x.1.op) 3).length}=some (fr',h',ws'):=e;rw[e'];have:((ws'.map (·.2)).filter fun g=> !Nat.ble h.mark g)=[]:=by
  rw[List.filter_eq_nil_iff];intro g hg;obtain⟨y,hy,rfl⟩:=Q0.1 hg;have:Nat.ble h.mark y.2=true:=QH (w1 y hy);simp[this]
 simp[this,zc]
end
section
variable {P:Program} {tab:Tab} {m N0:Nat} {l:List (AOper×List Nat)} {o:AOper} {un:List Nat} {g:Nat} {cl:Bool} {fr:AFr} {h h0 h':AHeap} {Q:AFr->AHeap->Prop} {K:AExit->AFr->AHeap->Prop} {x:AOper×List Nat}
def uK2 (P:Program) (tab:Tab) (m N0:Nat) (un:List Nat) (t:Trie Value) (o:AOper) (h:AHeap) (l:List (AOper×List Nat)) (g:Nat) (cl:Bool) (Q:AFr->AHeap->Prop):AFr->AHeap->Prop:=
 fun fr' h'=>okU m N0 un cl t o h h'/\WU2 P tab m N0 l g (cl&&h'.wr.isEmpty) fr' h' Q
theorem WU2.q (hk:Nat.beq (zF o.op) 3=false) (hx:WO P tab [o] fr (inC h) (uK2 P tab m N0 un fr.tm o (inC h) l g cl Q)):WU2 P tab m N0 ((o,un)::l) g cl fr (inC h) Q:=by
 simp only[WU2];rw[QD (by rw[hk];exact Bool.noConfusion)];exact hx
theorem zSy {t:Trie Value} (hx:WU2 P tab m N0 l g cl fr (inC h) Q):uK2 P tab m N0 [] t o (inC h) l g cl Q fr (inC h):=
 ⟨⟨fun g hg=>(by cases hg),QF _,.inl rfl⟩,by rw[show (cl&&(inC h).wr.isEmpty)=cl from by simp[inC]];exact hx⟩
theorem zCK {t:Trie Value} (hr:∀ g,zZ t o=some g->g<N0) (hx:WU2 P tab m N0 l g true fr (inC h) Q):uK2 P tab m N0 un t o (inC h) l g true Q fr (inC h):=
 ⟨⟨fun g hg=>(by cases hg),QF _,.inr ⟨rfl,rfl,hr⟩⟩,by rw[show (true&&(inC h).wr.isEmpty)=true from by simp[inC]];exact hx⟩
theorem zSp {t:Trie Value} (e:Ext (inC h) h') (hr:zZ t o=none) (hx:WU2 P tab m N0 (x::l) g true fr (inC h') Q):uK2 P tab m N0 un t o (inC h) (x::l) g true Q fr h':=by
 have hw:=e.wrnil;refine⟨⟨fun g hg=>(by rw[hw]at hg;cases hg),e.n,?_⟩,?_⟩
 ·exact .inr ⟨rfl,hw,fun g hg=>by rw[hr]at hg;cases hg⟩
 ·rw[hw];exact hx
theorem zQC {t:Trie Value} (hx:K .normal fr (zc h0 (inC h))):uK2 P tab m N0 [] t o (inC h) [] g cl (zB1 K h0) fr (inC h):=⟨⟨fun g hg=>(by cases hg),QF _,.inl rfl⟩,hx⟩
theorem WU2.alst {t:Trie Value} {ds:List Deferred} {rd:Option Nat} {zero cs:List Value} {d n:Nat} {y:Operand} {v:Value} (hm:m<=g) (hg:g<h.n) (hz:zero.length=n) (hn:cs.length=n) (h1:zN cs=true) (hv:v.cells=cs.toArray) (hy:ev (t.set d (.pointer (some ⟨g,0,none⟩))) y=v)
  (hx:Q ⟨t.set d (.pointer (some ⟨g,0,none⟩)),ds,rd⟩ ((inC ((inC h).lay g (.row zero true 0))).set g (.row cs true 0))):
  WU2 P tab m N0 [(⟨some d,none,.alloc zero⟩,[]),(⟨none,none,.store n (.tmp d) y⟩,[])] g cl ⟨t,ds,rd⟩ (inC h) Q:=by
 subst hn;rw[WU2,QI (show Nat.beq (zF (AOp.alloc zero)) 3=true from rfl)];refine⟨rfl,.inl ⟨rfl,hm,_,_,rfl,?_⟩⟩;rw[show inC (inC h)=inC h from rfl];rw[WU2,QD (show ¬Nat.beq (zF (AOp.store cs.length (.tmp d) y)) 3=true from Bool.noConfusion)];have hget:(inC ((inC h).lay g (.row zero true 0))).get g=some (.row zero true 0):=by
  show ((inC h).tab.set g (.row zero true 0)).get g=_;rw[za,QI rfl]
 have hst:zY (inC ((inC h).lay g (.row zero true 0))) ⟨g,0,none⟩ cs=some ((inC ((inC h).lay g (.row zero true 0))).set g (.row cs true 0)):=by
  have h2:Nat.ble (0+cs.length) zero.length=true:=QH (by omega);have h3:Nat.ble 0 0=true:=rfl;have h4:zX zero 0 cs=cs:=by simp[zX,hz]
  simp only[zY,hget,h2,h3,h1,h4,Qs,Qu,cond_true]
 refine WO.op0 undef ((inC ((inC h).lay g (.row zero true 0))).set g (.row cs true 0)) rfl (by
  simp only[aop];have e1:ev (val (some d) ⟨t,ds,rd⟩ (.pointer (some ⟨g,0,none⟩))).tm (.tmp d)= .pointer (some ⟨g,0,none⟩):=by simp only[val,ev,z0,Qv]
  have e2:ev (val (some d) ⟨t,ds,rd⟩ (.pointer (some ⟨g,0,none⟩))).tm y=v:=hy;have e1':ev (t.set d (.pointer (some ⟨g,0,none⟩))) (.tmp d)= .pointer (some ⟨g,0,none⟩):=e1;simp only[val,e1',hy,hv,G3,Ge,hst,QK,cond_true]) ?_
 refine WO.nil ⟨⟨fun k hk=> ?_,QF _,.inl rfl⟩,hx⟩;have hk2:k∈(inC ((inC h).lay g (.row zero true 0))).log g:=hk;rcases yv hk2 with rfl|hk3
 ·exact hm
 ·cases hk3
theorem zIl {k:Nat} {o o':AObj} (e:Ext (inC (zC 1 h0)) h):Ext h0 (zc h0 ((inC ((inC h).lay h0.n o)).set h0.n o')):=by
 have hn:h0.n+1<=h.n:=e.n;refine⟨by show h0.n<=h.n;omega,fun k hk=> ?_,fun w k hk=> ?_,rfl,fun _=>rfl⟩
 ·show ((h.tab.set h0.n o).set h0.n o').get k=_;rw[za,QD (by omega),za,QD (by omega)];exact e.get k (by show k<h0.n+1;omega)
 ·have hk:h.n<=k:=hk;show ((h.tab.set h0.n o).set h0.n o').get k=_;rw[za,QD (by omega),za,QD (by omega)];exact e.wf (fun j hj=>w j (by have:h0.n+1<=j:=hj;omega)) k hk
theorem zIi {cs:List Value} {o:AObj} (e:Ext (inC (zC 1 h0)) h):OwnC h0 (zc h0 ((inC ((inC h).lay h0.n o)).set h0.n (.row cs true 0))) (.pointer (some ⟨h0.n,0,none⟩)) cs:=by
 have hn:h0.n+1<=h.n:=e.n;exact⟨h0.n,QF _,by show h0.n<h.n;omega,rfl,by
  show ((h.tab.set h0.n o).set h0.n (.row cs true 0)).get h0.n=_;rw[za,QI rfl]⟩
end
section
variable {P:Program} {tab:Tab} {ds:List Deferred} {rd:Option Nat} {h:AHeap} {l:List AOper} {t:Trie Value}
theorem goU {G' G:Prop} (k:G') (r:Wrap G'->G:=by
  intro hgo;first|with_reducible show WU2 _ _ _ _ (_::_) _ _ _ _ _|refine go ?_
  repeat (first|((apply WU2.q;rfl);refine go ?_)|refine zSy ?_|refine zQC ?_)
  first|with_reducible show WU2 _ _ _ _ (_::_) _ _ _ _ _|refine go ?_
  exact hgo.out):G:=r ⟨k⟩
theorem gUr {G' G:Prop} (k:G') (r:Wrap G'->G:=by
  intro hgo;refine goU ?_;refine rt ?_;exact hgo.out):G:=r ⟨k⟩
theorem WU2.al2 {m N0 n g d:Nat} {cl:Bool} {y:Operand} {v:Value} {zero cs:List Value} {Q:AFr->AHeap->Prop} (hm:m<=g) (hg:g<h.n) (hx:Q ⟨t.set d (.pointer (some ⟨g,0,none⟩)),ds,rd⟩ ((inC ((inC h).lay g (.row zero true 0))).set g (.row cs true 0)))
  (hy:Ope (t.set d (.pointer (some ⟨g,0,none⟩))) y v:=by exact zJ) (hv:v.cells=cs.toArray:=by rfl) (hz:zero.length=n:=by rfl) (hn:cs.length=n:=by rfl) (h1:zN cs=true:=by rfl):
  WU2 P tab m N0 [(⟨some d,none,.alloc zero⟩,[]),(⟨none,none,.store n (.tmp d) y⟩,[])] g cl ⟨t,ds,rd⟩ (inC h) Q:=WU2.alst hm hg hz hn h1 hv hy hx
theorem WU2.upd {N0 g:Nat} {cl:Bool} {mx kx vx:Operand} {mv:Value} {a b:Int} {es:List (Int×Int)} {h0 hS:AHeap} {K:AExit->AFr->AHeap->Prop} (o:OwnM h0 hS mv es) (e0:Ext h0 hS) (hm:hS.mark<=h0.n) (hl:es.lookup a=none)
  (k:∀ h1,Ext h0 h1->OwnM h0 h1 mv (es++[(a,b)])->zE6 mv hS h1->K .normal ⟨t,ds,rd⟩ h1) (hmx:Ope t mx mv:=by exact zJ) (hkx:Ope t kx (I a):=by exact zJ) (hvx:Ope t vx (I b):=by exact zJ):
  WU2 P tab hS.mark N0 [(⟨none,none,.update mx kx vx⟩,[])] g cl ⟨t,ds,rd⟩ (inC (zC 0 hS)) (zB1 K hS):=by
 obtain⟨q,c,es',g1,g2,rfl,g4,g5⟩:=o;unfold Ope at hmx hkx hvx;have hf:=Yg 0 g5 hl;have g4':(inC (inC (zC 0 hS))).get q=some (.map es' c):=g4;rw[WU2,QD (show ¬Nat.beq (zF (AOp.update mx kx vx)) 3=true from Bool.noConfusion)];refine WO.op0 undef ((inC (inC (zC 0 hS))).set q (.map (es'++[{key:=I a,val:=I b,born:=c}]) (c+1))) rfl (by simp only[aop,hmx,hkx,hvx,g4',hf]) ?_;refine WO.nil ⟨⟨fun x hx=> ?_,QF _,.inl rfl⟩,?_⟩
 ·have hx2:x∈(inC (inC (zC 0 hS))).log q:=hx;rcases yv hx2 with rfl|hx3
  ·omega
  ·cases hx3
 ·refine k (zc hS ((inC (inC (zC 0 hS))).set q (.map (es'++[{key:=I a,val:=I b,born:=c}]) (c+1)))) ?_ ?_ ?_
  ·refine⟨e0.n,fun j hj=> ?_,fun w j hj=> ?_,e0.mark,fun hmk=>e0.wr hmk⟩
   ·show (hS.tab.set q _).get j=_;rw[za,QD (by omega)];exact e0.get j hj
   ·have hj:hS.n<=j:=hj;show (hS.tab.set q _).get j=_;rw[za,QD (by omega)];exact e0.wf w j hj
  ·refine⟨q,c+1,es'++[{key:=I a,val:=I b,born:=c}],g1,g2,rfl,?_,by simp[g5]⟩;show (hS.tab.set q _).get q=_;rw[za,QI rfl]
  ·refine⟨QF _,fun j _ hj=> ?_⟩;show (hS.tab.set q _).get j=_;rw[za,QD (fun e=>hj (by rw[e]))];rfl
theorem zT {x:Operand} {v:Value} (hx:Ope t x v:=by exact zJ):ev t x=v:=hx
theorem zKe {m N0 n g j:Nat} {un:List Nat} {d:Option Nat} {agg:Bool} {x:Operand} {p:Value} {cs:List Value} {h0 hs:AHeap} {l:List (AOper×List Nat)} {fr:AFr} {Q:AFr->AHeap->Prop} (o:OwnC h0 hs p cs) (hN:hs.n<=N0) (hx:WU2 P tab m N0 l g true fr (inC h) Q)
  (hr:Ope t x (yH p j):=by exact zJ):uK2 P tab m N0 un t ⟨d,none,.load agg n x⟩ (inC h) l g true Q fr (inC h):=by
 refine zCK (fun k hk=> ?_) hx;obtain⟨q,q1,q2,rfl,q3⟩:=o;unfold Ope yH at hr;simp only[zZ,zL,cond_true,hr,QA]at hk;omega
end
section
variable {P:Program} {tab:Tab} {t:Trie Value} {h:AHeap} {ds:List Deferred} {rd:Option Nat} {l:List AOper} {Q:AFr->AHeap->Prop}
def fl (n:Int):Value:= .float .f64 (FloatKind.nearest .f64 n)
end
open Go.RowKit
section
variable {H:Type}
theorem zHT {enc:TypeId×Value->H} {a:Assume} {C:Checked} {os:Os} {f:FuncId} {fn:Func} {s:ChangeSpec} {conds:List PathCond} {apart fresh handsOn again:Bool} {X:World->Array Value->Prop}
  (hX:∀ (w w':World) (args:Array Value),w.heap=w'.heap->X w args->X w' args)
  (own:ownKnob C.prog.godebug=none) (started:os.Started) (noInit:C.prog.inits.idxOf? f=none) (hfn:C.prog.funcs[f]?=some fn)
  (witness:∃ (w:World) (tape:Tape) (i:Input),w.os=os/\(w.forCall tape i).Shaped C.prog/\i.vars=[]/\Input.okWide C.prog (w.forCall tape i) .any w.heap.size f i/\
   ((s.pre enc C.prog fn conds apart (w.forCall tape i).memory i.args/\X (w.forCall tape i).memory i.args)/\sizedMet enc C.prog fn (OpenSpec.ofChange s) apart (w.forCall tape i).memory i.args)/\a.holds C.prog (lone (Frame.enter C.prog f i.args .normal) [] (w.forCall tape i)))
  (contract:∀ (W:World) (base:Nat) (args:Array Value) (ds gs:List (DataW H)) (before:List MemPlace),
   (∀ (j:Nat) t v,fn.params[j]?=some t->args[j]?=some v->Value.okWide C.prog W .any base t v)->
   DataW.Whole enc C.prog fn.params.toList s.vars apart W args.toList ds gs before->
   (DataW.weightsEach C.prog (fn.params.toList++(OpenSpec.ofChange s).bare.plain.varTypes C.prog) (ds++gs)).all (·<=reachBytes)=true->X W args->W.ShapedOpen C.prog->
   Calls C.prog f args W fun e W'=>∃ v,e= .returned v/\s.post enc C.prog fn apart fresh handsOn again W args v W'):
  ReturnsInHanded a C os f .any (fun w args=>(s.pre enc C.prog fn conds apart w args/\X w args)/\sizedMet enc C.prog fn (OpenSpec.ofChange s) apart w args) (s.post enc C.prog fn apart fresh handsOn again):=by
 refine returnsInHanded_of_calls own started noInit witness ?_;intro w tape i _ hsh _ hok hpre _;obtain⟨_,_,_,fn',hfn',_,_,_,_,hval⟩:=hok;have e:fn'=fn:=Q9 (hfn'.symm.trans hfn);subst e;obtain⟨⟨_,hx⟩,_,ds,gs,before,hw,hsz⟩:=hpre;have hw':=DataW.Whole.of_heap (w':=w.forCall tape i) (by rfl) hw;refine(contract (w.forCall tape i) w.heap.size i.args ds gs before hval hw' hsz (hX _ _ _ (by rfl) hx) hsh).mono fun e W' ⟨v,he,hp⟩=> ?_;subst he;exact ChangeSpec.post_blind hp
def wOk (P:Program) (t:TypeId) (d:DataW H):Prop:=∀ n∈DataW.weights P t d,n<=reachBytes
variable {P:Program} {h:AHeap}
theorem zEK:∀ {ts:List TypeId} {ds:List (DataW H)},(∀ n∈DataW.weightsEach P ts ds,n<=reachBytes)->∀ (i:Nat) t d,ts[i]?=some t->ds[i]?=some d->wOk P t d
 |[],_,_,i,t,d,ht,_=>by simp at ht
 |_::_,[],_,i,t,d,_,hd=>by simp at hd
 |t::ts,d::ds,hw,0,_,_,ht,hd=>by
  simp at ht hd;subst ht hd;exact fun n hn=>hw n (by unfold DataW.weightsEach;simp[hn])
 |t::ts,d::ds,hw,i+1,_,_,ht,hd=>
  zEK (ts:=ts) (ds:=ds) (fun n hn=>hw n (by unfold DataW.weightsEach;simp[hn])) i _ _ (by simpa using ht) (by simpa using hd)
theorem zKx {e:TypeId}:∀ {ds:List (DataW H)},(∀ n∈DataW.weightsAll P e ds,n<=reachBytes)->∀ (i:Nat) d,ds[i]?=some d->wOk P e d
 |[],_,i,d,hd=>by simp at hd
 |d::ds,hw,0,_,hd=>by
  simp at hd;subst hd;exact fun n hn=>hw n (by unfold DataW.weightsAll;simp[hn])
 |d::ds,hw,i+1,_,hd=>zKx (ds:=ds) (fun n hn=>hw n (by unfold DataW.weightsAll;simp[hn])) i _ (by simpa using hd)
theorem zFx {t e:TypeId} {elems spare:List (DataW H)} (ht:P.underlying t=some (.slice e)) (hw:wOk P t (.slice elems spare)):elems.length * P.bytesOf e<=reachBytes/\∀ (i:Nat) d,elems[i]?=some d->wOk P e d:=by
 unfold wOk at hw;unfold DataW.weights at hw;rw[ht]at hw;simp only at hw;refine⟨?_,zKx fun n hn=>hw n (by simp[hn])⟩;have:=hw _ (QS ..);exact QW (Qz _ (JB _ _)) this
theorem zJJ {t:TypeId} {fs:Array Field} {parts:List (DataW H)} (ht:P.underlying t=some (.struct fs)) (hw:wOk P t (.agg parts)) (i:Nat) (f:Field) (d:DataW H) (hf:fs[i]?=some f) (hd:parts[i]?=some d):wOk P f.type d:=by
 unfold wOk at hw;unfold DataW.weights at hw;rw[ht]at hw;exact zEK hw i f.type d (by simp[hf]) hd
theorem zCF {α:Type} {c:Nat} {R:AHeap->List Value->α->Prop} {t e:TypeId} {acs:List Value} {d:DataW H} (r:Rd P h t acs d) (ht:P.underlying t=some (.slice e)) (hc:P.cellsOf e=c) (hb:1<=P.bytesOf e) (hw:wOk P t d)
  (hR:∀ cs (d:DataW H),Rd P h e cs d->wOk P e d->∃ a,R h cs a):∃ av l,acs=[av]/\SlR c R h av l/\(l.length:Int)<=1152921504606846976:=by
 subst hc;rcases zEG r ht with ⟨rfl,_⟩|⟨a,sp,rfl,_⟩|⟨g,cells,elems,sp,rfl,rfl,hg,hn,hl,hm,hr⟩
 ·exact⟨_,[],rfl,SlR.nil,by simp⟩
 ·exact⟨_,[],rfl,⟨[],⟨by simp,.inl ⟨rfl,.inr ⟨_,_,rfl⟩⟩⟩,fun i a ha=>by simp at ha⟩,by simp⟩
 ·obtain⟨w1,w2⟩:=zFx ht hw;obtain⟨l,h1,h2⟩:=zSV (p:=fun i a=>R h ((cells.drop (i * P.cellsOf e)).take (P.cellsOf e)) a) elems.length fun i hi=>hR _ _ (hr i _ (QB hi)) (w2 i _ (QB hi));refine⟨_,l,rfl,⟨cells,⟨by rw[h1];exact hl,.inr ⟨g,0,cells,by rw[h1],by simp[zk,hg],?_,hn⟩⟩,h2⟩,?_⟩
  ·rw[h1,<-hl];simp[cut,QH (QF _)]
  ·have:elems.length<=elems.length * P.bytesOf e:=Nat.le_mul_of_pos_right _ hb;unfold reachBytes at w1;rw[h1];omega
theorem zFB {t e:TypeId} {acs:List Value} {d:DataW H} (r:Rd P h t acs d) (ht:P.underlying t=some (.slice e)) (he:P.underlying e=some (.int .i64)) (hc:P.cellsOf e=1) (hb:1<=P.bytesOf e) (hw:wOk P t d):
  ∃ av l,acs=[av]/\SlI h av l/\(l.length:Int)<=1152921504606846976/\∀ a∈l,(Lit.int .i64 a).wf=true:=by
 obtain⟨av,l,h1,h2,_,h4⟩:=zSl r ht he hc;refine⟨av,l,h1,h2,?_,h4⟩;rcases zEG r ht with ⟨rfl,_⟩|⟨a,sp,rfl,_⟩|⟨g,cells,elems,sp,rfl,rfl,_⟩
 ·cases h1;have:=h2.len (P:=P) (ih:=Ex.bot) (t:= .leaf) (x:= .const (.slice none 0 0)) rfl;rcases h2 with ⟨_,⟨h0,_⟩|⟨g,off,row,hv,_⟩⟩
  ·omega
  ·cases hv
 ·cases h1;rcases h2 with ⟨_,⟨h0,_⟩|⟨g,off,row,hv,_⟩⟩
  ·omega
  ·injection hv with _ e2 _;omega
 ·cases h1;obtain⟨w1,_⟩:=zFx ht hw;have hle:elems.length<=elems.length * P.bytesOf e:=Nat.le_mul_of_pos_right _ hb;unfold reachBytes at w1;rcases h2 with ⟨_,⟨h0,_⟩|⟨g,off,row,hv,_⟩⟩
  ·omega
  ·injection hv with _ e2 _;omega
theorem YO {t:TypeId} {fs:Array Field} {acs:List Value} {d:DataW H} (r:Rd P h t acs d) (ht:P.underlying t=some (.struct fs)) (hw:wOk P t d):
  acs.length=P.cellsOf t/\∀ (i:Nat) (f:Field),fs[i]?=some f->∃ d:DataW H,Rd P h f.type ((acs.drop f.offset).take (P.cellsOf f.type)) d/\wOk P f.type d:=by
 cases r with
 |int n ht' wf=>rw[ht]at ht';cases ht'
 |bool _ ht'=>rw[ht]at ht';cases ht'
 |string _ ht'=>rw[ht]at ht';cases ht'
 |snil ht'=>rw[ht]at ht';cases ht'
 |szero a sp ht'=>rw[ht]at ht';cases ht'
 |slice g cells elems sp ht' hg hn hl hm hr=>rw[ht]at ht';cases ht'
 |array _ _ ht'=>rw[ht]at ht';cases ht'
 |struct cells parts ht' hl hp hr=>
  rw[ht]at ht';cases ht';refine⟨hl,fun i f hf=> ?_⟩;have hi:i<parts.length:=by rw[hp];exact(Gx.1 hf).1
  exact⟨_,hr i f _ hf (QB hi),zJJ ht hw i f _ hf (QB hi)⟩
end
section
variable {H:Type} {P:Program} {h:AHeap}
end
def Lies (h:AHeap) (g:Nat) (o:AObj):Prop:=g<h.n/\h.get g=some o
def zKt:AObj->Bool
 | .loop .. | .deferred .. =>true
 |_=>false
theorem Lies.ext {h h':AHeap} {g:Nat} {o:AObj} (k:Lies h g o) (e:Ext h h'):Lies h' g o:=⟨QG k.1 e.n,(e.get g k.1).trans k.2⟩
theorem Lies.updC {h0 h h':AHeap} {g:Nat} {o:AObj} {p:Value} {cs:List Value} (k:Lies h g o) (hr:zKt o=true) (w:OwnC h0 h p cs) (u:UpdC p h h'):Lies h' g o:=by
 refine⟨QG k.1 u.1,(u.2 g k.1 fun e=> ?_).trans k.2⟩;obtain⟨g2,_,_,rfl,hg⟩:=w;cases e;have:=k.2;rw[hg]at this;cases this;cases hr
theorem Lies.upd {h0 h h':AHeap} {g:Nat} {o:AObj} {v:Value} {xs:List Int} (k:Lies h g o) (hr:zKt o=true) (w:OwnN h0 h v xs) (u:Upd v h h'):Lies h' g o:=by
 refine⟨QG k.1 u.1,(u.2 g k.1 fun a n c hv e=> ?_).trans k.2⟩;rcases w with ⟨rfl,_⟩|⟨g2,_,_,rfl,hg⟩
 ·cases hv
 ·cases hv;simp only at e;subst e;have:=k.2;rw[hg]at this;cases this;cases hr
theorem Lies.set {h:AHeap} {g l:Nat} {o p:AObj} (k:Lies h g o) (hne:g≠l):Lies (h.set l p) g o:=⟨k.1,by rw[zR,QD hne];exact k.2⟩
theorem Lies.self {h:AHeap} {g:Nat} {o p:AObj} (k:Lies h g o):Lies (h.set g p) g p:=⟨k.1,by rw[zR,QI rfl]⟩
theorem OwnC.setR {h0 h:AHeap} {p:Value} {cs:List Value} {l:Nat} {o o':AObj} (w:OwnC h0 h p cs) (k:Lies h l o) (hr:zKt o=true):OwnC h0 (h.set l o') p cs:=by
 obtain⟨g,a,b,c,d⟩:=w;refine⟨g,a,b,c,?_⟩;rw[zR,QD (fun e=> ?_)]
 ·exact d
 ·subst e;have:=k.2;rw[d]at this;cases this;cases hr
theorem OwnN.setR {h0 h:AHeap} {v:Value} {xs:List Int} {l:Nat} {o o':AObj} (w:OwnN h0 h v xs) (k:Lies h l o) (hr:zKt o=true):OwnN h0 (h.set l o') v xs:=by
 rcases w with w|⟨g,a,b,c,d⟩
 ·exact .inl w
 ·refine .inr ⟨g,a,b,c,?_⟩;rw[zR,QD (fun e=> ?_)]
  ·exact d
  ·subst e;have:=k.2;rw[d]at this;cases this;cases hr
theorem zFE {t:Trie Value} {d:Option Nat} {g:Option (Nat×Bool)} {f:Operand} {args:List Operand}:zZ t ⟨d,g,.call f args⟩=none:=by
 unfold zZ;cases zL t g<;>rfl
section
variable {P:Program} {tab:Tab} {m N0 g:Nat} {un:List Nat} {t:Trie Value} {h h':AHeap} {x:AOper×List Nat} {l:List (AOper×List Nat)} {fr:AFr} {Q:AFr->AHeap->Prop}
theorem nE {d:Option Nat} {gd:Option (Nat×Bool)} {f:Operand} {as:List Operand} (e:Ext (inC h) h') (hx:WU2 P tab m N0 (x::l) g true fr (inC h') Q):WO P tab [] fr h' (uK2 P tab m N0 un t ⟨d,gd,.call f as⟩ (inC h) (x::l) g true Q):=WO.nil (zSp e zFE hx)
theorem nQ {cl:Bool} {o:AOper} (hx:WU2 P tab m N0 l g cl fr (inC h) Q):WO P tab [] fr (inC h) (uK2 P tab m N0 [] t o (inC h) l g cl Q):=WO.nil (zSy hx)
end
section
variable {P:Program} {tab:Tab}
attribute [local semireducible] WX WV WC Ev
def zTo (l:Nat) (Q:Value->AHeap->Prop):AExit->AFr->AHeap->Prop
 | .normal,fr,h2=>fr.dfs=[]/\∃ r2,Lies h2 l (.loop r2)/\Q (.bool true) (h2.set l (.loop {r2 with state:= .ready,pending:=none}))
 |_,_,_=>False
def zSn (P:Program) (tab:Tab) (l:Nat) (r:ALoop) (h0:AHeap) (Q:Value->AHeap->Prop):AExit->AFr->AHeap->Prop
 | .normal,fr,h=>h=h0/\WX P tab r.body fr (h.set l (.loop {r with state:= .busy})) (zTo l Q)
 |_,_,_=>False
theorem WV.yield {l args h Q a b} {r:ALoop} (hl:Lies h l (.loop r)) (hr:r.state= .ready) (hn:Nat.beq args.length r.params.length=true)
  (hx:WX P tab r.assign ⟨zA8 r.params args r.tm,[],some l⟩ h (zSn P tab l r h Q)):WV P tab (.func (.yield l) a b) args h Q:=by
 obtain⟨e,fr,h1,k,ev⟩:=hx;cases e with
 |normal=>
  obtain⟨rfl,e2,fr2,h2,k2,ev2⟩:=k;cases e2 with
  |normal=>
   obtain⟨kd,r2,hl2,hq⟩:=k2;refine⟨_,_,hq,(ev.and ev2).mono fun n ⟨x1,x2⟩=> ?_⟩;have h1:=hl.2;have h2:=hl2.2;simp only[zAa,h1,hn,cond_true,zAp,x1,hr,x2,kd,h2,ZJ]
  |exit i=>exact k2.elim
  |goto i=>exact k2.elim
  |ret=>exact k2.elim
 |exit i=>exact k.elim
 |goto i=>exact k.elim
 |ret=>exact k.elim
def zPO (t:Trie Value) (ps:List Nat) (a b:ACode) (d:Nat):ALoop:={state:= .ready,pending:=none,fn:=0,tm:=t,params:=ps,assign:=a,body:=b,defers:=d}
def zDd (h:AHeap) (t:Trie Value) (ps:List Nat) (a b:ACode):AHeap:=(h.push (.deferred (some []))).push (.loop (zPO t ps a b h.n))
theorem zNK (h:AHeap) (t ps a b):Ext h (zDd h t ps a b):=((Ext.refl h).push _).push _
theorem zLt (h:AHeap) (t ps a b):Lies (zDd h t ps a b) h.n (.deferred (some [])):=by
 refine⟨by simp[zDd,AHeap.push];omega,?_⟩;unfold zDd;rw[zO,QD (by simp[AHeap.push]),zO,QI rfl]
theorem zJW (h:AHeap) (t ps a b):Lies (zDd h t ps a b) (h.n+1) (.loop (zPO t ps a b h.n)):=by
 refine⟨by simp[zDd,AHeap.push],?_⟩;unfold zDd;rw[zO,QI (by simp[AHeap.push])]
theorem WX.rangeF {f ps a b t ds h K} (hx:WV P tab (ev t f) [.func (.yield (h.n+1)) #[] #[]] (zDd h t ps a b) fun _ h2=>∃ r,Lies h2 (h.n+1) (.loop r)/\r.state= .ready/\r.pending=none/\
   K .normal ⟨t,{target:= .collected h.n,args:=#[]}::ds,none⟩ (h2.set (h.n+1) (.loop {r with state:= .exhausted}))):WX P tab (.rangeFunc f ps a b) ⟨t,ds,none⟩ h K:=by
 obtain⟨v,h2,⟨r,hl,hs,hp,hk⟩,ev⟩:=hx;refine⟨_,_,_,hk,Ev.up (ev.mono fun n e=> ?_)⟩;rw[zi];simp only[zb,zAg,Yv];have hn:(h.push (.deferred (some []))).n=h.n+1:=rfl;have e':zAa (aex P tab n) (Am.ev t f) [.func (.yield (h.push (.deferred (some []))).n) #[] #[]] ((h.push (.deferred (some []))).push (.loop {state:= .ready,pending:=none,fn:=0,tm:=t,params:=ps,assign:=a,body:=b,defers:=h.n}))=some (v,h2):=e;rw[e'];have hl2:=hl.2;simp only[hn,hl2,hs,hp,List.singleton_append]
theorem zEM {rs Q t rd h g} (hg:Lies h g (.deferred (some []))) (hx:zE4 P tab rs Q .ret ⟨t,[],rd⟩ (h.set g (.deferred none))):zE4 P tab rs Q .ret ⟨t,[{target:= .collected g,args:=#[]}],rd⟩ h:=by
 unfold zE4 at *;exact WD.collected hg.2 hx
theorem Res.consB {h:AHeap} {t:Trie Value} {j n:Nat} {p v:Value} {h0:AHeap} {cs:List Value} {rs:List (Nat×Option (Bool×Nat))} {vs:List Value} (s:Slot t j p) (o:OwnC h0 h p cs) (hr:(cut cs 0 n).bind (zG false)=some v) (k:Res h t rs vs):Res h t ((j,some (false,n))::rs) (v::vs):=by
 obtain⟨g,_,_,rfl,hg⟩:=o;unfold Res at *;unfold Slot at s;simp only[zu,YS,s,ZZ hg,Qs,cond_true,QP,hr,k]
structure Ready (r:ALoop) (t:Trie Value) (ps:List Nat) (a b:ACode):Prop where
 st:r.state= .ready
 pd:r.pending=none
 tm:r.tm=t
 ps:r.params=ps
 as:r.assign=a
 bd:r.body=b
def busy (r:ALoop):ALoop:={r with state:= .busy}
def zUg (L:Nat) (r:ALoop) (Q:Value->AHeap->Prop):AExit->AFr->AHeap->Prop
 | .normal,fr,h2=>fr.dfs=[]/\Lies h2 L (.loop (busy r))/\Q (.bool true) (h2.set L (.loop r))
 |_,_,_=>False
theorem zA7 {L r Q t rd h} (hl:Lies h L (.loop (busy r))) (hq:Q (.bool true) (h.set L (.loop r))):zUg L r Q .normal ⟨t,[],rd⟩ h:=⟨rfl,hl,hq⟩
def zVE (P:Program) (tab:Tab) (L:Nat) (r:ALoop) (b:ACode) (h:AHeap) (Q:Value->AHeap->Prop):AExit->AFr->AHeap->Prop
 | .normal,fr,h'=>h'=h/\WX P tab b fr (h.set L (.loop (busy r))) (zUg L r Q)
 |_,_,_=>False
theorem zBE {L r b h Q fr} (hx:∀ h',h'=h.set L (.loop (busy r))->WX P tab b fr h' (zUg L r Q)):zVE P tab L r b h Q .normal fr h:=⟨rfl,hx _ rfl⟩
theorem WV.yieldG {L args h Q t ps a b x y} {r:ALoop} (hl:Lies h L (.loop r)) (hr:Ready r t ps a b) (hn:Nat.beq args.length ps.length=true)
  (hx:WX P tab a ⟨zA8 ps args t,[],some L⟩ h (zVE P tab L r b h Q)):WV P tab (.func (.yield L) x y) args h Q:=by
 obtain⟨h1,h2,rfl,rfl,rfl,rfl⟩:=hr;refine WV.yield hl h1 hn ?_;refine WX.mono hx fun e fr h' k=> ?_;cases e with
 |normal=>
  refine⟨k.1,?_⟩;obtain⟨e1,k⟩:=k;subst e1;refine WX.mono k fun e fr h' k=> ?_;cases e with
  |normal=>
   obtain⟨k1,k2,k3⟩:=k;refine⟨k1,_,k2,?_⟩;have:({busy r with state:= .ready,pending:=none}:ALoop)=r:=by
    cases r;simp only[busy]at *;simp_all
   rw[this];exact k3
  |exit i=>exact k.elim
  |goto i=>exact k.elim
  |ret=>exact k.elim
 |exit i=>exact k.elim
 |goto i=>exact k.elim
 |ret=>exact k.elim
theorem WX.rangeG {f ps a b t ds h K} {fv:Value} (hx:∀ (L g:Nat) (r:ALoop) (hO:AHeap),Ready r t ps a b->Ext h hO->h.n<=L->h.n<=g->Lies hO L (.loop r)->Lies hO g (.deferred (some []))->
   WV P tab fv [.func (.yield L) #[] #[]] hO fun _ h2=>Lies h2 L (.loop r)/\∀ r3,K .normal ⟨t,{target:= .collected g,args:=#[]}::ds,none⟩ (h2.set L (.loop r3))) (hf:Ope t f fv:=by exact zT):WX P tab (.rangeFunc f ps a b) ⟨t,ds,none⟩ h K:=by
 refine WX.rangeF ?_;have hf:Am.ev t f=fv:=hf;rw[hf];refine WV.mono (hx (h.n+1) h.n _ _ ⟨rfl,rfl,rfl,rfl,rfl,rfl⟩ (zNK h t ps a b) (GV _) (QF _) (zJW ..) (zLt ..)) fun _ h2 ⟨k1,k2⟩=> ?_;exact⟨_,k1,rfl,rfl,k2 _⟩
end
structure Hid (p:Prop):Prop where
 out:p
def swp (xs:List Int) (i j:Int):List Int:=(xs.set i.toNat (xs.getD j.toNat 0)).set j.toNat (xs.getD i.toNat 0)
abbrev atI (xs:List Int) (i:Int):Int:=xs.getD i.toNat 0
theorem zJq (xs:List Int) (i j:Int):(swp xs i j).length=xs.length:=by simp[swp]
theorem zBM {xs:List Int} {i:Nat} {v:Int} {k:Nat} (hi:i<xs.length):(xs.set i v).getD k 0=if k=i then v else xs.getD k 0:=by
 simp only[QE,List.getElem?_set];by_cases h:i=k
 ·subst h;simp[hi]
 ·rw[QD h,QD (fun e=>h e.symm)]
theorem yU {xs:List Int} {i j k:Int} (hi:0<=i/\i<xs.length) (hj:0<=j/\j<xs.length) (hk:0<=k):atI (swp xs i j) k=if k=j then atI xs i else if k=i then atI xs j else atI xs k:=by
 unfold atI swp;rw[zBM (by simp;omega),zBM (by omega)];have e1:(k.toNat=j.toNat)↔k=j:=by omega
 have e2:(k.toNat=i.toNat)↔k=i:=by omega
 simp only[e1,e2]
theorem zDH (c v:Int):∀ (xs:List Int) (i:Nat),i<xs.length->(xs.set i v).count c+(if xs.getD i 0=c then 1 else 0)=xs.count c+(if v=c then 1 else 0)
 |[],i,h=>by simp at h
 |x::xs,0,_=>by
  simp only[List.set_cons_zero,List.count_cons,List.getD_cons_zero,beq_iff_eq];omega
 |x::xs,i+1,h=>by
  have:=zDH c v xs i (by simpa using h);simp only[List.set_cons_succ,List.count_cons,List.getD_cons_succ,beq_iff_eq]at *;omega
theorem zNx {xs:List Int} {i j:Int} (hi:0<=i/\i<xs.length) (hj:0<=j/\j<xs.length):(swp xs i j).Perm xs:=by
 rw[List.perm_iff_count];intro c;have h1:=zDH c (xs.getD j.toNat 0) xs i.toNat (by omega);have h2:=zDH c (xs.getD i.toNat 0) (xs.set i.toNat (xs.getD j.toNat 0)) j.toNat (by simp;omega);rw[zBM (by omega)]at h2;unfold swp;by_cases e:j.toNat=i.toNat
 ·rw[QI e]at h2;rw[e]at h1 h2 |-;omega
 ·rw[QD e]at h2;omega
structure PI (a b:Int) (xs ys:List Int):Prop where
 len:ys.length=xs.length
 perm:ys.Perm xs
 out:∀ k:Int,0<=k->(k<a\/b<=k)->atI ys k=atI xs k
theorem PI.refl (a b:Int) (xs:List Int):PI a b xs xs:=⟨rfl,.refl _,fun _ _ _=>rfl⟩
theorem PI.trans {a b:Int} {xs ys zs:List Int} (h:PI a b xs ys) (k:PI a b ys zs):PI a b xs zs:=⟨k.len.trans h.len,k.perm.trans h.perm,fun i h0 hi=>(k.out i h0 hi).trans (h.out i h0 hi)⟩
theorem PI.mono {a b a' b':Int} {xs ys:List Int} (h:PI a b xs ys) (ha:a'<=a) (hb:b<=b'):PI a' b' xs ys:=⟨h.len,h.perm,fun k h0 hk=>h.out k h0 (by omega)⟩
theorem PI.swp {a b i j:Int} {xs:List Int} (h0:0<=a) (hb:b<=xs.length) (hi:a<=i/\i<b) (hj:a<=j/\j<b):PI a b xs (swp xs i j):=
 ⟨zJq ..,zNx (by omega) (by omega),fun k hk ho=>by rw[yU (by omega) (by omega) hk,QD (by omega),QD (by omega)]⟩
theorem zES (xs:List Int) (a b:Nat) (hab:a<=b):xs=xs.take a++((xs.drop a).take (b - a)++xs.drop b):=by
 have:xs.drop b=(xs.drop a).drop (b - a):=by rw[JA];congr 1;omega
 rw[this,Gb,Gb]
theorem zCO {xs ys:List Int} (hl:xs.length=ys.length) (h:∀ k:Nat,k<xs.length->xs.getD k 0=ys.getD k 0):xs=ys:=by
 apply List.ext_getElem hl;intro i h1 h2;have:=h i h1;simpa [List.getD,QB h1,QB h2]using this
theorem PI.all {a b:Int} {xs ys:List Int} (h:PI a b xs ys) (h0:0<=a) (hb:b<=xs.length) {p:Int->Prop} (hp:∀ k,a<=k->k<b->p (atI xs k)):∀ k,a<=k->k<b->p (atI ys k):=by
 intro k hk1 hk2;obtain⟨A,rfl⟩:∃ A:Nat,a=A:=⟨a.toNat,by omega⟩;obtain⟨B,rfl⟩:∃ B:Nat,b=B:=⟨b.toNat,by omega⟩;have hl:=h.len;have e1:=zES xs A B (by omega);have e2:=zES ys A B (by omega);have t1:ys.take A=xs.take A:=zCO (by simp[hl]) fun k hk=>by
  have hk':k<A:=by simp at hk;omega
  have:=h.out (k:Int) (by omega) (by omega);simpa [atI,QE,GD,hk']using this
 have t2:ys.drop B=xs.drop B:=zCO (by simp[hl]) fun k hk=>by
  have:=h.out ((B+k:Nat):Int) (by omega) (by omega);simp only[atI,GQ]at this;simpa [QE,GL]using this
 have hp':=h.perm;rw[e1,e2,t1,t2]at hp';have hs:=(List.perm_append_right_iff _).1 ((List.perm_append_left_iff _).1 hp');have hmem:atI ys k∈(ys.drop A).take (B - A):=by
  rw[Gm];refine⟨k.toNat - A,?_⟩;rw[GD,QI (by omega),GL,show A+(k.toNat - A)=k.toNat by omega];unfold atI;rw[QE,QB (by omega)];rfl
 obtain⟨m,hm⟩:=Gm.1 (hs.mem_iff.1 hmem);rw[GD]at hm;split at hm
 ·rename_i hlt;rw[GL]at hm;have:=hp ((A+m:Nat):Int) (by omega) (by omega);unfold atI at this;rw[GQ,QE,hm]at this;exact this
 ·cases hm
def Srt (a b:Int) (xs:List Int):Prop:=∀ i j:Int,a<=i->i<=j->j<b->atI xs i<=atI xs j
theorem Srt.small {a b:Int} {xs:List Int} (h:b<=a+1):Srt a b xs:=fun i j h1 h2 h3=>by
 have:i=j:=by omega
 subst this;exact Qi _
theorem zJm {xs ys:List Int} (h:ys.Perm xs) (s:Srt 0 ys.length ys):ys=xs.mergeSort (fun a b=>decide (a<=b)):=by
 have hp:ys.Pairwise (fun a b=>decide (a<=b)=true):=by
  rw[List.pairwise_iff_getElem];intro i j hi hj hij;have:=s (i:Int) (j:Int) (by omega) (by omega) (by omega);simp only[atI,GQ,QE,QB hi,QB hj,Q7]at this;simpa using this
 refine List.Perm.eq_of_pairwise (le:=fun a b=>decide (a<=b)=true) (fun a b _ _ h1 h2=> ?_) hp ?_ (h.trans (JF xs _).symm)
 ·simp only[Qb]at h1 h2;omega
 ·exact List.pairwise_mergeSort (fun a b c h1 h2=>by simp only[Qb]at *;omega) (fun a b=>by simp only[GA,Qb];omega) xs
theorem zAb (h:AHeap):zc h (inC (zC 0 h))=h:=rfl
theorem zIg {a i j:Int} {zs:List Int} (h0:0<=a) (hj:a<j) (hji:j<=i) (hil:i<zs.length) (hlt:atI zs j<atI zs (j - 1)) (r:∀ p q,a<=p->p<=q->q<=i->q≠j->atI zs p<=atI zs q):∀ p q,a<=p->p<=q->q<=i->q≠j - 1->atI (swp zs j (j - 1)) p<=atI (swp zs j (j - 1)) q:=by
 intro p q h1 h2 h3 h4;rw[yU (by omega) (by omega) (by omega),yU (by omega) (by omega) (by omega),QD h4];by_cases hq:q=j
 ·rw[QI hq];by_cases hp:p=j - 1
  ·rw[QI hp];omega
  ·rw[QD hp];by_cases hp2:p=j
   ·rw[QI hp2];exact Qi _
   ·rw[QD hp2];exact r p (j - 1) h1 (by omega) (by omega) (by omega)
 ·rw[QD hq];by_cases hp:p=j - 1
  ·rw[QI hp];exact r j q (by omega) (by omega) h3 hq
  ·rw[QD hp];by_cases hp2:p=j
   ·rw[QI hp2];exact r (j - 1) q (by omega) (by omega) h3 hq
   ·rw[QD hp2];exact r p q h1 h2 h3 hq
theorem Upd.trans {v:Value} {h h1 h2:AHeap} (a:Upd v h h1) (b:Upd v h1 h2):Upd v h h2:=⟨QW a.1 b.1,fun g hg hv=>(b.2 g (QG hg a.1) hv).trans (a.2 g hg hv)⟩
theorem Upd.refl (v:Value) (h:AHeap):Upd v h h:=⟨QF _,fun _ _ _=>rfl⟩
structure SS (hB h:AHeap) (v:Value) (a b:Int) (xs ys:List Int) (h1:AHeap):Prop where
 own:OwnI hB h1 v ys
 ext:Ext hB h1
 upd:Upd v h h1
 pi:PI a b xs ys
theorem SS.start {hB h:AHeap} {v:Value} {xs:List Int} (a b:Int) (o:OwnI hB h v xs) (e:Ext hB h):SS hB h v a b xs xs h:=⟨o,e,Upd.refl v h,PI.refl ..⟩
theorem SS.swp {hB h h1 h3:AHeap} {v:Value} {a b i j:Int} {xs ys:List Int} (s:SS hB h v a b xs ys h1) (e3:Ext hB h3) (o3:OwnI hB h3 v (swp ys i j)) (u3:Upd v h1 h3) (h0:0<=a) (hb:b<=xs.length) (hi:a<=i/\i<b) (hj:a<=j/\j<b):SS hB h v a b xs (swp ys i j) h3:=
 ⟨o3,e3,s.upd.trans u3,s.pi.trans (PI.swp h0 (by rw[s.pi.len];exact hb) hi hj)⟩
theorem SS.call {hB h h1 h2:AHeap} {v:Value} {a b c d:Int} {xs ys zs:List Int} (s:SS hB h v a b xs ys h1) (k:SS hB h1 v c d ys zs h2) (ha:a<=c) (hb:d<=b):SS hB h v a b xs zs h2:=
 ⟨k.own,k.ext,s.upd.trans k.upd,s.pi.trans (k.pi.mono ha hb)⟩
theorem UpdC.trans {p:Value} {h h1 h2:AHeap} (a:UpdC p h h1) (b:UpdC p h1 h2):UpdC p h h2:=⟨QW a.1 b.1,fun g hg hv=>(b.2 g (QG hg a.1) hv).trans (a.2 g hg hv)⟩
theorem SS.extd {hB h h1 h2:AHeap} {v:Value} {a b:Int} {xs ys:List Int} (s:SS hB h v a b xs ys h1) (e:Ext h1 h2):SS hB h v a b xs ys h2:=
 ⟨s.own.ext e,s.ext.trans e,s.upd.trans ⟨e.n,fun g hg _=>e.get g hg⟩,s.pi⟩
theorem SS.updC {hB h h1 h2:AHeap} {v:Value} {a b:Int} {xs ys:List Int} {g:Nat} (s:SS hB h v a b xs ys h1) (o:OwnI hB h v xs) (hg:h.n<=g) (e:Ext hB h2) (u:UpdC (.pointer (some ⟨g,0,none⟩)) h1 h2):SS hB h v a b xs ys h2:=by
 obtain⟨q,q1,q2,qv,q3⟩:=s.own;obtain⟨q',_,q2',qv',_⟩:=o;rw[qv,s.pi.len]at qv';cases qv';refine⟨⟨q,q1,QG q2 u.1,qv,(u.2 q q2 fun e=>by cases e;omega).trans q3⟩,e,⟨QW s.upd.1 u.1,fun k hk hv=>(u.2 k (QG hk s.upd.1) fun e=>by cases e;omega).trans (s.upd.2 k hk hv)⟩,s.pi⟩
theorem OwnC.updV {hB hA h h1 h2:AHeap} {v:Value} {xs:List Int} {g:Nat} {cs:List Value} (w:OwnC hA h1 (.pointer (some ⟨g,0,none⟩)) cs) (o:OwnI hB h v xs) (hg:h.n<=g) (u:Upd v h1 h2):OwnC hA h2 (.pointer (some ⟨g,0,none⟩)) cs:=by
 obtain⟨q',_,q2',rfl,_⟩:=o;obtain⟨g',g1,g2,gv,g3⟩:=w;cases gv;exact⟨g,g1,QG g2 u.1,rfl,(u.2 g g2 fun a n c e=>by cases e;simp only;omega).trans g3⟩
theorem OwnC.offC {hA h h':AHeap} {p:Value} {cs:List Value} {g4:Nat} (o:OwnC hA h p cs) (u:UpdC (.pointer (some ⟨g4,0,none⟩)) h h') (hg:g4<hA.n):OwnC hA h' p cs:=by
 obtain⟨g,g1,g2,rfl,g3⟩:=o;exact⟨g,g1,QG g2 u.1,rfl,(u.2 g g2 fun e=>by cases e;omega).trans g3⟩
theorem OwnN.offC {hA h h':AHeap} {v:Value} {xs:List Int} {g4:Nat} (o:OwnN hA h v xs) (u:UpdC (.pointer (some ⟨g4,0,none⟩)) h h') (hg:g4<hA.n):OwnN hA h' v xs:=by
 rcases o with o|⟨g,g1,g2,rfl,g3⟩
 ·exact .inl o
 ·exact .inr ⟨g,g1,QG g2 u.1,rfl,(u.2 g g2 fun e=>by cases e;omega).trans g3⟩
theorem UpdC.setL {p:Value} {h h':AHeap} {L:Nat} {o:AObj} (u:UpdC p h h') (hL:h.n<=L):UpdC p h (h'.set L o):=⟨u.1,fun g hg hv=>by rw[zR,QD (by omega)];exact u.2 g hg hv⟩
theorem UpdC.extd {p:Value} {h h' h2:AHeap} (u:UpdC p h h') (e:Ext h' h2):UpdC p h h2:=⟨QW u.1 e.n,fun g hg hv=>(e.get g (QG hg u.1)).trans (u.2 g hg hv)⟩
theorem UpdC.upd {p w:Value} {h h' h2:AHeap} {xs:List Int} (u:UpdC p h h') (o:OwnN h h' w xs) (u2:Upd w h' h2):UpdC p h h2:=⟨QW u.1 u2.1,fun g hg hv=>by
 refine(u2.2 g (QG hg u.1) fun a n c e=> ?_).trans (u.2 g hg hv);rcases o with ⟨rfl,_⟩|⟨q,q1,_,rfl,_⟩
 ·cases e
 ·cases e;simp only;omega⟩
theorem UpdC.refl (p:Value) (h:AHeap):UpdC p h h:=⟨QF _,fun _ _ _=>rfl⟩
theorem OwnI.rebase {hA hB h:AHeap} {g n k:Nat} {xs:List Int} (o:OwnI hA h (.slice (some ⟨g,0,none⟩) n k) xs) (hg:hB.n<=g):OwnI hB h (.slice (some ⟨g,0,none⟩) n k) xs:=by
 obtain⟨q,q1,q2,qv,q3⟩:=o;cases qv;exact⟨g,hg,q2,rfl,q3⟩
theorem SS.len {hB h h1:AHeap} {v:Value} {a b:Int} {xs ys:List Int} (k:SS hB h v a b xs ys h1):ys.length=xs.length:=k.pi.len
section
variable {P:Program} {tab:Tab} {t:Trie Value} {ds:List Deferred} {rd:Option Nat}
theorem WU2.swap {N0 g d:Nat} {cl:Bool} {x y z w u:Operand} {v:Value} {xs:List Int} {i j:Nat} {h0 hS:AHeap} {K:AExit->AFr->AHeap->Prop} {va vb:Int} (o:OwnI h0 hS v xs) (e0:Ext h0 hS) (hm:hS.mark<=h0.n)
  (hx:ev t x=zw v i) (hy:ev t y=I va) (hi:i<xs.length) (hj:j<xs.length) (hz:ev t z=v) (hw:asN (ev t w)=some j) (hu:ev (t.set d (zw v j)) u=I vb)
  (k:∀ h1,Ext h0 h1->OwnI h0 h1 v ((xs.set i va).set j vb)->Upd v hS h1->K .normal ⟨t.set d (zw v j),ds,rd⟩ h1):
  WU2 P tab hS.mark N0 [(⟨none,none,.store 1 x y⟩,[]),(⟨some d,none,.idx 1 z w⟩,[]),(⟨none,none,.store 1 (.tmp d) u⟩,[])] g cl ⟨t,ds,rd⟩ (inC (zC 0 hS)) (zB1 K hS):=by
 obtain⟨q,g1,g2,rfl,g3⟩:=o;rw[WU2,QD (show ¬Nat.beq (zF (AOp.store 1 x y)) 3=true from Bool.noConfusion)];have hst1:zY (inC (inC (zC 0 hS))) ⟨q,i,none⟩ [I va]=some ((inC (inC (zC 0 hS))).set q (.row (zX (xs.map I) i [I va]) true 0)):=by
  have h1:Nat.ble (i+1) (xs.map I).length=true:=QH (by simp;omega);have h0:Nat.ble 0 i=true:=QH (QV _);have g3':(inC (inC (zC 0 hS))).get q=some (.row (xs.map I) true 0):=g3;simp only[zY,g3',Qa,h1,h0,Qu];rfl
 rw[zAY _ _ _ hi]at hst1;have hc:∀ a,(I a).cells=#[I a]:=fun _=>rfl;refine WO.op0 undef ((inC (inC (zC 0 hS))).set q (.row ((xs.set i va).map I) true 0)) rfl (by
  simp only[aop,hx,zw,hy,Q4,hc,hst1,QK];rfl) ?_
 refine WO.nil ⟨⟨fun k hk=> ?_,QF _,.inl rfl⟩,?_⟩
 ·have hk2:k∈(inC (inC (zC 0 hS))).log q:=hk;rcases yv hk2 with rfl|hk3
  ·omega
  ·cases hk3
 generalize hh1:(inC (inC (zC 0 hS))).set q (.row ((xs.set i va).map I) true 0)=h1;have n1:h1.n=hS.n:=by rw[<-hh1];rfl
 have get1:∀ k,h1.get k=if k=q then some (.row ((xs.set i va).map I) true 0) else hS.get k:=fun k=>by
  rw[<-hh1,zR];rfl
 rw[WU2,QD (show ¬Nat.beq (zF (AOp.idx 1 z w)) 3=true from Bool.noConfusion)];have hb:Nat.ble (j+1) xs.length=true:=QH hj;refine WO.op (zw (.slice (some ⟨q,0,none⟩) xs.length 1) j) (inC h1) rfl (by
  have hz':ev t z= .slice (some ⟨q,0,none⟩) xs.length 1:=hz;simp[aop,hz',hw,hb,zw]) ?_
 refine WO.nil ⟨⟨fun k hk=>(by cases hk),QF _,.inl rfl⟩,?_⟩;rw[WU2,QD (show ¬Nat.beq (zF (AOp.store 1 (.tmp d) u)) 3=true from Bool.noConfusion)];have hst2:zY (inC (inC h1)) ⟨q,j,none⟩ [I vb]=some ((inC (inC h1)).set q (.row (zX ((xs.set i va).map I) j [I vb]) true 0)):=by
  have h1':Nat.ble (j+1) ((xs.set i va).map I).length=true:=QH (by simp;omega);have h0:Nat.ble 0 j=true:=QH (QV _);have g3':(inC (inC h1)).get q=some (.row ((xs.set i va).map I) true 0):=by
   have:=get1 q;rw[QI rfl]at this;exact this
  simp only[zY,g3',Qa,h1',h0,Qu];rfl
 rw[zAY _ _ _ (by simp;omega)]at hst2;refine WO.op0 undef ((inC (inC h1)).set q (.row (((xs.set i va).set j vb).map I) true 0)) rfl (by
  have e1:ev (t.set d (zw (.slice (some ⟨q,0,none⟩) xs.length 1) j)) (.tmp d)=zw (.slice (some ⟨q,0,none⟩) xs.length 1) j:=by simp only[ev,z0,Qv]
  have hp:zw (.slice (some ⟨q,0,none⟩) xs.length 1) j= .pointer (some ⟨q,j,none⟩):=by simp[zw]
  rw[hp]at e1 hu;rw[hp];simp only[aop,e1,hu,hc,hst2,QK];rfl) ?_
 refine WO.nil ⟨⟨fun k hk=> ?_,QF _,.inl rfl⟩,?_⟩
 ·have hk2:k∈(inC (inC h1)).log q:=hk;rcases yv hk2 with rfl|hk3
  ·omega
  ·cases hk3
 have get2:∀ k,(zc hS ((inC (inC h1)).set q (.row (((xs.set i va).set j vb).map I) true 0))).get k=if k=q then some (.row (((xs.set i va).set j vb).map I) true 0) else hS.get k:=fun k=>by
  have e1:((inC (inC h1)).set q (.row (((xs.set i va).set j vb).map I) true 0)).get k=if k=q then some (.row (((xs.set i va).set j vb).map I) true 0) else (inC (inC h1)).get k:=zR ..;have e2:(inC (inC h1)).get k=h1.get k:=rfl;have e3:(zc hS ((inC (inC h1)).set q (.row (((xs.set i va).set j vb).map I) true 0))).get k=((inC (inC h1)).set q (.row (((xs.set i va).set j vb).map I) true 0)).get k:=rfl;rw[e3,e1,e2,get1];by_cases e:k=q<;>simp[e]
 have nn:(zc hS ((inC (inC h1)).set q (.row (((xs.set i va).set j vb).map I) true 0))).n=hS.n:=n1;refine k (zc hS ((inC (inC h1)).set q (.row (((xs.set i va).set j vb).map I) true 0))) ?_ ?_ ?_
 ·refine⟨by rw[nn];exact e0.n,fun c hc=>by rw[get2,QD (by omega)];exact e0.get c hc,fun w c hc=> ?_,e0.mark,fun hmk=>e0.wr hmk⟩;rw[nn]at hc;rw[get2,QD (by omega)];exact e0.wf w c hc
 ·exact⟨q,g1,by rw[nn];exact g2,by simp,by rw[get2,QI rfl]⟩
 ·exact⟨by rw[nn];exact QF _,fun c _ hc=>by rw[get2,QD (fun e=>hc _ _ _ rfl e.symm)]⟩
theorem AsN.ope {y:Operand} {n:Int} (h:Ope t y (I n)) (hn:0<=n):asN (ev t y)=some n.toNat:=by
 unfold Ope at h;rw[h];obtain⟨k,rfl⟩:∃ k:Nat,n=k:=⟨n.toNat,by omega⟩;rfl
theorem WU2.swA {N0 g d:Nat} {cl:Bool} {x y z w u:Operand} {v:Value} {xs:List Int} {h0 hS:AHeap} {K:AExit->AFr->AHeap->Prop} (i j:Int) (o:OwnI h0 hS v xs) (e0:Ext h0 hS) (hm:hS.mark<=h0.n)
  (k:∀ h1,Ext h0 h1->OwnI h0 h1 v (swp xs i j)->Upd v hS h1->K .normal ⟨t.set d (zw v j.toNat),ds,rd⟩ h1)
  (hi:0<=i/\i<xs.length:=by omega) (hj:0<=j/\j<xs.length:=by omega)
  (hx:Ope t x (zw v i.toNat):=by exact zT) (hy:Ope t y (I (atI xs j)):=by exact zT) (hz:Ope t z v:=by exact zT) (hw:Ope t w (I j):=by exact zT) (hu:Ope (t.set d (zw v j.toNat)) u (I (atI xs i)):=by exact zT):
  WU2 P tab hS.mark N0 [(⟨none,none,.store 1 x y⟩,[]),(⟨some d,none,.idx 1 z w⟩,[]),(⟨none,none,.store 1 (.tmp d) u⟩,[])] g cl ⟨t,ds,rd⟩ (inC (zC 0 hS)) (zB1 K hS):=
 WU2.swap o e0 hm hx hy (by omega) (by omega) hz (AsN.ope hw hj.1) hu k
theorem WX.cutA {c:ACode} {h:AHeap} {K:AExit->AFr->AHeap->Prop} (ws:List Nat) (hw:z9 c=ws) (M:Trie Value->AHeap->Prop) (h1:WX P tab c ⟨t,ds,rd⟩ h (zNu M ds rd K)) (h2:∀ t' h',zHq ws t t'->M t' h'->K .normal ⟨t',ds,rd⟩ h'):WX P tab c ⟨t,ds,rd⟩ h K:=
 (WX.frame h1).mono fun e fr h ⟨hf,hx⟩=>by
  unfold zNu at hx;cases e with
  |normal=>
   obtain⟨t',ds',rd'⟩:=fr;obtain⟨e1,e2,e3⟩:=hx;simp only at e1 e2 e3;subst e1 e2;exact h2 _ _ (fun j hj=>hf j (by rw[hw];intro hc;have:=Zu hj;simp[hc]at this)) e3
  |exit i=>exact hx
  |goto i=>exact hx
  |ret=>exact hx
theorem WO.bin {d:Nat} {op:BinOp} {x y:Operand} {vx vy v:Value} {h:AHeap} {l:List AOper} {Q:AFr->AHeap->Prop} (hx:Ope t x vx) (hy:Ope t y vy) (e:zd op vx vy=some v) (k:WO P tab l ⟨t.set d v,ds,rd⟩ h Q):WO P tab (⟨some d,none,.bin op x y⟩::l) ⟨t,ds,rd⟩ h Q:=
 WO.o (by
  have hx:ev t x=vx:=hx;have hy:ev t y=vy:=hy;simp only[aop,hx,hy,e,QK]) k
theorem WO.eStr {d:Nat} {x i:Operand} {s:ByteArray} {m:Int} {kk:IntKind} {n:Nat} {b:UInt8} {h:AHeap} {l:List AOper} {Q:AFr->AHeap->Prop} (hb:s[n]?=some b) (hn:asN (.int kk m)=some n) (k:WO P tab l ⟨t.set d (.int .u8 b.toNat),ds,rd⟩ h Q) (hx:Ope t x (.string s):=by exact Ope.const) (hi:Ope t i (.int kk m):=by exact zT):WO P tab (⟨some d,none,.elemStr x i⟩::l) ⟨t,ds,rd⟩ h Q:=
 WO.o (by
  have hx:ev t x= .string s:=hx;have hi:ev t i= .int kk m:=hi;simp only[aop,hx,hi,hn,hb]) k
theorem WO.quo {d:Nat} {x:Operand} {a c:Int} {h:AHeap} {l:List AOper} {Q:AFr->AHeap->Prop} (hc:c≠0) (h1: -9223372036854775808<=a.tdiv c) (h2:a.tdiv c<=9223372036854775807) (k:WO P tab l ⟨t.set d (I (a.tdiv c)),ds,rd⟩ h Q) (hx:Ope t x (I a):=by exact zT):WO P tab (⟨some d,none,.bin .quo x (.const (I c))⟩::l) ⟨t,ds,rd⟩ h Q:=
 WO.bin hx (vy:=I c) rfl (by simp only[zd,Qv,QD hc,zCu h1 h2]) k
theorem ZM {n:Int} (h1:0<=n) (h2:n<18446744073709551616):IntKind.wrap .u64 n=n:=by
 simp[IntKind.wrap,IntKind.signed,IntKind.bits];omega
theorem zTB {n:Int} (h1:0<=n) (h2:n<256):IntKind.wrap .u8 n=n:=by
 simp[IntKind.wrap,IntKind.signed,IntKind.bits];omega
theorem zU7 {n:Int} {kk:IntKind} (h:0<=n):zd .shr (.int .u64 n) (.int kk 16)=some (.int .u64 (n / 65536)):=by
 have e:(min (16:Int).toNat IntKind.u64.bits)=16:=rfl;simp only[zd,e];rw[QD (by decide),Int.fdiv_eq_ediv_of_nonneg _ (by decide)];rfl
theorem zVg {n:Int} {kk:IntKind} (h:0<=n):zd .shr (.int .u64 n) (.int kk 8)=some (.int .u64 (n / 256)):=by
 have e:(min (8:Int).toNat IntKind.u64.bits)=8:=rfl;simp only[zd,e];rw[QD (by decide),Int.fdiv_eq_ediv_of_nonneg _ (by decide)];rfl
theorem zQ8 (y:Int) {m:Int} (h:0<=m/\m<=9223372036854775807):∃ r:Int,zd .and (.int .u64 y) (.int .u64 m)=some (.int .u64 r)/\0<=r/\r<=m:=by
 have hb:(BitVec.ofInt 64 m).toNat=m.toNat:=by
  rw[BitVec.toNat_ofInt];omega
 have hle:(BitVec.ofInt 64 y&&& BitVec.ofInt 64 m).toNat<=m.toNat:=by
  rw[BitVec.toNat_and,hb];exact Nat.and_le_right
 refine⟨((BitVec.ofInt 64 y&&& BitVec.ofInt 64 m).toNat:Int),?_,by omega,by omega⟩;simp only[zd,Qv,IntKind.bits];rw[ZM (by omega) (by omega)];rfl
theorem WU2.stN {N0 g n:Nat} {cl:Bool} {x y:Operand} {p v:Value} {cells:List Value} {h0 hS:AHeap} {K:AExit->AFr->AHeap->Prop} (cs:List Value) (o:OwnC h0 hS p cells) (e0:Ext h0 hS) (hm:hS.mark<=h0.n)
  (k:∀ h1,Ext h0 h1->OwnC h0 h1 p cs->UpdC p hS h1->K .normal ⟨t,ds,rd⟩ h1) (hx:Ope t x p:=by exact zT) (hy:Ope t y v:=by exact zT) (hv:v.cells=cs.toArray:=by rfl) (h1:zN cs=true:=by rfl) (hn:cs.length=n:=by rfl) (hl:cells.length=n:=by rfl):
  WU2 P tab hS.mark N0 [(⟨none,none,.store n x y⟩,[])] g cl ⟨t,ds,rd⟩ (inC (zC 0 hS)) (zB1 K hS):=by
 obtain⟨q,g1,g2,rfl,g3⟩:=o;subst hn;have hx:ev t x= .pointer (some ⟨q,0,none⟩):=hx;have hy:ev t y=v:=hy;rw[WU2,QD (show ¬Nat.beq (zF (AOp.store cs.length x y)) 3=true from Bool.noConfusion)];have hst:zY (inC (inC (zC 0 hS))) ⟨q,0,none⟩ cs=some ((inC (inC (zC 0 hS))).set q (.row cs true 0)):=by
  have h2:Nat.ble (0+cs.length) cells.length=true:=QH (by omega);have h3:Nat.ble 0 0=true:=rfl;have h4:zX cells 0 cs=cs:=by simp[zX,hl]
  have g3':(inC (inC (zC 0 hS))).get q=some (.row cells true 0):=g3;simp only[zY,g3',h2,h3,h1,h4,Qs,Qu,cond_true]
 refine WO.op0 undef ((inC (inC (zC 0 hS))).set q (.row cs true 0)) rfl (by
  simp only[aop,hx,hy,hv,G3,Ge,hst,QK,cond_true]) ?_
 refine WO.nil ⟨⟨fun k hk=> ?_,QF _,.inl rfl⟩,?_⟩
 ·have hk2:k∈(inC (inC (zC 0 hS))).log q:=hk;rcases yv hk2 with rfl|hk3
  ·omega
  ·cases hk3
 have get2:∀ k,(zc hS ((inC (inC (zC 0 hS))).set q (.row cs true 0))).get k=if k=q then some (.row cs true 0) else hS.get k:=fun k=>by
  have e1:((inC (inC (zC 0 hS))).set q (.row cs true 0)).get k=if k=q then some (.row cs true 0) else (inC (inC (zC 0 hS))).get k:=zR ..;exact e1
 refine k (zc hS ((inC (inC (zC 0 hS))).set q (.row cs true 0))) ?_ ?_ ?_
 ·refine⟨e0.n,fun c hc=>by rw[get2,QD (by omega)];exact e0.get c hc,fun w c hc=> ?_,e0.mark,fun hmk=>e0.wr hmk⟩;have hc:hS.n<=c:=hc;rw[get2,QD (by omega)];exact e0.wf w c hc
 ·exact⟨q,g1,g2,rfl,by rw[get2,QI rfl]⟩
 ·exact⟨QF _,fun c _ hc=>by rw[get2,QD (fun e=>hc (by rw[e]))]⟩
theorem zD2 {C D:Prop} [Decidable C] [Decidable D] (h:C):decide (C/\D)=decide D:=by simp[h]
theorem zCS {C D:Prop} [Decidable C] [Decidable D] (h:C):decide (C/\¬D)= !decide D:=by simp[h]
end
end Go.Am
