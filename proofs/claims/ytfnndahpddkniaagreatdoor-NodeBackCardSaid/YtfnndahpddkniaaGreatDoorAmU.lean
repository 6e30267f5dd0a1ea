/- A part of the abstract machine for the model's programs and of the proof that what it yields the model's call yields (definitions, operations, runs, regions that draw their order); no statement of the seat is proved in this text. -/
import Derived.Test.YtfnndahpddkniaaGreatDoorAmR
import Derived.Test.YtfnndahpddkniaaGreatDoorAmA
import Derived.Test.YtfnndahpddkniaaGreatDoorAmD
set_option linter.unusedVariables false
set_option linter.unusedSimpArgs false
namespace Go.Am
def oV (a b:ACode):ACode:= .seq a b
def oJ (c:Nat) (a b:ACode):ACode:= .cond (.tmp c) a b
def o5 (n:Nat) (a:ACode):ACode:= .block n a
def o6 (l:List (AOper×List Nat)):ACode:= .regionC l
instance:Coe AOper (AOper×List Nat):=⟨fun o=>(o,[])⟩
def Slot (t:Trie Value) (k:Nat) (v:Value):Prop:=zB t k=v
def Ope (t:Trie Value) (x:Operand) (v:Value):Prop:=ev t x=v
def zHG (j:Nat):List Nat->Bool
 |[]=>true
 |k::l=>bif Nat.beq j k then false else zHG j l
def zE1 (ws:List Nat) (t0 t:Trie Value):Prop:=∀ j,zHG j ws=true->zB t j=zB t0 j
theorem Slot.here {t:Trie Value} {k:Nat} {v:Value}:Slot (t.set k v) k v:=by unfold Slot;rw[zh,QI rfl]
theorem Slot.there {t:Trie Value} {k j:Nat} {v w:Value} (hn:Nat.beq j k=false) (s:Slot t j v):Slot (t.set k w) j v:=by
 unfold Slot at *;rw[zh,QD (fun e=>by subst e;simp at hn)];exact s
theorem Slot.same {ws t0 t j v} (hs:zE1 ws t0 t) (hn:zHG j ws=true) (s:Slot t0 j v):Slot t j v:=(hs j hn).trans s
theorem Ope.tmp {t k v} (s:Slot t k v):Ope t (.tmp k) v:=s
theorem Ope.const {t v}:Ope t (.const v) v:=rfl
theorem Ope.fn {t f}:Ope t (.func f) (.func (.func f) #[] #[]):=rfl
theorem Ope.glob {t g}:Ope t (.global g) (.pointer (some ⟨g,0,none⟩)):=rfl
def Opes (t:Trie Value) (xs:List Operand) (vs:List Value):Prop:=xs.map (ev t)=vs
theorem Opes.nil {t}:Opes t [] []:=rfl
theorem Opes.cons {t x xs v vs} (h:Ope t x v) (k:Opes t xs vs):Opes t (x::xs) (v::vs):=by unfold Opes Ope at *;simp[h,k]
def AsN (n:Int) (i:Nat):Prop:=asN (I n)=some i
theorem AsN.nat {i:Nat}:AsN (i:Int) i:=rfl
theorem AsN.lit {n:Int} {i:Nat} (h:n=(i:Int)):AsN n i:=by subst h;rfl
theorem AsN.int {n:Int} (h:0<=n):AsN n n.toNat:=by
 obtain⟨i,rfl⟩:=Int.eq_ofNat_of_zero_le h;rfl
def Parts (t:Trie Value) (ps:List (Nat×Nat×Operand)) (vs:List (Nat×Nat×Value)):Prop:=zi t ps=vs
theorem Parts.nil {t}:Parts t [] []:=rfl
theorem Parts.cons {t a b x ps v vs} (h:Ope t x v) (k:Parts t ps vs):Parts t ((a,b,x)::ps) ((a,b,v)::vs):=by unfold Parts Ope at *;unfold zi at *;simp[h,k]
theorem ZS {j:Nat}:∀ {l:List Nat},zHG j l=true->l.contains j=false
 |[],_=>rfl
 |k::l,h=>by
  unfold zHG at h;cases hb:Nat.beq j k with
  |true=>rw[hb]at h;cases h
  |false=>
   rw[hb]at h;have:=ZS (l:=l) h;simp only[List.contains_cons,this,Qp];have:j≠k:=fun e=>by subst e;simp at hb
   simpa using this
theorem YO {t k v} (h:Slot t k v:=by (repeat (first|((with_reducible apply Slot.there);rfl)|((with_reducible apply Slot.same);(with_reducible assumption);rfl)));first|with_reducible exact Slot.here|with_reducible assumption|(unfold Slot;with_reducible assumption)):Slot t k v:=h
theorem zH {t x v} (h:Ope t x v:=by first|with_reducible exact Ope.const|((with_reducible apply Ope.tmp);(repeat (first|((with_reducible apply Slot.there);rfl)|((with_reducible apply Slot.same);(with_reducible assumption);rfl)));first|with_reducible exact Slot.here|with_reducible assumption|(unfold Slot;with_reducible assumption))|with_reducible exact Ope.fn|with_reducible exact Ope.glob|fail):Ope t x v:=h
theorem zJg {t xs vs} (h:Opes t xs vs:=by (repeat (apply Opes.cons;(exact zH)));exact Opes.nil):Opes t xs vs:=h
theorem zUU {b:Bool} (h:b=false):(!b)=true:=by rw[h];rfl
theorem zUT {b:Bool} (h:b=true):(!b)=false:=by rw[h];rfl
theorem DB:(∀ a:Prop,∀ [Decidable a],(decide a=true)=a)/\(∀ a:Prop,∀ [Decidable a],(decide a=false)=¬a)/\(∀ b:Bool,((!b)=true)=(b=false))/\(∀ b:Bool,((!b)=false)=(b=true))/\
  (∀ a b:Bool,((a||b)=true)=(a=true\/b=true))/\(∀ a b:Bool,((a&&b)=true)=(a=true/\b=true))/\(∀ a b:Bool,((a||b)=false)=(a=false/\b=false))/\(∀ a b:Bool,((a&&b)=false)=(a=false\/b=false))/\
  (∀ a b:Int,(¬a<b)=(b<=a))/\(∀ a b:Int,(¬a<=b)=(b<a))/\((true=true)=True)/\((false=false)=True)/\((true=false)=False)/\((false=true)=False):=
 ⟨fun a _=>by simp,fun a _=>by simp,fun b=>by simp,fun b=>by simp,fun a b=>by simp,fun a b=>by simp,fun a b=>by simp,fun a b=>by cases a<;>cases b<;>simp,fun a b=>by simp,fun a b=>by simp,by simp,by simp,by simp,by simp⟩
theorem zFy {p:Prop} (h:p:=by first|with_reducible rfl|with_reducible exact Qd|with_reducible exact QT|with_reducible assumption|exact QY (by first|with_reducible assumption|omega)|exact QW (by first|with_reducible assumption|omega)|exact zUU (by first|with_reducible assumption|exact QW (by first|with_reducible assumption|omega)|fail)|exact zUT (by first|with_reducible assumption|exact QY (by first|with_reducible assumption|omega)|fail)|(simp only[DB, *];done)|fail):p:=h
theorem zGo {p:Prop} (h:p:=by first|omega|with_reducible assumption|(simp only[Q8,List.length_set,QP,GH,G1]at *;omega)):p:=h
theorem zLM {n:Int} {i:Nat} (h:AsN n i:=by first|exact AsN.nat|exact AsN.lit rfl|exact AsN.int (by omega)|fail):AsN n i:=h
theorem zSU {h:AHeap} {v:Value} {xs:List Int} (s:SlI h v xs:=by first|with_reducible assumption|exact SlI.ext (by with_reducible assumption) (by with_reducible assumption)|exact OwnI.sl (by with_reducible assumption)|exact OwnN.sl (by with_reducible assumption)|fail):SlI h v xs:=s
theorem zIU {o:Option Value} {r:Value} (h:o=some r:=by first|exact(rfl:_=some (Value.agg #[_,_]))|exact(rfl:_=some (Value.agg #[_,_,_]))|exact(rfl:_=some (Value.agg #[_,_,_,_]))|exact(rfl:_=some (Value.agg #[_,_,_,_,_]))|exact(rfl:_=some (Value.agg #[_,_,_,_,_,_]))|exact(rfl:_=some (Value.agg #[_,_,_,_,_,_,_]))|exact(rfl:_=some (Value.agg #[_,_,_,_,_,_,_,_]))|rfl):o=some r:=h
theorem zUI {o:Option (List Value)} {r:List Value} (h:o=some r:=by first|exact(rfl:_=some [_,_])|exact(rfl:_=some [_,_,_])|exact(rfl:_=some [_,_,_,_])|exact(rfl:_=some [_,_,_,_,_])|exact(rfl:_=some [_,_,_,_,_,_])|exact(rfl:_=some [_,_,_,_,_,_,_])|exact(rfl:_=some [_,_,_,_,_,_,_,_])|rfl):o=some r:=h
def zMa (v:Value):Prop:=∃ a k m,v= .slice (some a) k m
section
variable {P:Program} {tab:Tab} {ds:List Deferred} {rd:Option Nat}
variable {h:AHeap} {l:List AOper} {t:Trie Value} {Q:AFr->AHeap->Prop}
theorem R.mov {d:Nat} {x:Operand} {v:Value} (hx:Ope t x v) (k:WO P tab l ⟨t.set d v,ds,rd⟩ h Q):WO P tab (⟨some d,none,.mov x⟩::l) ⟨t,ds,rd⟩ h Q:=
 WO.op _ _ rfl (by unfold Ope at *;simp only[aop,hx]) k
theorem R.add {d:Nat} {x y:Operand} {a b:Int} (hx:Ope t x (I a)) (hy:Ope t y (I b)) (h1: -9223372036854775808<=a+b) (h2:a+b<=9223372036854775807) (k:WO P tab l ⟨t.set d (I (a+b)),ds,rd⟩ h Q):WO P tab (⟨some d,none,.bin .add x y⟩::l) ⟨t,ds,rd⟩ h Q:=
 WO.op _ _ rfl (by unfold Ope at *;simp only[aop,hx,hy,I,zOa,QJ];rw[zEH h1 h2]) k
theorem R.sub {d:Nat} {x y:Operand} {a b:Int} (hx:Ope t x (I a)) (hy:Ope t y (I b)) (h1: -9223372036854775808<=a - b) (h2:a - b<=9223372036854775807) (k:WO P tab l ⟨t.set d (I (a - b)),ds,rd⟩ h Q):WO P tab (⟨some d,none,.bin .sub x y⟩::l) ⟨t,ds,rd⟩ h Q:=
 WO.op _ _ rfl (by unfold Ope at *;simp only[aop,hx,hy,I,zOV,QJ];rw[zEH h1 h2]) k
theorem R.mul {d:Nat} {x y:Operand} {a b:Int} (hx:Ope t x (I a)) (hy:Ope t y (I b)) (h1: -9223372036854775808<=a * b) (h2:a * b<=9223372036854775807) (k:WO P tab l ⟨t.set d (I (a * b)),ds,rd⟩ h Q):WO P tab (⟨some d,none,.bin .mul x y⟩::l) ⟨t,ds,rd⟩ h Q:=
 WO.op _ _ rfl (by unfold Ope at *;simp only[aop,hx,hy,I,zMo,QJ];rw[zEH h1 h2]) k
theorem R.lss {d:Nat} {x y:Operand} {a b:Int} {kk:IntKind} (hx:Ope t x (.int kk a)) (hy:Ope t y (.int kk b)) (k:WO P tab l ⟨t.set d (.bool (decide (a<b))),ds,rd⟩ h Q):WO P tab (⟨some d,none,.bin .lss x y⟩::l) ⟨t,ds,rd⟩ h Q:=
 WO.op _ _ rfl (by unfold Ope at *;simp only[aop,hx,hy,zNw,QJ]) k
theorem R.leq {d:Nat} {x y:Operand} {a b:Int} {kk:IntKind} (hx:Ope t x (.int kk a)) (hy:Ope t y (.int kk b)) (k:WO P tab l ⟨t.set d (.bool (decide (a<=b))),ds,rd⟩ h Q):WO P tab (⟨some d,none,.bin .leq x y⟩::l) ⟨t,ds,rd⟩ h Q:=
 WO.op _ _ rfl (by unfold Ope at *;simp only[aop,hx,hy,zMW,QJ]) k
theorem R.gtr {d:Nat} {x y:Operand} {a b:Int} {kk:IntKind} (hx:Ope t x (.int kk a)) (hy:Ope t y (.int kk b)) (k:WO P tab l ⟨t.set d (.bool (decide (b<a))),ds,rd⟩ h Q):WO P tab (⟨some d,none,.bin .gtr x y⟩::l) ⟨t,ds,rd⟩ h Q:=
 WO.op _ _ rfl (by unfold Ope at *;simp only[aop,hx,hy,zNz,QJ]) k
theorem R.geq {d:Nat} {x y:Operand} {a b:Int} {kk:IntKind} (hx:Ope t x (.int kk a)) (hy:Ope t y (.int kk b)) (k:WO P tab l ⟨t.set d (.bool (decide (b<=a))),ds,rd⟩ h Q):WO P tab (⟨some d,none,.bin .geq x y⟩::l) ⟨t,ds,rd⟩ h Q:=
 WO.op _ _ rfl (by unfold Ope at *;simp only[aop,hx,hy,zOT,QJ]) k
theorem R.eql {d:Nat} {x y:Operand} {a b:Int} {kk:IntKind} (hx:Ope t x (.int kk a)) (hy:Ope t y (.int kk b)) (k:WO P tab l ⟨t.set d (.bool (decide (a=b))),ds,rd⟩ h Q):WO P tab (⟨some d,none,.bin .eql x y⟩::l) ⟨t,ds,rd⟩ h Q:=
 WO.op _ _ rfl (by unfold Ope at *;simp only[aop,hx,hy,zOD,QJ]) k
theorem R.neq {d:Nat} {x y:Operand} {a b:Int} {kk:IntKind} (hx:Ope t x (.int kk a)) (hy:Ope t y (.int kk b)) (k:WO P tab l ⟨t.set d (.bool (!decide (a=b))),ds,rd⟩ h Q):WO P tab (⟨some d,none,.bin .neq x y⟩::l) ⟨t,ds,rd⟩ h Q:=
 WO.op _ _ rfl (by unfold Ope at *;simp only[aop,hx,hy,zNF,QJ]) k
theorem R.not {d:Nat} {x:Operand} {b:Bool} (hx:Ope t x (.bool b)) (k:WO P tab l ⟨t.set d (.bool (!b)),ds,rd⟩ h Q):WO P tab (⟨some d,none,.un .not x⟩::l) ⟨t,ds,rd⟩ h Q:=
 WO.op _ _ rfl (by unfold Ope at *;simp only[aop,hx,unV,QJ]) k
theorem R.eqB {d:Nat} {x y:Operand} {a b:Bool} (hx:Ope t x (.bool a)) (hy:Ope t y (.bool b)) (k:WO P tab l ⟨t.set d (.bool (a == b)),ds,rd⟩ h Q):WO P tab (⟨some d,none,.binB false x y⟩::l) ⟨t,ds,rd⟩ h Q:=
 WO.op _ _ rfl (by unfold Ope at *;simp only[aop,hx,hy];rfl) k
theorem R.neB {d:Nat} {x y:Operand} {a b:Bool} (hx:Ope t x (.bool a)) (hy:Ope t y (.bool b)) (k:WO P tab l ⟨t.set d (.bool (a != b)),ds,rd⟩ h Q):WO P tab (⟨some d,none,.binB true x y⟩::l) ⟨t,ds,rd⟩ h Q:=
 WO.op _ _ rfl (by unfold Ope at *;simp only[aop,hx,hy];rfl) k
theorem R.conv64 {d:Nat} {x:Operand} {n:Int} {k2:IntKind} (hx:Ope t x (.int k2 n)) (h1: -9223372036854775808<=n) (h2:n<=9223372036854775807) (k:WO P tab l ⟨t.set d (I n),ds,rd⟩ h Q):WO P tab (⟨some d,none,.conv .i64 x⟩::l) ⟨t,ds,rd⟩ h Q:=
 WO.op _ _ rfl (by unfold Ope at *;simp only[aop,hx,I];rw[zEH h1 h2]) k
theorem R.conv {d:Nat} {x:Operand} {n:Int} {kk k2:IntKind} (hx:Ope t x (.int k2 n)) (k:WO P tab l ⟨t.set d (.int kk (kk.wrap n)),ds,rd⟩ h Q):WO P tab (⟨some d,none,.conv kk x⟩::l) ⟨t,ds,rd⟩ h Q:=
 WO.op _ _ rfl (by unfold Ope at *;simp only[aop,hx]) k
theorem R.pickT {d:Nat} {c x y:Operand} {v:Value} {b:Bool} (hc:Ope t c (.bool b)) (hb:b=true) (hx:Ope t x v) (k:WO P tab l ⟨t.set d v,ds,rd⟩ h Q):WO P tab (⟨some d,none,.pick c x y⟩::l) ⟨t,ds,rd⟩ h Q:=
 WO.op _ _ rfl (by unfold Ope at *;subst hb;simp only[aop,hc,hx,Q2]) k
theorem R.pickF {d:Nat} {c x y:Operand} {v:Value} {b:Bool} (hc:Ope t c (.bool b)) (hb:b=false) (hy:Ope t y v) (k:WO P tab l ⟨t.set d v,ds,rd⟩ h Q):WO P tab (⟨some d,none,.pick c x y⟩::l) ⟨t,ds,rd⟩ h Q:=
 WO.op _ _ rfl (by unfold Ope at *;subst hb;simp only[aop,hc,hy,Qk,Ge]) k
theorem R.tup2_0 {d:Nat} {x:Operand} {v0 v1:Value} (hx:Ope t x (.tuple #[v0,v1])) (k:WO P tab l ⟨t.set d v0,ds,rd⟩ h Q):WO P tab (⟨some d,none,.extract x 0⟩::l) ⟨t,ds,rd⟩ h Q:=
 WO.op _ _ rfl (by unfold Ope at *;simp only[aop,hx];rfl) k
theorem R.tup2_1 {d:Nat} {x:Operand} {v0 v1:Value} (hx:Ope t x (.tuple #[v0,v1])) (k:WO P tab l ⟨t.set d v1,ds,rd⟩ h Q):WO P tab (⟨some d,none,.extract x 1⟩::l) ⟨t,ds,rd⟩ h Q:=
 WO.op _ _ rfl (by unfold Ope at *;simp only[aop,hx];rfl) k
theorem R.tup3_0 {d:Nat} {x:Operand} {v0 v1 v2:Value} (hx:Ope t x (.tuple #[v0,v1,v2])) (k:WO P tab l ⟨t.set d v0,ds,rd⟩ h Q):WO P tab (⟨some d,none,.extract x 0⟩::l) ⟨t,ds,rd⟩ h Q:=
 WO.op _ _ rfl (by unfold Ope at *;simp only[aop,hx];rfl) k
theorem R.tup3_1 {d:Nat} {x:Operand} {v0 v1 v2:Value} (hx:Ope t x (.tuple #[v0,v1,v2])) (k:WO P tab l ⟨t.set d v1,ds,rd⟩ h Q):WO P tab (⟨some d,none,.extract x 1⟩::l) ⟨t,ds,rd⟩ h Q:=
 WO.op _ _ rfl (by unfold Ope at *;simp only[aop,hx];rfl) k
theorem R.tup3_2 {d:Nat} {x:Operand} {v0 v1 v2:Value} (hx:Ope t x (.tuple #[v0,v1,v2])) (k:WO P tab l ⟨t.set d v2,ds,rd⟩ h Q):WO P tab (⟨some d,none,.extract x 2⟩::l) ⟨t,ds,rd⟩ h Q:=
 WO.op _ _ rfl (by unfold Ope at *;simp only[aop,hx];rfl) k
theorem R.tup4_0 {d:Nat} {x:Operand} {v0 v1 v2 v3:Value} (hx:Ope t x (.tuple #[v0,v1,v2,v3])) (k:WO P tab l ⟨t.set d v0,ds,rd⟩ h Q):WO P tab (⟨some d,none,.extract x 0⟩::l) ⟨t,ds,rd⟩ h Q:=
 WO.op _ _ rfl (by unfold Ope at *;simp only[aop,hx];rfl) k
theorem R.tup4_1 {d:Nat} {x:Operand} {v0 v1 v2 v3:Value} (hx:Ope t x (.tuple #[v0,v1,v2,v3])) (k:WO P tab l ⟨t.set d v1,ds,rd⟩ h Q):WO P tab (⟨some d,none,.extract x 1⟩::l) ⟨t,ds,rd⟩ h Q:=
 WO.op _ _ rfl (by unfold Ope at *;simp only[aop,hx];rfl) k
theorem R.tup4_2 {d:Nat} {x:Operand} {v0 v1 v2 v3:Value} (hx:Ope t x (.tuple #[v0,v1,v2,v3])) (k:WO P tab l ⟨t.set d v2,ds,rd⟩ h Q):WO P tab (⟨some d,none,.extract x 2⟩::l) ⟨t,ds,rd⟩ h Q:=
 WO.op _ _ rfl (by unfold Ope at *;simp only[aop,hx];rfl) k
theorem R.tup4_3 {d:Nat} {x:Operand} {v0 v1 v2 v3:Value} (hx:Ope t x (.tuple #[v0,v1,v2,v3])) (k:WO P tab l ⟨t.set d v3,ds,rd⟩ h Q):WO P tab (⟨some d,none,.extract x 3⟩::l) ⟨t,ds,rd⟩ h Q:=
 WO.op _ _ rfl (by unfold Ope at *;simp only[aop,hx];rfl) k
theorem R.lenC {d:Nat} {n:Nat} (k:WO P tab l ⟨t.set d (I n),ds,rd⟩ h Q):WO P tab (⟨some d,none,.lenC n⟩::l) ⟨t,ds,rd⟩ h Q:=
 WO.op _ _ rfl (by simp only[aop]) k
theorem R.nil {d:Nat} {x:Operand} {kind:Nat} {neg b:Bool} {v:Value} (hx:Ope t x v) (hn:zC7 kind v=some b) (k:WO P tab l ⟨t.set d (.bool (if neg then !b else b)),ds,rd⟩ h Q):WO P tab (⟨some d,none,.isNil kind neg x⟩::l) ⟨t,ds,rd⟩ h Q:=
 WO.op _ _ rfl (by unfold Ope at *;simp only[aop,hx,hn,QJ]) k
theorem R.lenI {d:Nat} {x:Operand} {v:Value} {xs:List Int} (hx:Ope t x v) (s:SlI h v xs) (k:WO P tab l ⟨t.set d (I xs.length),ds,rd⟩ h Q):WO P tab (⟨some d,none,.len x⟩::l) ⟨t,ds,rd⟩ h Q:=
 WO.op _ _ rfl (by exact SlI.len' hx s) k
theorem R.lenR {d:Nat} {x:Operand} {v:Value} {α:Type} {c:Nat} {R:AHeap->List Value->α->Prop} {xs:List α} (hx:Ope t x v) (s:SlR c R h v xs) (k:WO P tab l ⟨t.set d (I xs.length),ds,rd⟩ h Q):WO P tab (⟨some d,none,.len x⟩::l) ⟨t,ds,rd⟩ h Q:=
 WO.op _ _ rfl (by exact SlR.len' hx s) k
theorem R.idxI {d:Nat} {x y:Operand} {v:Value} {n:Int} {i:Nat} {xs:List Int} (hx:Ope t x v) (hy:Ope t y (I n)) (hi:AsN n i) (s:SlI h v xs) (hl:i<xs.length) (k:WO P tab l ⟨t.set d (yE v i),ds,rd⟩ h Q):WO P tab (⟨some d,none,.idx 1 x y⟩::l) ⟨t,ds,rd⟩ h Q:=
 WO.op _ _ rfl (by unfold Ope at hy;exact SlI.idx' hx (by rw[hy];exact hi) s hl) k
theorem R.idxR {d:Nat} {x y:Operand} {v:Value} {n:Int} {i:Nat} {α:Type} {c:Nat} {R:AHeap->List Value->α->Prop} {xs:List α} (hx:Ope t x v) (hy:Ope t y (I n)) (hi:AsN n i) (s:SlR c R h v xs) (hl:i<xs.length) (k:WO P tab l ⟨t.set d (yE v (i * c)),ds,rd⟩ h Q):WO P tab (⟨some d,none,.idx c x y⟩::l) ⟨t,ds,rd⟩ h Q:=
 WO.op _ _ rfl (by unfold Ope at hy;exact SlR.idx' hx (by rw[hy];exact hi) s hl) k
theorem R.loadI {d:Nat} {x:Operand} {v:Value} {i:Nat} {xs:List Int} (hx:Ope t x (yE v i)) (s:SlI h v xs) (hl:i<xs.length) (k:WO P tab l ⟨t.set d (I (xs.getD i 0)),ds,rd⟩ h Q):WO P tab (⟨some d,none,.load false 1 x⟩::l) ⟨t,ds,rd⟩ h Q:=
 WO.op _ _ rfl (by exact SlI.loadD hx s hl) k
theorem R.pceA {d:Nat} {x:Operand} {v r:Value} {j n off:Nat} {cs:List Value} (hx:Ope t x (yE v (j+off))) (p:Piece h v j cs) (hn:0<n) (hr:(cut cs off n).bind (zG true)=some r) (k:WO P tab l ⟨t.set d r,ds,rd⟩ h Q):WO P tab (⟨some d,none,.load true n x⟩::l) ⟨t,ds,rd⟩ h Q:=
 WO.op _ _ rfl (by exact Piece.load hx p hn hr) k
theorem R.pce {d:Nat} {x:Operand} {v r:Value} {j n off:Nat} {cs:List Value} (hx:Ope t x (yE v (j+off))) (p:Piece h v j cs) (hn:0<n) (hr:(cut cs off n).bind (zG false)=some r) (k:WO P tab l ⟨t.set d r,ds,rd⟩ h Q):WO P tab (⟨some d,none,.load false n x⟩::l) ⟨t,ds,rd⟩ h Q:=
 WO.op _ _ rfl (by exact Piece.load hx p hn hr) k
theorem R.pce0A {d:Nat} {x:Operand} {v r:Value} {j n:Nat} {cs:List Value} (hx:Ope t x (yE v j)) (p:Piece h v j cs) (hn:0<n) (hr:(cut cs 0 n).bind (zG true)=some r) (k:WO P tab l ⟨t.set d r,ds,rd⟩ h Q):WO P tab (⟨some d,none,.load true n x⟩::l) ⟨t,ds,rd⟩ h Q:=
 WO.op _ _ rfl (by exact Piece.load0 hx p hn hr) k
theorem R.pce0 {d:Nat} {x:Operand} {v r:Value} {j n:Nat} {cs:List Value} (hx:Ope t x (yE v j)) (p:Piece h v j cs) (hn:0<n) (hr:(cut cs 0 n).bind (zG false)=some r) (k:WO P tab l ⟨t.set d r,ds,rd⟩ h Q):WO P tab (⟨some d,none,.load false n x⟩::l) ⟨t,ds,rd⟩ h Q:=
 WO.op _ _ rfl (by exact Piece.load0 hx p hn hr) k
theorem R.fldP {d:Nat} {x:Operand} {v:Value} {j off:Nat} (hx:Ope t x (yE v j)) (hv:zMa v) (k:WO P tab l ⟨t.set d (yE v (j+off)),ds,rd⟩ h Q):WO P tab (⟨some d,none,.fld off x⟩::l) ⟨t,ds,rd⟩ h Q:=
 WO.op _ _ rfl (by exact Go.Am.fldP hx hv) k
theorem R.fldC0 {d:Nat} {x:Operand} {p:Value} {off:Nat} {h0:AHeap} {cs:List Value} (hx:Ope t x p) (o:OwnC h0 h p cs) (k:WO P tab l ⟨t.set d (yC p off),ds,rd⟩ h Q):WO P tab (⟨some d,none,.fld off x⟩::l) ⟨t,ds,rd⟩ h Q:=
 WO.op _ _ rfl (by exact OwnC.fld0 hx o) k
theorem R.fldC {d:Nat} {x:Operand} {p:Value} {j off:Nat} {h0:AHeap} {cs:List Value} (hx:Ope t x (yC p j)) (o:OwnC h0 h p cs) (k:WO P tab l ⟨t.set d (yC p (j+off)),ds,rd⟩ h Q):WO P tab (⟨some d,none,.fld off x⟩::l) ⟨t,ds,rd⟩ h Q:=
 WO.op _ _ rfl (by exact OwnC.fld hx o) k
theorem R.idxZ {d:Nat} {x y:Operand} {p:Value} {n:Int} {i len:Nat} {kk:IntKind} {h0:AHeap} {cs:List Value} (hx:Ope t x (yC p 0)) (o:OwnC h0 h p cs) (hy:Ope t y (.int kk n)) (hi:AsN n i) (hl:i<len) (k:WO P tab l ⟨t.set d (yC p i),ds,rd⟩ h Q):WO P tab (⟨some d,none,.idxArr len 1 x y⟩::l) ⟨t,ds,rd⟩ h Q:=
 WO.op _ _ rfl (by unfold Ope at hx hy;have hi2:asN (ev t y)=some i:=(by rw[hy];exact(by cases n<;>rfl:asN (.int kk n)=asN (I n)).trans hi);have:=OwnC.idxArr (P:=P) (ih:=Ex.bot) (c:=1) hx hi2 o hl;rwa [Q5,Nat.mul_one]at this) k
theorem R.idxA0 {d:Nat} {x y:Operand} {p:Value} {n:Int} {i len:Nat} {kk:IntKind} {h0:AHeap} {cs:List Value} (hx:Ope t x p) (o:OwnC h0 h p cs) (hy:Ope t y (.int kk n)) (hi:AsN n i) (hl:i<len) (k:WO P tab l ⟨t.set d (yC p i),ds,rd⟩ h Q):WO P tab (⟨some d,none,.idxArr len 1 x y⟩::l) ⟨t,ds,rd⟩ h Q:=
 WO.op _ _ rfl (by unfold Ope at hx hy;have hi2:asN (ev t y)=some i:=(by rw[hy];exact(by cases n<;>rfl:asN (.int kk n)=asN (I n)).trans hi);have:=OwnC.idxArr0 (P:=P) (ih:=Ex.bot) (c:=1) hx hi2 o hl;rwa [Nat.mul_one]at this) k
theorem R.idxA1 {d:Nat} {x y:Operand} {p:Value} {n:Int} {i j len:Nat} {kk:IntKind} {h0:AHeap} {cs:List Value} (hx:Ope t x (yC p j)) (o:OwnC h0 h p cs) (hy:Ope t y (.int kk n)) (hi:AsN n i) (hl:i<len) (k:WO P tab l ⟨t.set d (yC p (j+i)),ds,rd⟩ h Q):WO P tab (⟨some d,none,.idxArr len 1 x y⟩::l) ⟨t,ds,rd⟩ h Q:=
 WO.op _ _ rfl (by unfold Ope at hx hy;have hi2:asN (ev t y)=some i:=(by rw[hy];exact(by cases n<;>rfl:asN (.int kk n)=asN (I n)).trans hi);have:=OwnC.idxArr (P:=P) (ih:=Ex.bot) (c:=1) hx hi2 o hl;rwa [Nat.mul_one]at this) k
theorem R.loadA {d:Nat} {x:Operand} {p:Value} {q:Nat} {xs:List Int} {h0:AHeap} (hx:Ope t x (yC p q)) (o:OwnC h0 h p (xs.map I)) (hl:q<xs.length) (k:WO P tab l ⟨t.set d (I (xs.getD q 0)),ds,rd⟩ h Q):WO P tab (⟨some d,none,.load false 1 x⟩::l) ⟨t,ds,rd⟩ h Q:=
 WO.op _ _ rfl (by refine OwnC.load hx o ?_;have h1:(xs.map I).drop q=I xs[q]::(xs.map I).drop (q+1):=(by rw[GG (by simpa using hl),List.getElem_map]);have hc:cut (xs.map I) q 1=some [I (xs.getD q 0)]:=(by rw[yw (by simp;omega),h1];simp[List.getD,QC hl]);rw[hc];rfl) k
theorem R.loadC0A {d:Nat} {x:Operand} {p r:Value} {n:Nat} {h0:AHeap} {cs:List Value} (hx:Ope t x p) (o:OwnC h0 h p cs) (hr:(cut cs 0 n).bind (zG true)=some r) (k:WO P tab l ⟨t.set d r,ds,rd⟩ h Q):WO P tab (⟨some d,none,.load true n x⟩::l) ⟨t,ds,rd⟩ h Q:=
 WO.op _ _ rfl (by exact OwnC.load0 hx o hr) k
theorem R.loadC0 {d:Nat} {x:Operand} {p r:Value} {n:Nat} {h0:AHeap} {cs:List Value} (hx:Ope t x p) (o:OwnC h0 h p cs) (hr:(cut cs 0 n).bind (zG false)=some r) (k:WO P tab l ⟨t.set d r,ds,rd⟩ h Q):WO P tab (⟨some d,none,.load false n x⟩::l) ⟨t,ds,rd⟩ h Q:=
 WO.op _ _ rfl (by exact OwnC.load0 hx o hr) k
theorem R.loadCA {d:Nat} {x:Operand} {p r:Value} {n j:Nat} {h0:AHeap} {cs:List Value} (hx:Ope t x (yC p j)) (o:OwnC h0 h p cs) (hr:(cut cs j n).bind (zG true)=some r) (k:WO P tab l ⟨t.set d r,ds,rd⟩ h Q):WO P tab (⟨some d,none,.load true n x⟩::l) ⟨t,ds,rd⟩ h Q:=
 WO.op _ _ rfl (by exact OwnC.load hx o hr) k
theorem R.loadC {d:Nat} {x:Operand} {p r:Value} {n j:Nat} {h0:AHeap} {cs:List Value} (hx:Ope t x (yC p j)) (o:OwnC h0 h p cs) (hr:(cut cs j n).bind (zG false)=some r) (k:WO P tab l ⟨t.set d r,ds,rd⟩ h Q):WO P tab (⟨some d,none,.load false n x⟩::l) ⟨t,ds,rd⟩ h Q:=
 WO.op _ _ rfl (by exact OwnC.load hx o hr) k
theorem R.partA {d:Nat} {x:Operand} {off n:Nat} {r:Value} {cs:Array Value} (hx:Ope t x (.agg cs)) (hr:(cut cs.toList off n).bind (zG true)=some r) (k:WO P tab l ⟨t.set d r,ds,rd⟩ h Q):WO P tab (⟨some d,none,.part true off n x⟩::l) ⟨t,ds,rd⟩ h Q:=
 WO.op _ _ rfl (by unfold Ope at *;simp only[aop,hx,hr,QJ]) k
theorem R.part {d:Nat} {x:Operand} {off n:Nat} {r:Value} {cs:Array Value} (hx:Ope t x (.agg cs)) (hr:(cut cs.toList off n).bind (zG false)=some r) (k:WO P tab l ⟨t.set d r,ds,rd⟩ h Q):WO P tab (⟨some d,none,.part false off n x⟩::l) ⟨t,ds,rd⟩ h Q:=
 WO.op _ _ rfl (by unfold Ope at *;simp only[aop,hx,hr,QJ]) k
theorem R.idxG {d:Nat} {len c g:Nat} {y:Operand} {n:Int} {i:Nat} {kk:IntKind} (hy:Ope t y (.int kk n)) (hi:AsN n i) (hl:i<len) (k:WO P tab l ⟨t.set d (.pointer (some ⟨g,0+i * c,none⟩)),ds,rd⟩ h Q):WO P tab (⟨some d,none,.idxArr len c (.global g) y⟩::l) ⟨t,ds,rd⟩ h Q:=
 WO.op _ _ rfl (by unfold Ope at hy;have hb:Nat.ble (i+1) len=true:=QH hl;have hi2:asN (ev t y)=some i:=(by rw[hy];exact(by cases n<;>rfl:asN (.int kk n)=asN (I n)).trans hi);simp only[aop,hi2];simp only[ev,hb,Qw,Qz,cond_true]) k
theorem R.loadG {d:Nat} {x:Operand} {g off n:Nat} {r:Value} {cells:List Value} (hx:Ope t x (.pointer (some ⟨g,off,none⟩))) (hg:zt h g=some cells) (hr:(cut cells off n).bind (zG true)=some r) (k:WO P tab l ⟨t.set d r,ds,rd⟩ h Q):WO P tab (⟨some d,none,.load true n x⟩::l) ⟨t,ds,rd⟩ h Q:=
 WO.op _ _ rfl (by unfold Ope at *;simp only[aop,hx,hg,Qw,cond_true,QQ,hr,QJ]) k
theorem R.agg {d:Nat} {zero:List Value} {parts:List (Nat×Nat×Operand)} {vs:List (Nat×Nat×Value)} {cells:List Value} (hp:Parts t parts vs) (hf:yj zero vs=some cells) (k:WO P tab l ⟨t.set d (.agg cells.toArray),ds,rd⟩ h Q):WO P tab (⟨some d,none,.build zero parts⟩::l) ⟨t,ds,rd⟩ h Q:=
 WO.op _ _ rfl (by unfold Parts at hp;simp only[aop,hp,hf,QJ]) k
theorem R.nck {d:Nat} {x:Operand} {a:Addr} (hx:Ope t x (.pointer (some a))) (k:WO P tab l ⟨t.set d (.pointer (some a)),ds,rd⟩ h Q):WO P tab (⟨some d,none,.nilCheck x⟩::l) ⟨t,ds,rd⟩ h Q:=
 WO.op _ _ rfl (by unfold Ope at *;simp only[aop,hx,YW,QJ]) k
theorem R.lenM {d:Nat} {x:Operand} {m:Value} {es:List (Int×Int)} {h0:AHeap} (hx:Ope t x m) (o:OwnM h0 h m es) (k:WO P tab l ⟨t.set d (I es.length),ds,rd⟩ h Q):WO P tab (⟨some d,none,.lenMap x⟩::l) ⟨t,ds,rd⟩ h Q:=
 WO.op _ _ rfl (by unfold Ope at *;obtain⟨g,c,es',_,_,rfl,hg,he⟩:=o;have hl:es'.length=es.length:=(by have:=congrArg List.length he;simpa using this);simp only[aop,hx,hg,hl]) k
theorem R.lkN {d:Nat} {mm ky:Operand} {z m:Value} {a:Int} {es:List (Int×Int)} {h0:AHeap} (hx:Ope t mm m) (hk:Ope t ky (I a)) (o:OwnM h0 h m es) (hl:es.lookup a=none) (k:WO P tab l ⟨t.set d (.tuple #[z,.bool false]),ds,rd⟩ h Q):WO P tab (⟨some d,none,.lookup true z mm ky⟩::l) ⟨t,ds,rd⟩ h Q:=
 WO.op _ _ rfl (by unfold Ope at *;obtain⟨g,c,es',_,_,rfl,hg,he⟩:=o;simp only[aop,hx,hk,hg,zCY 0 he hl,Q2]) k
theorem R.lkS {d:Nat} {mm ky:Operand} {z m:Value} {a v:Int} {es:List (Int×Int)} {h0:AHeap} (hx:Ope t mm m) (hk:Ope t ky (I a)) (o:OwnM h0 h m es) (hl:es.lookup a=some v) (k:WO P tab l ⟨t.set d (.tuple #[I v,.bool true]),ds,rd⟩ h Q):WO P tab (⟨some d,none,.lookup true z mm ky⟩::l) ⟨t,ds,rd⟩ h Q:=
 WO.op _ _ rfl (by unfold Ope at *;obtain⟨g,c,es',_,_,rfl,hg,he⟩:=o;obtain⟨j,hj⟩:=zE8 0 he hl;simp only[aop,hx,hk,hg,hj,Q2]) k
theorem R.fun {d:Nat} {f:FuncId} {xs ys:List Operand} {vs us:List Value} (hx:Opes t xs vs) (hy:Opes t ys us) (k:WO P tab l ⟨t.set d (.func (.func f) vs.toArray us.toArray),ds,rd⟩ h Q):WO P tab (⟨some d,none,.mkFunc (.func f) xs ys⟩::l) ⟨t,ds,rd⟩ h Q:=
 WO.op _ _ rfl (by unfold Opes at *;simp only[aop,hx,hy]) k
theorem R.gT {d:Option Nat} {j:Nat} {want b:Bool} {op:AOp} (s:Slot t j (.bool b)) (hb:b=want) (k:WO P tab (⟨d,none,op⟩::l) ⟨t,ds,rd⟩ h Q):WO P tab (⟨d,some (j,want),op⟩::l) ⟨t,ds,rd⟩ h Q:=
 WO.guardT (hb▸s) k
theorem R.gF1 {d j:Nat} {b:Bool} {op:AOp} (s:Slot t j (.bool b)) (hb:b=false) (k:WO P tab l ⟨t.set d undef,ds,rd⟩ h Q):WO P tab (⟨some d,some (j,true),op⟩::l) ⟨t,ds,rd⟩ h Q:=by
 subst hb;exact WO.guardF s k
theorem R.gF2 {d j:Nat} {b:Bool} {op:AOp} (s:Slot t j (.bool b)) (hb:b=true) (k:WO P tab l ⟨t.set d undef,ds,rd⟩ h Q):WO P tab (⟨some d,some (j,false),op⟩::l) ⟨t,ds,rd⟩ h Q:=by
 subst hb;exact WO.guardF s k
theorem R.gU {d j:Nat} {want:Bool} {op:AOp} (s:Slot t j undef) (k:WO P tab l ⟨t.set d undef,ds,rd⟩ h Q):WO P tab (⟨some d,some (j,want),op⟩::l) ⟨t,ds,rd⟩ h Q:=
 WO.guardU s k
theorem WO.sp {d:Option Nat} {j:Nat} {want b:Bool} {op:AOp} (h1:b=true->WO P tab (⟨d,some (j,want),op⟩::l) ⟨t,ds,rd⟩ h Q) (h2:b=false->WO P tab (⟨d,some (j,want),op⟩::l) ⟨t,ds,rd⟩ h Q) (s:Slot t j (.bool b):=by exact YO):
  WO P tab (⟨d,some (j,want),op⟩::l) ⟨t,ds,rd⟩ h Q:=by
 cases b with
 |true=>exact h1 rfl
 |false=>exact h2 rfl
theorem WO.con {d:Nat} {f:FuncId} {args:List Operand} {as:List Value} {R:Value->AHeap->Prop} (hc:WC P tab f as h R) (k:∀ v h',R v h'->WO P tab l ⟨t.set d v,ds,rd⟩ h' Q) (ha:Opes t args as:=by exact zJg):
  WO P tab (⟨some d,none,.call (.func f) args⟩::l) ⟨t,ds,rd⟩ h Q:=WO.call ha (hc.mono k)
theorem WO.conV {d:Nat} {f:Operand} {fv:Value} {args:List Operand} {as:List Value} {R:Value->AHeap->Prop} (hc:WV P tab fv as h R) (k:∀ v h',R v h'->WO P tab l ⟨t.set d v,ds,rd⟩ h' Q) (hf:Ope t f fv:=by exact zH) (ha:Opes t args as:=by exact zJg):
  WO P tab (⟨some d,none,.call f args⟩::l) ⟨t,ds,rd⟩ h Q:=WO.callv hf ha (hc.mono k)
theorem WO.al {d:Nat} {zero:List Value} (k:∀ p h',Ext h h'->OwnC h h' p zero->WO P tab l ⟨t.set d p,ds,rd⟩ h' Q):WO P tab (⟨some d,none,.alloc zero⟩::l) ⟨t,ds,rd⟩ h Q:=WO.allocC k
theorem WO.stC0 {x y:Operand} {p v:Value} {cells cs:List Value} {n:Nat} {h0:AHeap} (o:OwnC h0 h p cells) (e0:Ext h0 h) (k:∀ h',Ext h0 h'->OwnC h0 h' p cs->UpdC p h h'->WO P tab l ⟨t,ds,rd⟩ h' Q)
  (hx:Ope t x p:=by exact zH) (hy:Ope t y v:=by exact zH) (hv:v.cells=cs.toArray:=by rfl) (hn:cs.length=n:=by rfl) (hl:cells.length=n:=by rfl) (h1:zJ cs=true:=by rfl):WO P tab (⟨none,none,.store n x y⟩::l) ⟨t,ds,rd⟩ h Q:=
 WO.storeC0 hx hy hv h1 hn o e0 hl k
theorem WO.stC {x y:Operand} {p v:Value} {cells cs:List Value} {n j:Nat} {h0:AHeap} (o:OwnC h0 h p cells) (e0:Ext h0 h) (k:∀ h',Ext h0 h'->OwnC h0 h' p (zb cells j cs)->UpdC p h h'->WO P tab l ⟨t,ds,rd⟩ h' Q)
  (hx:Ope t x (yC p j):=by exact zH) (hy:Ope t y v:=by exact zH) (hv:v.cells=cs.toArray:=by rfl) (hn:cs.length=n:=by rfl) (hl:j+n<=cells.length:=by decide) (h1:zJ cs=true:=by rfl):WO P tab (⟨none,none,.store n x y⟩::l) ⟨t,ds,rd⟩ h Q:=
 WO.storeC hx hy hv h1 hn o e0 hl k
theorem WO.bl {d n:Nat} {zero:List Value} {parts:List (Nat×Nat×Operand)} {vs:List (Nat×Nat×Value)} (xs:List Int) (k:∀ v h',Ext h h'->OwnI h h' v xs->WO P tab l ⟨t.set d v,ds,rd⟩ h' Q)
  (hp:Parts t parts vs:=by (repeat (apply Parts.cons;(exact zH)));exact Parts.nil) (hn:xs.length=n:=by rfl) (hf:yj (zR zero n) vs=some (xs.map I):=by rfl):WO P tab (⟨some d,none,.buildSlice n 1 zero parts⟩::l) ⟨t,ds,rd⟩ h Q:=
 WO.buildI xs hn (by unfold Parts at hp;rw[hp];exact hf) k
theorem WO.apN {d:Nat} {x y:Operand} {v w:Value} {xs ys:List Int} {h0:AHeap} (o:OwnN h0 h v xs) (s:SlI h w ys) (e0:Ext h0 h) (hr:xs.length+ys.length<=4294967296) (k:∀ v' h',Ext h0 h'->OwnN h0 h' v' (xs++ys)->WO P tab l ⟨t.set d v',ds,rd⟩ h' Q)
  (hx:Ope t x v:=by exact zH) (hy:Ope t y w:=by exact zH):WO P tab (⟨some d,none,.append 1 x y⟩::l) ⟨t,ds,rd⟩ h Q:=by
 by_cases hne:ys=[]
 ·subst hne;have hsrc:yW 1 h w=some []:=by simpa using Zn s
  have hv:∃ a n k,v= .slice a n k/\(a=none->n=0/\k=0):=by
   rcases o with ⟨rfl,_⟩|⟨g,_,_,rfl,_⟩
   ·exact⟨_,_,_,rfl,fun _=>⟨rfl,rfl⟩⟩
   ·exact⟨_,_,_,rfl,fun h=>by cases h⟩
  refine WO.op v h rfl ?_ (k v h e0 (by simpa using o));unfold Ope at hx hy;obtain⟨a,n,kk,rfl,ha⟩:=hv;cases a with
  |none=>obtain⟨rfl,rfl⟩:=ha rfl;simp only[aop,hx,hy,yN,hsrc]
  |some a=>simp only[aop,hx,hy,yN,hsrc]
 ·exact WO.appendI hx hy o s e0 hne hr fun v' h' a b _=>k v' h' a (.inr b)
theorem WO.bp {d:Nat} {op:BinOp} {ty:TypeId} {x y:Operand} {a b v:Value} (hp:zO P (do eqGuard op ty x y a b;binOp op ty a b)=some v) (k:WO P tab l ⟨t.set d v,ds,rd⟩ h Q)
  (hx:Ope t x a:=by exact zH) (hy:Ope t y b:=by exact zH) (hc:(YP a&&YP b)=true:=by rfl) (hv:yL v=true:=by rfl):WO P tab (⟨some d,none,.binP op ty x y⟩::l) ⟨t,ds,rd⟩ h Q:=by
 unfold Ope at hx hy;refine WO.op v h rfl ?_ k;simp only[aop,hx,hy,hc,cond_true,hp,hv]
def zUC (M:Trie Value->AHeap->Prop) (ds:List Deferred) (rd:Option Nat):AFr->AHeap->Prop:=fun fr h=>fr.dfs=ds/\fr.round=rd/\M fr.tm h
theorem zBC {ih:Ex}:∀ (a b:List AOper) (fr:AFr) (h:AHeap),yP P ih (a++b) fr h=(yP P ih a fr h).bind fun p=>yP P ih b p.1 p.2
 |[],b,fr,h=>rfl
 |o::a,b,fr,h=>by
  simp only[Gz,yP];cases z8 P ih o fr h with
  |none=>rfl
  |some p=>obtain⟨fr1,h1⟩:=p;exact zBC a b fr1 h1
theorem WO.mid (n:Nat) (M:Trie Value->AHeap->Prop) {ws:List Nat} (h1:WO P tab (l.take n) ⟨t,ds,rd⟩ h (zUC M ds rd)) (h2:∀ t' h',zE1 ws t t'->M t' h'->WO P tab (l.drop n) ⟨t',ds,rd⟩ h' Q) (hw:(l.take n).filterMap (·.dst)=ws:=by rfl):WO P tab l ⟨t,ds,rd⟩ h Q:=by
 subst hw;unfold WO at h1;obtain⟨fr1,h',⟨q1,q2,q3⟩,ev1⟩:=h1;obtain⟨t1,ds1,rd1⟩:=fr1;simp only at q1 q2 q3;subst q1 q2;have hs:zE1 ((l.take n).filterMap (·.dst)) t t1:=by
  intro j hj;obtain⟨N,a⟩:=(show ∃ N,∀ n',N<=n'->_ from by unfold Ev at ev1;exact ev1);exact zCQ (a N (QE _)) (fun hm=>by
   have:=ZS hj;rw[List.contains_eq_mem,Gt]at this;exact this hm)
 have:=h2 t1 h' hs q3;unfold WO at this |-;obtain⟨fr2,h2',q,ev2⟩:=this;refine⟨fr2,h2',q,(ev1.and ev2).mono fun k ⟨e1,e2⟩=> ?_⟩;rw[<-GV n l,zBC,e1];exact e2
theorem WO.slLo {d c i:Nat} {x y:Operand} {v r:Value} (hr:Za c v (some i) none none=some r) (k:WO P tab l ⟨t.set d r,ds,rd⟩ h Q) (hx:Ope t x v:=by exact zH) (hy:Ope t y (I (i:Int)):=by exact zH):
  WO P tab (⟨some d,none,.slice c x (some y) none none⟩::l) ⟨t,ds,rd⟩ h Q:=by
 unfold Ope at hx hy;refine WO.op r h rfl ?_ k;have:asN (I (i:Int))=some i:=rfl;simp only[aop,Y4,hx,hy,this,QJ,hr]
theorem WO.slHi {d c i:Nat} {x y:Operand} {v r:Value} (hr:Za c v none (some i) none=some r) (k:WO P tab l ⟨t.set d r,ds,rd⟩ h Q) (hx:Ope t x v:=by exact zH) (hy:Ope t y (I (i:Int)):=by exact zH):
  WO P tab (⟨some d,none,.slice c x none (some y) none⟩::l) ⟨t,ds,rd⟩ h Q:=by
 unfold Ope at hx hy;refine WO.op r h rfl ?_ k;have:asN (I (i:Int))=some i:=rfl;simp only[aop,Y4,hx,hy,this,QJ,hr]
theorem WO.clS {c:Nat} {zero:List Value} {x:Operand} {v:Value} {h':AHeap} (hr:zAw c zero v h=some (.tuple #[],h')) (k:WO P tab l ⟨t,ds,rd⟩ h' Q) (hx:Ope t x v:=by exact zH):
  WO P tab (⟨none,none,.clearS c zero x⟩::l) ⟨t,ds,rd⟩ h Q:=by
 unfold Ope at hx;exact WO.op0 (.tuple #[]) h' rfl (by simp only[aop,hx,hr]) k
theorem WO.bx {d:Nat} {x:Operand} {v:Value} (k:∀ p h',Ext h h'->OwnC h h' p v.cells.toList->WO P tab l ⟨t.set d p,ds,rd⟩ h' Q) (hx:Ope t x v:=by exact zH):
  WO P tab (⟨some d,none,.box x⟩::l) ⟨t,ds,rd⟩ h Q:=WO.boxC v.cells.toList (by unfold Ope at hx;rw[hx]) k
theorem WX.cT {c:Operand} {x y:ACode} {K:AExit->AFr->AHeap->Prop} {b:Bool} (s:Ope t c (.bool b)) (hb:b=true) (h1:WX P tab x ⟨t,ds,rd⟩ h K):WX P tab (.cond c x y) ⟨t,ds,rd⟩ h K:=
 WX.condT (hb▸s) h1
theorem WX.cF {c:Operand} {x y:ACode} {K:AExit->AFr->AHeap->Prop} {b:Bool} (s:Ope t c (.bool b)) (hb:b=false) (h1:WX P tab y ⟨t,ds,rd⟩ h K):WX P tab (.cond c x y) ⟨t,ds,rd⟩ h K:=
 WX.condF (hb▸s) h1
theorem WX.br {c:Operand} {x y:ACode} {K:AExit->AFr->AHeap->Prop} {b:Bool} (h1:b=true->WX P tab x ⟨t,ds,rd⟩ h K) (h2:b=false->WX P tab y ⟨t,ds,rd⟩ h K) (s:Ope t c (.bool b):=by exact zH):WX P tab (.cond c x y) ⟨t,ds,rd⟩ h K:=
 WX.cond b s h1 h2
theorem sl_ {k:Nat} {v:Value} (s:Slot t k v:=by (repeat (first|((with_reducible apply Slot.there);rfl)|((with_reducible apply Slot.same);(with_reducible assumption);rfl)));first|with_reducible exact Slot.here|with_reducible assumption|(unfold Slot;with_reducible assumption)|exact Slot.here):zB t k=v:=s
theorem sln {k i:Nat} (s:Slot t k (I ((i:Int)+1)):=by (repeat (first|((with_reducible apply Slot.there);rfl)|((with_reducible apply Slot.same);(with_reducible assumption);rfl)));first|with_reducible exact Slot.here|with_reducible assumption|(unfold Slot;with_reducible assumption)|exact Slot.here):zB t k=I ((i+1:Nat):Int):=s
def Res (h:AHeap) (t:Trie Value) (rs:List (Nat×Option (Bool×Nat))) (vs:List Value):Prop:=zq h t rs=some vs
theorem Res.nil:Res h t [] []:=rfl
theorem Res.cons {j:Nat} {v:Value} {rs:List (Nat×Option (Bool×Nat))} {vs:List Value} (s:Slot t j v) (k:Res h t rs vs):Res h t ((j,none)::rs) (v::vs):=by
 unfold Res at *;unfold Slot at s;simp only[zq,YC,s,k]
theorem Res.consA {j n:Nat} {p v:Value} {h0:AHeap} {cs:List Value} {rs:List (Nat×Option (Bool×Nat))} {vs:List Value} (s:Slot t j p) (o:OwnC h0 h p cs) (hr:(cut cs 0 n).bind (zG true)=some v) (k:Res h t rs vs):Res h t ((j,some (true,n))::rs) (v::vs):=by
 obtain⟨g,_,_,rfl,hg⟩:=o;unfold Res at *;unfold Slot at s;simp only[zq,YC,s,ZE hg,Qw,cond_true,QQ,hr,k]
theorem rt {rs:List (Nat×Option (Bool×Nat))} {Q:Value->AHeap->Prop} {vs:List Value} (hq:Q (one vs) h) (r:Res h t rs vs:=by (repeat (first|(apply Res.cons;(exact YO))|(apply Res.consA;(exact YO);(with_reducible assumption);(exact zIU))));exact Res.nil):zDv P tab rs Q .ret ⟨t,[],rd⟩ h:=zNr r hq
theorem rtN {rs:List (Nat×Option (Bool×Nat))} {Q:Value->AHeap->Prop} {vs:List Value} (hq:Q (one vs) h) (r:Res h t rs vs:=by (repeat (first|(apply Res.cons;(exact YO))|(apply Res.consA;(exact YO);(with_reducible assumption);(exact zIU))));exact Res.nil):zDv P tab rs Q .normal ⟨t,[],rd⟩ h:=zHH r hq
theorem WX.loopA (ws:List Nat) {α:Type} {b:ACode} {K:AExit->AFr->AHeap->Prop} (hw:z0 b=ws) (μ:α->Nat) (I:α->Trie Value->AHeap->Prop) (x:α) (h0:I x t h)
  (hb:∀ x t' h',zE1 ws t t'->I x t' h'->WX P tab b ⟨t',ds,rd⟩ h' (zBn μ I x ds rd K)):WX P tab (.loop b) ⟨t,ds,rd⟩ h K:=
 WX.loopF μ I x h0 fun x t' h' hs hi=>hb x t' h' (fun j hj=>hs j (by rw[hw];exact ZS hj)) hi
structure Wrap (G:Prop):Prop where
 out:G
theorem go {G' G:Prop} (k:G') (r:Wrap G'->G:=by
  intro hgo;repeat (first|refine WX.seq ?_|refine WX.region ?_|(apply R.mov;(exact zH))|(apply R.add;(exact zH);(exact zH);(omega);(omega))|(apply R.sub;(exact zH);(exact zH);(omega);(omega))|(apply R.mul;(exact zH);(exact zH);(omega);(omega))|(apply R.lss;(exact zH);(exact zH))|(apply R.leq;(exact zH);(exact zH))|(apply R.gtr;(exact zH);(exact zH))|(apply R.geq;(exact zH);(exact zH))|(apply R.eql;(exact zH);(exact zH))|(apply R.neq;(exact zH);(exact zH))|(apply R.not;(exact zH))|(apply R.eqB;(exact zH);(exact zH))|(apply R.neB;(exact zH);(exact zH))|(apply R.conv64;(exact zH);(omega);(omega))|(apply R.conv;(exact zH))|(apply R.pickT;(exact zH);(exact zFy);(exact zH))|(apply R.pickF;(exact zH);(exact zFy);(exact zH))|(apply R.tup2_0;(exact zH))|(apply R.tup2_1;(exact zH))|(apply R.tup3_0;(exact zH))|(apply R.tup3_1;(exact zH))|(apply R.tup3_2;(exact zH))|(apply R.tup4_0;(exact zH))|(apply R.tup4_1;(exact zH))|(apply R.tup4_2;(exact zH))|(apply R.tup4_3;(exact zH))|(apply R.lenC)|(apply R.nil;(exact zH);(rfl))|(apply R.lenI;(exact zH);(exact zSU))|(apply R.lenR;(exact zH);(with_reducible assumption))|(apply R.idxI;(exact zH);(exact zH);(exact zLM);(exact zSU);(exact zGo))|(apply R.idxR;(exact zH);(exact zH);(exact zLM);(with_reducible assumption);(exact zGo))|(apply R.loadI;(exact zH);(exact zSU);(exact zGo))|(apply R.pceA;(exact zH);(with_reducible assumption);(decide);(exact zIU))|(apply R.pce;(exact zH);(with_reducible assumption);(decide);(rfl))|(apply R.pce0A;(exact zH);(with_reducible assumption);(decide);(exact zIU))|(apply R.pce0;(exact zH);(with_reducible assumption);(decide);(rfl))|(apply R.fldP;(exact zH);(with_reducible assumption))|(apply R.fldC0;(exact zH);(with_reducible assumption))|(apply R.fldC;(exact zH);(with_reducible assumption))|(apply R.idxZ;(exact zH);(with_reducible assumption);(exact zH);(exact zLM);(exact zGo))|(apply R.idxA0;(exact zH);(with_reducible assumption);(exact zH);(exact zLM);(exact zGo))|(apply R.idxA1;(exact zH);(with_reducible assumption);(exact zH);(exact zLM);(exact zGo))|(apply R.loadA;(exact zH);(with_reducible assumption);(exact zGo))|(apply R.loadC0A;(exact zH);(with_reducible assumption);(exact zIU))|(apply R.loadC0;(exact zH);(with_reducible assumption);(rfl))|(apply R.loadCA;(exact zH);(with_reducible assumption);(exact zIU))|(apply R.loadC;(exact zH);(with_reducible assumption);(rfl))|(apply R.partA;(exact zH);(exact zIU))|(apply R.part;(exact zH);(rfl))|(apply R.idxG;(exact zH);(exact zLM);(exact zGo))|(apply R.loadG;(exact zH);(with_reducible assumption);(with_reducible assumption))|(apply R.agg;((repeat (apply Parts.cons;(exact zH)));exact Parts.nil);(exact zUI))|(apply R.nck;(exact zH))|(apply R.lenM;(exact zH);(with_reducible assumption))|(apply R.lkN;(exact zH);(exact zH);(with_reducible assumption);(with_reducible assumption))|(apply R.lkS;(exact zH);(exact zH);(with_reducible assumption);(with_reducible assumption))|(apply R.fun;(exact zJg);(exact zJg))|(apply R.gT;(exact YO);(exact zFy))|(apply R.gF1;(exact YO);(exact zFy))|(apply R.gF2;(exact YO);(exact zFy))|(apply R.gU;(exact YO))|refine WO.nil ?_|refine Zp ?_|refine WX.skip ?_|refine WX.block ?_|refine WX.exit ?_|refine zCl ?_|refine zA8 ?_|refine zD2 ?_|refine zAi rfl ?_|refine zER ?_|refine WX.ret ?_|refine zFL ?_|refine zDx ?_|refine zEs ?_|(apply WX.cT;(exact zH);(exact zFy))|(apply WX.cF;(exact zH);(exact zFy))|refine WX.label ?_|refine WX.goto ?_|refine zDo ?_|refine zCy ?_|refine zDX ?_|refine WX.regionC_quiet rfl ?_)
  exact hgo.out):G:=r ⟨k⟩
theorem gr {G' G:Prop} (k:G') (r:Wrap G'->G:=by
  intro hgo;refine go ?_;refine rt ?_;exact hgo.out):G:=r ⟨k⟩
theorem goC {G' G:Prop} (k:G') (r:Wrap G'->G:=by
  intro hgo;repeat (first|refine WX.seq ?_|refine WX.region ?_|refine WO.nil ?_|refine Zp ?_|refine WX.skip ?_|refine WX.block ?_|refine WX.exit ?_|refine zCl ?_|refine zA8 ?_|refine zD2 ?_|refine zAi rfl ?_|refine zER ?_|refine WX.ret ?_|refine zFL ?_|refine zDx ?_|refine zEs ?_|(apply WX.cT;(exact zH);(exact zFy))|(apply WX.cF;(exact zH);(exact zFy))|refine WX.label ?_|refine WX.goto ?_|refine zDo ?_|refine zCy ?_|refine zDX ?_|refine WX.regionC_quiet rfl ?_)
  exact hgo.out):G:=r ⟨k⟩
end
section
variable {P:Program}
theorem zK {α β:Type} (x:Sem α) (f:α->Sem β):zO P (x>>=f)=(zO P x).bind fun a=>zO P (f a):=by
 show zO P (x.bind f)=_;induction x with
 |pure a=>rfl
 |program k ih=>simp only[Sem.bind,zO];exact ih _
 |mark m k ih=>simp only[Sem.bind,zO];exact ih
 |_=>simp[Sem.bind,zO]
theorem zFt {α:Type} (a:α):zO P (pure a)=some a:=rfl
theorem yh:zO P program=some P:=rfl
theorem yc {t:TypeId} {d:TypeDesc} (h:P.underlying t=some d):zO P (underlying t)=some d:=by
 unfold underlying;rw[zK,yh];simp only[QQ,h];rfl
def zFQ:Value->Value->Bool
 | .int _ a,.int _ b=>a == b
 | .bool a,.bool b=>a == b
 |_,_=>false
def zNP (P:Program) (f:Field):Value->Value->Bool
 | .int k _,.int k' _=>decide (k=k')&&(match P.underlying f.type with|some (.int _)=>true|_=>false)
 | .bool _,.bool _=>(match P.underlying f.type with|some .bool=>true|_=>false)
 |_,_=>false
def zDa (P:Program):List Field->Nat->List Value->List Value->Bool
 |[],_,[],[]=>true
 |f::fs,i,x::xs,y::ys=>(f.name != "_")&&Nat.beq f.offset i&&(match zO P (isAgg f.type)with|some false=>true|_=>false)&&zNP P f x y&&zDa P fs (i+1) xs ys
 |_,_,_,_=>false
def zBh:List Value->List Value->Bool
 |x::xs,y::ys=>zFQ x y&&zBh xs ys
 |_,_=>true
theorem zLt {f:Field} {x y:Value} {d:Nat} (h:zNP P f x y=true):zO P (Op.equalIn (d+1) f.type x y)=some (zFQ x y):=by
 unfold zNP at h;split at h
 ·rename_i k a k' b;rw[QF]at h;obtain⟨h1,h2⟩:=h;have h1:=G3 h1;subst h1;split at h2;case h_2=>cases h2
  rename_i k2 hu;rw[Op.equalIn,zK,yc hu];simp only[QQ,Q2];rfl
 ·split at h;case h_2=>cases h
  rename_i hu;rw[Op.equalIn,zK,yc hu];simp only[QQ];rfl
 ·cases h
theorem zB8 {t:TypeId} {cs:Array Value} {off:Nat} {v:Value} (h:(match zO P (isAgg t)with|some false=>true|_=>false)=true) (hv:cs[off]?=some v):zO P (part t cs off)=some v:=by
 have h':zO P (isAgg t)=some false:=by
  split at h
  ·assumption
  ·cases h
 unfold part;rw[zK,h'];simp only[QQ,hv];rfl
theorem zOz {xs ys:Array Value} {n d:Nat} (hn:n=d+1):∀ (l:List Field) (i:Nat) (us vs:List Value),zDa P l i us vs=true->(∀ j,xs[i+j]?=us[j]?)->(∀ j,ys[i+j]?=vs[j]?)->
  zO P (do
   let s <-(forIn l (none,()) fun f (__s:Option Bool×Unit)=>
          if f.name≠ "_" then do
           let __do_lift <-part f.type xs f.offset
           let __do_lift_1 <-part f.type ys f.offset
           let __do_lift <-Op.equalIn n f.type __do_lift __do_lift_1
           if (!__do_lift)=true then pure (ForInStep.done (some false,()))
            else pure (ForInStep.yield (none,()))
          else pure (ForInStep.yield (none,())):Sem (Option Bool×Unit))
   match s.fst with
        |some r=>pure r
        |none=>pure true)=some (zBh us vs):=by
 intro l;induction l with
 |nil=>
  intro i us vs hk _ _;cases us with
  |cons _ _=>cases hk
  |nil=>cases vs with
   |cons _ _=>cases hk
   |nil=>rfl
 |cons f l ih=>
  intro i us vs hk hx hy;cases us with
  |nil=>cases hk
  |cons u us=>cases vs with
   |nil=>cases hk
   |cons v vs=>
   simp only[zDa,QF]at hk;obtain⟨⟨⟨⟨k1,k2⟩,k3⟩,k4⟩,k5⟩:=hk;have hoff:=QG k2;have hname:f.name≠ "_":=by simpa using k1
   have hxu:xs[f.offset]?=some u:=by rw[hoff];simpa using hx 0
   have hyv:ys[f.offset]?=some v:=by rw[hoff];simpa using hy 0
   have ihl:=ih (i+1) us vs k5 (fun j=>by have:=hx (j+1);rw[List.getElem?_cons_succ]at this;rw[<-this];congr 1;omega) (fun j=>by have:=hy (j+1);rw[List.getElem?_cons_succ]at this;rw[<-this];congr 1;omega);have heq:zO P (Op.equalIn n f.type u v)=some (zFQ u v):=by rw[hn];exact zLt k4
   rw[List.forIn_cons];simp only[bind_assoc,zK,QI hname,zB8 k3 hxu,zB8 k3 hyv,QQ,heq];cases he:zFQ u v with
   |false=>simp only[zBh,he,Qe];rfl
   |true=>
    simp only[zBh,he,Qb];rw[<-ihl,zK];rfl
theorem zKO {t:TypeId} {fs:Array Field} {xs ys:Array Value} {x y:Operand} (ht:P.underlying t=some (.struct fs)) (hs:P.stoodInHeld t=false) (hg:P.eqGuardType P.depth t=false) (hk:zDa P fs.toList 0 xs.toList ys.toList=true):
  zO P (do eqGuard .eql t x y (.agg xs) (.agg ys);binOp .eql t (.agg xs) (.agg ys))=some (.bool (zBh xs.toList ys.toList)):=by
 have h1:zO P (eqGuard .eql t x y (.agg xs) (.agg ys))=some ():=by
  unfold eqGuard;simp only[QT,Qk,Ge];rw[zK,yh];simp only[QQ];rw[zK,yh];simp only[QQ,hg,Qd,Q2];rfl
 rw[zK,h1];simp only[QQ];unfold binOp;simp only[];rw[zK];have h2:zO P (Op.equal t (.agg xs) (.agg ys))=some (zBh xs.toList ys.toList):=by
  unfold Op.equal Op.maxDepth;rw[show (10000:Nat)=9999+1 from rfl,Op.equalIn,zK,yc ht];simp only[QQ];rw[zK,yh];simp only[QQ,hs,Qk,Ge];have:=zOz (P:=P) (xs:=xs) (ys:=ys) (n:=9999) (d:=9998) rfl fs.toList 0 xs.toList ys.toList hk (fun j=>by simp) (fun j=>by simp);rw[<-this,<-Array.forIn_toList,zK,zK];congr 1;funext s;obtain⟨a,_⟩:=s;cases a<;>rfl
 rw[h2];rfl
def chk (P:Program) (t:TypeId) (xs ys:List Value):Bool:=
 (match P.underlying t with|some (.struct fs)=>zDa P fs.toList 0 xs ys|_=>false)&& !P.stoodInHeld t&& !P.eqGuardType P.depth t
theorem zIO {t:TypeId} {xs ys:Array Value} {x y:Operand} {b:Bool} (h:chk P t xs.toList ys.toList=true) (hb:zBh xs.toList ys.toList=b):zO P (do eqGuard .eql t x y (.agg xs) (.agg ys);binOp .eql t (.agg xs) (.agg ys))=some (.bool b):=by
 subst hb;unfold chk at h;simp only[QF,Gd]at h;obtain⟨⟨h1,h2⟩,h3⟩:=h;split at h1;case h_2=>cases h1
 rename_i fs hu;exact zKO hu h2 h3 h1
end
section
variable {P:Program}
end
section
variable {P:Program} {tab:Tab}
def okU (m N0:Nat) (un:List Nat) (cl:Bool) (t:Trie Value) (o:AOper) (h h':AHeap):Prop:=
 (∀ g∈h'.wr,m<=g)/\h.n<=h'.n/\(un=[]\/(cl=true/\h'.wr=[]/\∀ g,zX t o=some g->g<N0))
def WU2 (P:Program) (tab:Tab) (m N0:Nat):List (AOper×List Nat)->Nat->Bool->AFr->AHeap->(AFr->AHeap->Prop)->Prop
 |[],_,_,fr,h,Q=>Q fr h
 |(o,un)::l,g,cl,fr,h,Q=>
  if Nat.beq (zE o.op) 3=true then
   un=[]/\((zL fr.tm o.guard=true/\m<=g/\∃ ob f,yY fr.tm o.op=some (ob,f)/\WU2 P tab m N0 l (g+1) false (val o.dst fr (f g)) ((inC h).lay g ob) Q)\/
    (zL fr.tm o.guard=false/\WU2 P tab m N0 l (g+1) cl (val o.dst fr undef) (inC h) Q))
  else WO P tab [o] fr (inC h) fun fr' h'=>okU m N0 un cl fr.tm o h h'/\WU2 P tab m N0 l g (cl&&h'.wr.isEmpty) fr' h' Q
theorem zLv {m N0:Nat} {un:List Nat} {cl:Bool} {t:Trie Value} {o:AOper} {h h':AHeap} (hk:okU m N0 un cl t o h h') {ws:List (Nat×Nat)} (hw:cl=true->ws=[]) {bs:List (Nat×Nat)} (hb:∀ e∈bs,N0<=e.2) (rs:List (Nat×Nat×Option (Nat×Nat×List Value))):
  ((match zX t o with
   |some g=>(ws.all fun x=> !(Nat.beq g x.2&&un.contains x.1))&&bs.all fun x=> !un.contains x.1||Nat.ble (g+1) x.2
   |none=>true)&&rs.all fun x=> !(un.contains x.1&&h'.wr.contains x.2.1)||zCm h' x.2.1 x.2.2)=true:=by
 obtain⟨_,_,rfl|⟨h1,h2,h3⟩⟩:=hk
 ·exact zNA o ws rs bs t h'
 ·rw[hw h1,h2];have e2:(rs.all fun x=> !(un.contains x.1&&([]:List Nat).contains x.2.1)||zCm h' x.2.1 x.2.2)=true:=by simp
  rw[e2,Qg];cases hr:zX t o with
  |none=>rfl
  |some g=>
   have hg:=h3 g hr;simp only[List.all_nil,Qb];rw[QU];intro x hx;have:Nat.ble (g+1) x.2=true:=QH (QK hg (hb x hx));rw[this,Qs]
theorem WU2.run {m N0:Nat}:∀ {ops:List (AOper×List Nat)} {g:Nat} {cl:Bool} {fr:AFr} {h:AHeap} {Q:AFr->AHeap->Prop},N0<=h.n->WU2 P tab m N0 ops g cl fr h Q->
  ∃ fr' h',Q fr' h'/\∀ (i:Nat) (ws:List (Nat×Nat)) (rs:List (Nat×Nat×Option (Nat×Nat×List Value))) (bs:List (Nat×Nat)),(∀ e∈ws,m<=e.2)->(cl=true->ws=[])->(∀ e∈bs,N0<=e.2)->
   ∃ ws',(∀ e∈ws',m<=e.2)/\Ev fun n=>yA P (aex P tab n) ops i g ws rs bs fr h=some (fr',h',ws'):=by
 intro ops;induction ops with
 |nil=>intro g cl fr h Q _ hx;exact⟨fr,h,hx,fun i ws rs bs hw _ _=>⟨ws,hw,Ev.all fun n=>rfl⟩⟩
 |cons x ops ihl=>
  intro g cl fr h Q hn hx;obtain⟨o,un⟩:=x;simp only[WU2]at hx;have go:∀ {g':Nat} {cl':Bool} {fr1:AFr} {h1:AHeap},(g'=bif Nat.beq (zE o.op) 3 then g+1 else g)->(cl'=true->cl=true/\h1.wr=[])->(Ev fun n=>zx P (aex P tab n) g o fr (inC h)=some (fr1,h1))->okU m N0 un cl fr.tm o h h1->WU2 P tab m N0 ops g' cl' fr1 h1 Q->
    ∃ fr' h',Q fr' h'/\∀ (i:Nat) (ws:List (Nat×Nat)) (rs:List (Nat×Nat×Option (Nat×Nat×List Value))) (bs:List (Nat×Nat)),(∀ e∈ws,m<=e.2)->(cl=true->ws=[])->(∀ e∈bs,N0<=e.2)->
     ∃ ws',(∀ e∈ws',m<=e.2)/\Ev fun n=>yA P (aex P tab n) ((o,un)::ops) i g ws rs bs fr h=some (fr',h',ws'):=by
   intro g' cl' fr1 h1 hg hcl ev hk hx;obtain⟨fr',h',q,run⟩:=ihl (QS hn hk.2.1) hx;refine⟨fr',h',q,fun i ws rs bs hws hwc hbs=> ?_⟩;obtain⟨ws',w1,w2⟩:=run (i+1) (h1.wr.map (fun g=>(i,g))++ws) (match zX fr.tm o with
     |some g=>(i,g,Yd fr.tm h o.op)::rs
     |none=>rs) ((i,h.n)::bs) (fun e he=>by
      rcases Qn.1 he with he|he
      ·obtain⟨y,hy,rfl⟩:=Q6.1 he;exact hk.1 y hy
      ·exact hws e he) (fun hc=>by
      obtain⟨c1,c2⟩:=hcl hc;rw[hwc c1,c2];rfl) (fun e he=>by
      rcases GO.1 he with rfl|he
      ·exact hn
      ·exact hbs e he)
   refine⟨ws',w1,(ev.and w2).mono fun n ⟨e1,e2⟩=> ?_⟩;simp only[yA];have e1':zx P (aex P tab n) g o fr {h with mark:=h.n,wr:=[]}=some (fr1,h1):=e1;rw[e1'];have hok:=zLv hk hwc hbs rs;exact(congrArg (fun b:Bool=>bif b then yA P (aex P tab n) ops (i+1) (bif Nat.beq (zE o.op) 3 then g+1 else g) (h1.wr.map (fun g=>(i,g))++ws) (match zX fr.tm o with
     |some g=>(i,g,Yd fr.tm h o.op)::rs
     |none=>rs) ((i,h.n)::bs) fr1 h1 else none) hok).trans (by rw[cond_true,<-hg];exact e2)
  by_cases hk:Nat.beq (zE o.op) 3=true
  ·rw[QI hk]at hx;obtain⟨rfl,⟨hw,hm,ob,f,hmade,hx⟩|⟨hw,hx⟩⟩:=hx;case inr=>
    refine go (g':=g+1) (cl':=cl) (by rw[hk];rfl) (fun h=>⟨h,rfl⟩) (Ev.all fun n=> ?_) (h1:=inC h) ⟨fun x hx=>(by cases hx),(show h.n<=h.n from QE _),.inl rfl⟩ hx;unfold zx;simp only[hk,hw,cond_true,QR]
   refine go (g':=g+1) (cl':=false) (by rw[hk];rfl) (fun h=>by cases h) (Ev.all fun n=> ?_) (h1:=(inC h).lay g ob) ⟨fun x hx=> ?_,(show h.n<=h.n from QE _),.inl rfl⟩ hx
   ·unfold zx;simp only[hk,hw,hmade,cond_true]
   ·rcases ZV hx with rfl|hx
    ·exact hm
    ·cases hx
  ·rw[QD hk]at hx;have hk':Nat.beq (zE o.op) 3=false:=by cases hb:Nat.beq (zE o.op) 3 with
    |false=>rfl
    |true=>exact absurd hb hk
   unfold WO at hx;obtain⟨fr1,h1,⟨q1,q2⟩,ev⟩:=hx;refine go (g':=g) (cl':=cl&&h1.wr.isEmpty) (by rw[hk'];rfl) (fun hc=>by
    rw[QF]at hc;exact⟨hc.1,List.isEmpty_iff.1 hc.2⟩) (ev.mono fun n e=> ?_) q1 q2
   unfold zx;simp only[hk',QR];simp only[yP]at e;cases ha:z8 P (aex P tab n) o fr (inC h)with
   |none=>rw[ha]at e;cases e
   |some p=>rw[ha]at e;exact e
def zF (k:Nat) (h:AHeap):AHeap:={h with n:=h.n+k}
theorem zZ (k:Nat) (h:AHeap):Ext h (zF k h):=⟨Gy _ _,fun _ _=>rfl,fun w g hg=>w g (QS (Gy _ _) hg),rfl,fun _=>rfl⟩
theorem WX.regionU2 {ops:List (AOper×List Nat)} {fr:AFr} {h:AHeap} {K:AExit->AFr->AHeap->Prop} (k:Nat) (hk:zFh ops=k) (hne:ops.isEmpty=false)
  (hx:WU2 P tab h.mark (h.n+k) ops h.n true fr (inC (zF k h)) (zCB K h)):WX P tab (.regionC ops) fr h K:=by
 subst hk;have hx':WU2 P tab h.mark (h.n+zFh ops) ops h.n true fr (zF (zFh ops) h) (zCB K h):=by
  cases ops with
  |nil=>cases hne
  |cons x ops=>exact hx
 obtain⟨fr',h',q,run⟩:=WU2.run (h:=zF (zFh ops) h) (show h.n+zFh ops<=h.n+zFh ops from QE _) hx';obtain⟨ws',w1,w2⟩:=run 0 [] [] [] (fun e he=>by cases he) (fun _=>rfl) (fun e he=>by cases he);unfold WX;refine⟨.normal,fr',_,q,Ev.up (w2.mono fun n e=> ?_)⟩;rw[zg];simp only[zV,YD];have e':yA P (aex P tab n) ops 0 h.n [] [] [] fr {h with n:=h.n+(ops.filter fun x=>Nat.beq (zE x.1.op) 3).length}=some (fr',h',ws'):=e;rw[e'];have:((ws'.map (·.2)).filter fun g=> !Nat.ble h.mark g)=[]:=by
  rw[List.filter_eq_nil_iff];intro g hg;obtain⟨y,hy,rfl⟩:=Q6.1 hg;have:Nat.ble h.mark y.2=true:=QH (w1 y hy);simp[this]
 simp[this,ZM]
end
section
variable {P:Program} {tab:Tab} {m N0:Nat} {l:List (AOper×List Nat)} {o:AOper} {un:List Nat} {g:Nat} {cl:Bool} {fr:AFr} {h h0 h':AHeap} {Q:AFr->AHeap->Prop} {K:AExit->AFr->AHeap->Prop} {x:AOper×List Nat}
def uK2 (P:Program) (tab:Tab) (m N0:Nat) (un:List Nat) (t:Trie Value) (o:AOper) (h:AHeap) (l:List (AOper×List Nat)) (g:Nat) (cl:Bool) (Q:AFr->AHeap->Prop):AFr->AHeap->Prop:=
 fun fr' h'=>okU m N0 un cl t o h h'/\WU2 P tab m N0 l g (cl&&h'.wr.isEmpty) fr' h' Q
theorem WU2.q (hk:Nat.beq (zE o.op) 3=false) (hx:WO P tab [o] fr (inC h) (uK2 P tab m N0 un fr.tm o (inC h) l g cl Q)):WU2 P tab m N0 ((o,un)::l) g cl fr (inC h) Q:=by
 simp only[WU2];rw[QD (by rw[hk];exact Bool.noConfusion)];exact hx
theorem zRQ {t:Trie Value} (hx:WU2 P tab m N0 l g cl fr (inC h) Q):uK2 P tab m N0 [] t o (inC h) l g cl Q fr (inC h):=
 ⟨⟨fun g hg=>(by cases hg),QE _,.inl rfl⟩,by rw[show (cl&&(inC h).wr.isEmpty)=cl from by simp[inC]];exact hx⟩
theorem zHr {t:Trie Value} (hr:∀ g,zX t o=some g->g<N0) (hx:WU2 P tab m N0 l g true fr (inC h) Q):uK2 P tab m N0 un t o (inC h) l g true Q fr (inC h):=
 ⟨⟨fun g hg=>(by cases hg),QE _,.inr ⟨rfl,rfl,hr⟩⟩,by rw[show (true&&(inC h).wr.isEmpty)=true from by simp[inC]];exact hx⟩
theorem zRc {t:Trie Value} (e:Ext (inC h) h') (hr:zX t o=none) (hx:WU2 P tab m N0 (x::l) g true fr (inC h') Q):uK2 P tab m N0 un t o (inC h) (x::l) g true Q fr h':=by
 have hw:=e.wrnil;refine⟨⟨fun g hg=>(by rw[hw]at hg;cases hg),e.n,?_⟩,?_⟩
 ·exact .inr ⟨rfl,hw,fun g hg=>by rw[hr]at hg;cases hg⟩
 ·rw[hw];exact hx
theorem zQj {t:Trie Value} (hx:K .normal fr (ZM h0 (inC h))):uK2 P tab m N0 [] t o (inC h) [] g cl (zCB K h0) fr (inC h):=⟨⟨fun g hg=>(by cases hg),QE _,.inl rfl⟩,hx⟩
theorem WU2.alst {t:Trie Value} {ds:List Deferred} {rd:Option Nat} {zero cs:List Value} {d n:Nat} {y:Operand} {v:Value} (hm:m<=g) (hg:g<h.n) (hz:zero.length=n) (hn:cs.length=n) (h1:zJ cs=true) (hv:v.cells=cs.toArray) (hy:ev (t.set d (.pointer (some ⟨g,0,none⟩))) y=v)
  (hx:Q ⟨t.set d (.pointer (some ⟨g,0,none⟩)),ds,rd⟩ ((inC ((inC h).lay g (.row zero true 0))).set g (.row cs true 0))):
  WU2 P tab m N0 [(⟨some d,none,.alloc zero⟩,[]),(⟨none,none,.store n (.tmp d) y⟩,[])] g cl ⟨t,ds,rd⟩ (inC h) Q:=by
 subst hn;rw[WU2,QI (show Nat.beq (zE (AOp.alloc zero)) 3=true from rfl)];refine⟨rfl,.inl ⟨rfl,hm,_,_,rfl,?_⟩⟩;rw[show inC (inC h)=inC h from rfl];rw[WU2,QD (show ¬Nat.beq (zE (AOp.store cs.length (.tmp d) y)) 3=true from Bool.noConfusion)];have hget:(inC ((inC h).lay g (.row zero true 0))).get g=some (.row zero true 0):=by
  show ((inC h).tab.set g (.row zero true 0)).get g=_;rw[zQ,QI rfl]
 have hst:za (inC ((inC h).lay g (.row zero true 0))) ⟨g,0,none⟩ cs=some ((inC ((inC h).lay g (.row zero true 0))).set g (.row cs true 0)):=by
  have h2:Nat.ble (0+cs.length) zero.length=true:=QH (by omega);have h3:Nat.ble 0 0=true:=rfl;have h4:zb zero 0 cs=cs:=by simp[zb,hz]
  simp only[za,hget,h2,h3,h1,h4,Qw,Qz,cond_true]
 refine WO.op0 undef ((inC ((inC h).lay g (.row zero true 0))).set g (.row cs true 0)) rfl (by
  simp only[aop];have e1:ev (val (some d) ⟨t,ds,rd⟩ (.pointer (some ⟨g,0,none⟩))).tm (.tmp d)= .pointer (some ⟨g,0,none⟩):=by simp only[val,ev,zh,Q2]
  have e2:ev (val (some d) ⟨t,ds,rd⟩ (.pointer (some ⟨g,0,none⟩))).tm y=v:=hy;have e1':ev (t.set d (.pointer (some ⟨g,0,none⟩))) (.tmp d)= .pointer (some ⟨g,0,none⟩):=e1;simp only[val,e1',hy,hv,G6,Gh,hst,QJ,cond_true]) ?_
 refine WO.nil ⟨⟨fun k hk=> ?_,QE _,.inl rfl⟩,hx⟩;have hk2:k∈(inC ((inC h).lay g (.row zero true 0))).log g:=hk;rcases ZV hk2 with rfl|hk3
 ·exact hm
 ·cases hk3
theorem zGl {k:Nat} {o o':AObj} (e:Ext (inC (zF 1 h0)) h):Ext h0 (ZM h0 ((inC ((inC h).lay h0.n o)).set h0.n o')):=by
 have hn:h0.n+1<=h.n:=e.n;refine⟨by show h0.n<=h.n;omega,fun k hk=> ?_,fun w k hk=> ?_,rfl,fun _=>rfl⟩
 ·show ((h.tab.set h0.n o).set h0.n o').get k=_;rw[zQ,QD (by omega),zQ,QD (by omega)];exact e.get k (by show k<h0.n+1;omega)
 ·have hk:h.n<=k:=hk;show ((h.tab.set h0.n o).set h0.n o').get k=_;rw[zQ,QD (by omega),zQ,QD (by omega)];exact e.wf (fun j hj=>w j (by have:h0.n+1<=j:=hj;omega)) k hk
theorem zHF {cs:List Value} {o:AObj} (e:Ext (inC (zF 1 h0)) h):OwnC h0 (ZM h0 ((inC ((inC h).lay h0.n o)).set h0.n (.row cs true 0))) (.pointer (some ⟨h0.n,0,none⟩)) cs:=by
 have hn:h0.n+1<=h.n:=e.n;exact⟨h0.n,QE _,by show h0.n<h.n;omega,rfl,by
  show ((h.tab.set h0.n o).set h0.n (.row cs true 0)).get h0.n=_;rw[zQ,QI rfl]⟩
end
section
variable {P:Program} {tab:Tab} {ds:List Deferred} {rd:Option Nat} {h:AHeap} {l:List AOper} {t:Trie Value}
theorem goU {G' G:Prop} (k:G') (r:Wrap G'->G:=by
  intro hgo;first|with_reducible show WU2 _ _ _ _ (_::_) _ _ _ _ _|refine go ?_
  repeat (first|((apply WU2.q;rfl);refine go ?_)|refine zRQ ?_|refine zQj ?_)
  first|with_reducible show WU2 _ _ _ _ (_::_) _ _ _ _ _|refine go ?_
  exact hgo.out):G:=r ⟨k⟩
theorem gUr {G' G:Prop} (k:G') (r:Wrap G'->G:=by
  intro hgo;refine goU ?_;refine rt ?_;exact hgo.out):G:=r ⟨k⟩
theorem WU2.al2 {m N0 n g d:Nat} {cl:Bool} {y:Operand} {v:Value} {zero cs:List Value} {Q:AFr->AHeap->Prop} (hm:m<=g) (hg:g<h.n) (hx:Q ⟨t.set d (.pointer (some ⟨g,0,none⟩)),ds,rd⟩ ((inC ((inC h).lay g (.row zero true 0))).set g (.row cs true 0)))
  (hy:Ope (t.set d (.pointer (some ⟨g,0,none⟩))) y v:=by exact zH) (hv:v.cells=cs.toArray:=by rfl) (hz:zero.length=n:=by rfl) (hn:cs.length=n:=by rfl) (h1:zJ cs=true:=by rfl):
  WU2 P tab m N0 [(⟨some d,none,.alloc zero⟩,[]),(⟨none,none,.store n (.tmp d) y⟩,[])] g cl ⟨t,ds,rd⟩ (inC h) Q:=WU2.alst hm hg hz hn h1 hv hy hx
theorem WU2.upd {N0 g:Nat} {cl:Bool} {mx kx vx:Operand} {mv:Value} {a b:Int} {es:List (Int×Int)} {h0 hS:AHeap} {K:AExit->AFr->AHeap->Prop} (o:OwnM h0 hS mv es) (e0:Ext h0 hS) (hm:hS.mark<=h0.n) (hl:es.lookup a=none)
  (k:∀ h1,Ext h0 h1->OwnM h0 h1 mv (es++[(a,b)])->zN0 mv hS h1->K .normal ⟨t,ds,rd⟩ h1) (hmx:Ope t mx mv:=by exact zH) (hkx:Ope t kx (I a):=by exact zH) (hvx:Ope t vx (I b):=by exact zH):
  WU2 P tab hS.mark N0 [(⟨none,none,.update mx kx vx⟩,[])] g cl ⟨t,ds,rd⟩ (inC (zF 0 hS)) (zCB K hS):=by
 obtain⟨q,c,es',g1,g2,rfl,g4,g5⟩:=o;unfold Ope at hmx hkx hvx;have hf:=zCY 0 g5 hl;have g4':(inC (inC (zF 0 hS))).get q=some (.map es' c):=g4;rw[WU2,QD (show ¬Nat.beq (zE (AOp.update mx kx vx)) 3=true from Bool.noConfusion)];refine WO.op0 undef ((inC (inC (zF 0 hS))).set q (.map (es'++[{key:=I a,val:=I b,born:=c}]) (c+1))) rfl (by simp only[aop,hmx,hkx,hvx,g4',hf]) ?_;refine WO.nil ⟨⟨fun x hx=> ?_,QE _,.inl rfl⟩,?_⟩
 ·have hx2:x∈(inC (inC (zF 0 hS))).log q:=hx;rcases ZV hx2 with rfl|hx3
  ·omega
  ·cases hx3
 ·refine k (ZM hS ((inC (inC (zF 0 hS))).set q (.map (es'++[{key:=I a,val:=I b,born:=c}]) (c+1)))) ?_ ?_ ?_
  ·refine⟨e0.n,fun j hj=> ?_,fun w j hj=> ?_,e0.mark,fun hmk=>e0.wr hmk⟩
   ·show (hS.tab.set q _).get j=_;rw[zQ,QD (by omega)];exact e0.get j hj
   ·have hj:hS.n<=j:=hj;show (hS.tab.set q _).get j=_;rw[zQ,QD (by omega)];exact e0.wf w j hj
  ·refine⟨q,c+1,es'++[{key:=I a,val:=I b,born:=c}],g1,g2,rfl,?_,by simp[g5]⟩;show (hS.tab.set q _).get q=_;rw[zQ,QI rfl]
  ·refine⟨QE _,fun j _ hj=> ?_⟩;show (hS.tab.set q _).get j=_;rw[zQ,QD (fun e=>hj (by rw[e]))];rfl
theorem zz {x:Operand} {v:Value} (hx:Ope t x v:=by exact zH):ev t x=v:=hx
theorem zOm {m N0 n g j:Nat} {un:List Nat} {d:Option Nat} {agg:Bool} {x:Operand} {p:Value} {cs:List Value} {h0 hs:AHeap} {l:List (AOper×List Nat)} {fr:AFr} {Q:AFr->AHeap->Prop} (o:OwnC h0 hs p cs) (hN:hs.n<=N0) (hx:WU2 P tab m N0 l g true fr (inC h) Q)
  (hr:Ope t x (yC p j):=by exact zH):uK2 P tab m N0 un t ⟨d,none,.load agg n x⟩ (inC h) l g true Q fr (inC h):=by
 refine zHr (fun k hk=> ?_) hx;obtain⟨q,q1,q2,rfl,q3⟩:=o;unfold Ope yC at hr;simp only[zX,zL,cond_true,hr,QA]at hk;omega
end
section
variable {P:Program} {tab:Tab} {t:Trie Value} {h:AHeap} {ds:List Deferred} {rd:Option Nat} {l:List AOper} {Q:AFr->AHeap->Prop}
def fl (n:Int):Value:= .float .f64 (FloatKind.nearest .f64 n)
end
open Go.RowKit
section
variable {H:Type}
theorem zGY {enc:TypeId×Value->H} {a:Assume} {C:Checked} {os:Os} {f:FuncId} {fn:Func} {s:ChangeSpec} {conds:List PathCond} {apart fresh handsOn again:Bool} {X:World->Array Value->Prop}
  (hX:∀ (w w':World) (args:Array Value),w.heap=w'.heap->X w args->X w' args)
  (own:ownKnob C.prog.godebug=none) (started:os.Started) (noInit:C.prog.inits.idxOf? f=none) (hfn:C.prog.funcs[f]?=some fn)
  (witness:∃ (w:World) (tape:Tape) (i:Input),w.os=os/\(w.forCall tape i).Shaped C.prog/\i.vars=[]/\Input.okWide C.prog (w.forCall tape i) .any w.heap.size f i/\
   ((s.pre enc C.prog fn conds apart (w.forCall tape i).memory i.args/\X (w.forCall tape i).memory i.args)/\sizedMet enc C.prog fn (OpenSpec.ofChange s) apart (w.forCall tape i).memory i.args)/\a.holds C.prog (lone (Frame.enter C.prog f i.args .normal) [] (w.forCall tape i)))
  (contract:∀ (W:World) (base:Nat) (args:Array Value) (ds gs:List (DataW H)) (before:List MemPlace),
   (∀ (j:Nat) t v,fn.params[j]?=some t->args[j]?=some v->Value.okWide C.prog W .any base t v)->
   DataW.Whole enc C.prog fn.params.toList s.vars apart W args.toList ds gs before->
   (DataW.weightsEach C.prog (fn.params.toList++(OpenSpec.ofChange s).bare.plain.varTypes C.prog) (ds++gs)).all (·<=reachBytes)=true->X W args->W.ShapedOpen C.prog->
   Calls C.prog f args W fun e W'=>∃ v,e= .returned v/\s.post enc C.prog fn apart fresh handsOn again W args v W'):
  ReturnsInHanded a C os f .any (fun w args=>(s.pre enc C.prog fn conds apart w args/\X w args)/\sizedMet enc C.prog fn (OpenSpec.ofChange s) apart w args) (s.post enc C.prog fn apart fresh handsOn again):=by
 refine returnsInHanded_of_calls own started noInit witness ?_;intro w tape i _ hsh _ hok hpre _;obtain⟨_,_,_,fn',hfn',_,_,_,_,hval⟩:=hok;have e:fn'=fn:=Qv (hfn'.symm.trans hfn);subst e;obtain⟨⟨_,hx⟩,_,ds,gs,before,hw,hsz⟩:=hpre;have hw':=DataW.Whole.of_heap (w':=w.forCall tape i) (by rfl) hw;refine(contract (w.forCall tape i) w.heap.size i.args ds gs before hval hw' hsz (hX _ _ _ (by rfl) hx) hsh).mono fun e W' ⟨v,he,hp⟩=> ?_;subst he;exact ChangeSpec.post_blind hp
def wOk (P:Program) (t:TypeId) (d:DataW H):Prop:=∀ n∈DataW.weights P t d,n<=reachBytes
variable {P:Program} {h:AHeap}
theorem zEM:∀ {ts:List TypeId} {ds:List (DataW H)},(∀ n∈DataW.weightsEach P ts ds,n<=reachBytes)->∀ (i:Nat) t d,ts[i]?=some t->ds[i]?=some d->wOk P t d
 |[],_,_,i,t,d,ht,_=>by simp at ht
 |_::_,[],_,i,t,d,_,hd=>by simp at hd
 |t::ts,d::ds,hw,0,_,_,ht,hd=>by
  simp at ht hd;subst ht hd;exact fun n hn=>hw n (by unfold DataW.weightsEach;simp[hn])
 |t::ts,d::ds,hw,i+1,_,_,ht,hd=>
  zEM (ts:=ts) (ds:=ds) (fun n hn=>hw n (by unfold DataW.weightsEach;simp[hn])) i _ _ (by simpa using ht) (by simpa using hd)
theorem zJn {e:TypeId}:∀ {ds:List (DataW H)},(∀ n∈DataW.weightsAll P e ds,n<=reachBytes)->∀ (i:Nat) d,ds[i]?=some d->wOk P e d
 |[],_,i,d,hd=>by simp at hd
 |d::ds,hw,0,_,hd=>by
  simp at hd;subst hd;exact fun n hn=>hw n (by unfold DataW.weightsAll;simp[hn])
 |d::ds,hw,i+1,_,hd=>zJn (ds:=ds) (fun n hn=>hw n (by unfold DataW.weightsAll;simp[hn])) i _ (by simpa using hd)
theorem zE2 {t e:TypeId} {elems spare:List (DataW H)} (ht:P.underlying t=some (.slice e)) (hw:wOk P t (.slice elems spare)):elems.length * P.bytesOf e<=reachBytes/\∀ (i:Nat) d,elems[i]?=some d->wOk P e d:=by
 unfold wOk at hw;unfold DataW.weights at hw;rw[ht]at hw;simp only at hw;refine⟨?_,zJn fun n hn=>hw n (by simp[hn])⟩;have:=hw _ (Qf ..);exact QS (GY _ (Gy _ _)) this
theorem zIc {t:TypeId} {fs:Array Field} {parts:List (DataW H)} (ht:P.underlying t=some (.struct fs)) (hw:wOk P t (.agg parts)) (i:Nat) (f:Field) (d:DataW H) (hf:fs[i]?=some f) (hd:parts[i]?=some d):wOk P f.type d:=by
 unfold wOk at hw;unfold DataW.weights at hw;rw[ht]at hw;exact zEM hw i f.type d (by simp[hf]) hd
theorem zCG {α:Type} {c:Nat} {R:AHeap->List Value->α->Prop} {t e:TypeId} {acs:List Value} {d:DataW H} (r:Rd P h t acs d) (ht:P.underlying t=some (.slice e)) (hc:P.cellsOf e=c) (hb:1<=P.bytesOf e) (hw:wOk P t d)
  (hR:∀ cs (d:DataW H),Rd P h e cs d->wOk P e d->∃ a,R h cs a):∃ av l,acs=[av]/\SlR c R h av l/\(l.length:Int)<=1152921504606846976:=by
 subst hc;rcases zDe r ht with ⟨rfl,_⟩|⟨a,sp,rfl,_⟩|⟨g,cells,elems,sp,rfl,rfl,hg,hn,hl,hm,hr⟩
 ·exact⟨_,[],rfl,SlR.nil,by simp⟩
 ·exact⟨_,[],rfl,⟨[],⟨by simp,.inl ⟨rfl,.inr ⟨_,_,rfl⟩⟩⟩,fun i a ha=>by simp at ha⟩,by simp⟩
 ·obtain⟨w1,w2⟩:=zE2 ht hw;obtain⟨l,h1,h2⟩:=zOy (p:=fun i a=>R h ((cells.drop (i * P.cellsOf e)).take (P.cellsOf e)) a) elems.length fun i hi=>hR _ _ (hr i _ (QC hi)) (w2 i _ (QC hi));refine⟨_,l,rfl,⟨cells,⟨by rw[h1];exact hl,.inr ⟨g,0,cells,by rw[h1],by simp[zt,hg],?_,hn⟩⟩,h2⟩,?_⟩
  ·rw[h1,<-hl];simp[cut,QH (QE _)]
  ·have:elems.length<=elems.length * P.bytesOf e:=Nat.le_mul_of_pos_right _ hb;unfold reachBytes at w1;rw[h1];omega
theorem zDr {t e:TypeId} {acs:List Value} {d:DataW H} (r:Rd P h t acs d) (ht:P.underlying t=some (.slice e)) (he:P.underlying e=some (.int .i64)) (hc:P.cellsOf e=1) (hb:1<=P.bytesOf e) (hw:wOk P t d):
  ∃ av l,acs=[av]/\SlI h av l/\(l.length:Int)<=1152921504606846976/\∀ a∈l,(Lit.int .i64 a).wf=true:=by
 obtain⟨av,l,h1,h2,_,h4⟩:=zPU r ht he hc;refine⟨av,l,h1,h2,?_,h4⟩;rcases zDe r ht with ⟨rfl,_⟩|⟨a,sp,rfl,_⟩|⟨g,cells,elems,sp,rfl,rfl,_⟩
 ·cases h1;have:=h2.len (P:=P) (ih:=Ex.bot) (t:= .leaf) (x:= .const (.slice none 0 0)) rfl;rcases h2 with ⟨_,⟨h0,_⟩|⟨g,off,row,hv,_⟩⟩
  ·omega
  ·cases hv
 ·cases h1;rcases h2 with ⟨_,⟨h0,_⟩|⟨g,off,row,hv,_⟩⟩
  ·omega
  ·injection hv with _ e2 _;omega
 ·cases h1;obtain⟨w1,_⟩:=zE2 ht hw;have hle:elems.length<=elems.length * P.bytesOf e:=Nat.le_mul_of_pos_right _ hb;unfold reachBytes at w1;rcases h2 with ⟨_,⟨h0,_⟩|⟨g,off,row,hv,_⟩⟩
  ·omega
  ·injection hv with _ e2 _;omega
theorem Z2 {t:TypeId} {fs:Array Field} {acs:List Value} {d:DataW H} (r:Rd P h t acs d) (ht:P.underlying t=some (.struct fs)) (hw:wOk P t d):
  acs.length=P.cellsOf t/\∀ (i:Nat) (f:Field),fs[i]?=some f->∃ d:DataW H,Rd P h f.type ((acs.drop f.offset).take (P.cellsOf f.type)) d/\wOk P f.type d:=by
 cases r with
 |int n ht' wf=>rw[ht]at ht';cases ht'
 |bool _ ht'=>rw[ht]at ht';cases ht'
 |string _ ht'=>rw[ht]at ht';cases ht'
 |snil ht'=>rw[ht]at ht';cases ht'
 |szero a sp ht'=>rw[ht]at ht';cases ht'
 |slice g cells elems sp ht' hg hn hl hm hr=>rw[ht]at ht';cases ht'
 |array _ _ ht'=>rw[ht]at ht';cases ht'
 |struct cells parts ht' hl hp hr=>
  rw[ht]at ht';cases ht';refine⟨hl,fun i f hf=> ?_⟩;have hi:i<parts.length:=by rw[hp];exact(Gn.1 hf).1
  exact⟨_,hr i f _ hf (QC hi),zIc ht hw i f _ hf (QC hi)⟩
end
section
variable {H:Type} {P:Program} {h:AHeap}
end
def Lies (h:AHeap) (g:Nat) (o:AObj):Prop:=g<h.n/\h.get g=some o
def zJt:AObj->Bool
 | .loop .. | .deferred .. =>true
 |_=>false
theorem Lies.ext {h h':AHeap} {g:Nat} {o:AObj} (k:Lies h g o) (e:Ext h h'):Lies h' g o:=⟨QK k.1 e.n,(e.get g k.1).trans k.2⟩
theorem Lies.updC {h0 h h':AHeap} {g:Nat} {o:AObj} {p:Value} {cs:List Value} (k:Lies h g o) (hr:zJt o=true) (w:OwnC h0 h p cs) (u:UpdC p h h'):Lies h' g o:=by
 refine⟨QK k.1 u.1,(u.2 g k.1 fun e=> ?_).trans k.2⟩;obtain⟨g2,_,_,rfl,hg⟩:=w;cases e;have:=k.2;rw[hg]at this;cases this;cases hr
theorem Lies.upd {h0 h h':AHeap} {g:Nat} {o:AObj} {v:Value} {xs:List Int} (k:Lies h g o) (hr:zJt o=true) (w:OwnN h0 h v xs) (u:Upd v h h'):Lies h' g o:=by
 refine⟨QK k.1 u.1,(u.2 g k.1 fun a n c hv e=> ?_).trans k.2⟩;rcases w with ⟨rfl,_⟩|⟨g2,_,_,rfl,hg⟩
 ·cases hv
 ·cases hv;simp only at e;subst e;have:=k.2;rw[hg]at this;cases this;cases hr
theorem Lies.set {h:AHeap} {g l:Nat} {o p:AObj} (k:Lies h g o) (hne:g≠l):Lies (h.set l p) g o:=⟨k.1,by rw[zu,QD hne];exact k.2⟩
theorem Lies.self {h:AHeap} {g:Nat} {o p:AObj} (k:Lies h g o):Lies (h.set g p) g p:=⟨k.1,by rw[zu,QI rfl]⟩
theorem OwnC.setR {h0 h:AHeap} {p:Value} {cs:List Value} {l:Nat} {o o':AObj} (w:OwnC h0 h p cs) (k:Lies h l o) (hr:zJt o=true):OwnC h0 (h.set l o') p cs:=by
 obtain⟨g,a,b,c,d⟩:=w;refine⟨g,a,b,c,?_⟩;rw[zu,QD (fun e=> ?_)]
 ·exact d
 ·subst e;have:=k.2;rw[d]at this;cases this;cases hr
theorem OwnN.setR {h0 h:AHeap} {v:Value} {xs:List Int} {l:Nat} {o o':AObj} (w:OwnN h0 h v xs) (k:Lies h l o) (hr:zJt o=true):OwnN h0 (h.set l o') v xs:=by
 rcases w with w|⟨g,a,b,c,d⟩
 ·exact .inl w
 ·refine .inr ⟨g,a,b,c,?_⟩;rw[zu,QD (fun e=> ?_)]
  ·exact d
  ·subst e;have:=k.2;rw[d]at this;cases this;cases hr
theorem zDs {t:Trie Value} {d:Option Nat} {g:Option (Nat×Bool)} {f:Operand} {args:List Operand}:zX t ⟨d,g,.call f args⟩=none:=by
 unfold zX;cases zL t g<;>rfl
section
variable {P:Program} {tab:Tab} {m N0 g:Nat} {un:List Nat} {t:Trie Value} {h h':AHeap} {x:AOper×List Nat} {l:List (AOper×List Nat)} {fr:AFr} {Q:AFr->AHeap->Prop}
theorem nE {d:Option Nat} {gd:Option (Nat×Bool)} {f:Operand} {as:List Operand} (e:Ext (inC h) h') (hx:WU2 P tab m N0 (x::l) g true fr (inC h') Q):WO P tab [] fr h' (uK2 P tab m N0 un t ⟨d,gd,.call f as⟩ (inC h) (x::l) g true Q):=WO.nil (zRc e zDs hx)
theorem nQ {cl:Bool} {o:AOper} (hx:WU2 P tab m N0 l g cl fr (inC h) Q):WO P tab [] fr (inC h) (uK2 P tab m N0 [] t o (inC h) l g cl Q):=WO.nil (zRQ hx)
end
section
variable {P:Program} {tab:Tab}
attribute [local semireducible] WX WV WC Ev
def zTH (l:Nat) (Q:Value->AHeap->Prop):AExit->AFr->AHeap->Prop
 | .normal,fr,h2=>fr.dfs=[]/\∃ r2,Lies h2 l (.loop r2)/\Q (.bool true) (h2.set l (.loop {r2 with state:= .ready,pending:=none}))
 |_,_,_=>False
def zPs (P:Program) (tab:Tab) (l:Nat) (r:ALoop) (h0:AHeap) (Q:Value->AHeap->Prop):AExit->AFr->AHeap->Prop
 | .normal,fr,h=>h=h0/\WX P tab r.body fr (h.set l (.loop {r with state:= .busy})) (zTH l Q)
 |_,_,_=>False
theorem WV.yield {l args h Q a b} {r:ALoop} (hl:Lies h l (.loop r)) (hr:r.state= .ready) (hn:Nat.beq args.length r.params.length=true)
  (hx:WX P tab r.assign ⟨zBE r.params args r.tm,[],some l⟩ h (zPs P tab l r h Q)):WV P tab (.func (.yield l) a b) args h Q:=by
 obtain⟨e,fr,h1,k,ev⟩:=hx;cases e with
 |normal=>
  obtain⟨rfl,e2,fr2,h2,k2,ev2⟩:=k;cases e2 with
  |normal=>
   obtain⟨kd,r2,hl2,hq⟩:=k2;refine⟨_,_,hq,(ev.and ev2).mono fun n ⟨x1,x2⟩=> ?_⟩;have h1:=hl.2;have h2:=hl2.2;simp only[zAJ,h1,hn,cond_true,zAR,x1,hr,x2,kd,h2,ZC]
  |exit i=>exact k2.elim
  |goto i=>exact k2.elim
  |ret=>exact k2.elim
 |exit i=>exact k.elim
 |goto i=>exact k.elim
 |ret=>exact k.elim
def zM8 (t:Trie Value) (ps:List Nat) (a b:ACode) (d:Nat):ALoop:={state:= .ready,pending:=none,fn:=0,tm:=t,params:=ps,assign:=a,body:=b,defers:=d}
def zCq (h:AHeap) (t:Trie Value) (ps:List Nat) (a b:ACode):AHeap:=(h.push (.deferred (some []))).push (.loop (zM8 t ps a b h.n))
theorem zKg (h:AHeap) (t ps a b):Ext h (zCq h t ps a b):=((Ext.refl h).push _).push _
theorem zLx (h:AHeap) (t ps a b):Lies (zCq h t ps a b) h.n (.deferred (some [])):=by
 refine⟨by simp[zCq,AHeap.push];omega,?_⟩;unfold zCq;rw[zI,QD (by simp[AHeap.push]),zI,QI rfl]
theorem zIr (h:AHeap) (t ps a b):Lies (zCq h t ps a b) (h.n+1) (.loop (zM8 t ps a b h.n)):=by
 refine⟨by simp[zCq,AHeap.push],?_⟩;unfold zCq;rw[zI,QI (by simp[AHeap.push])]
theorem WX.rangeF {f ps a b t ds h K} (hx:WV P tab (ev t f) [.func (.yield (h.n+1)) #[] #[]] (zCq h t ps a b) fun _ h2=>∃ r,Lies h2 (h.n+1) (.loop r)/\r.state= .ready/\r.pending=none/\
   K .normal ⟨t,{target:= .collected h.n,args:=#[]}::ds,none⟩ (h2.set (h.n+1) (.loop {r with state:= .exhausted}))):WX P tab (.rangeFunc f ps a b) ⟨t,ds,none⟩ h K:=by
 obtain⟨v,h2,⟨r,hl,hs,hp,hk⟩,ev⟩:=hx;refine⟨_,_,_,hk,Ev.up (ev.mono fun n e=> ?_)⟩;rw[zg];simp only[zV,zAX,Ya];have hn:(h.push (.deferred (some []))).n=h.n+1:=rfl;have e':zAJ (aex P tab n) (Am.ev t f) [.func (.yield (h.push (.deferred (some []))).n) #[] #[]] ((h.push (.deferred (some []))).push (.loop {state:= .ready,pending:=none,fn:=0,tm:=t,params:=ps,assign:=a,body:=b,defers:=h.n}))=some (v,h2):=e;rw[e'];have hl2:=hl.2;simp only[hn,hl2,hs,hp,List.singleton_append]
theorem zHa {rs Q t rd h g} (hg:Lies h g (.deferred (some []))) (hx:zDv P tab rs Q .ret ⟨t,[],rd⟩ (h.set g (.deferred none))):zDv P tab rs Q .ret ⟨t,[{target:= .collected g,args:=#[]}],rd⟩ h:=by
 unfold zDv at *;exact WD.collected hg.2 hx
theorem Res.consB {h:AHeap} {t:Trie Value} {j n:Nat} {p v:Value} {h0:AHeap} {cs:List Value} {rs:List (Nat×Option (Bool×Nat))} {vs:List Value} (s:Slot t j p) (o:OwnC h0 h p cs) (hr:(cut cs 0 n).bind (zG false)=some v) (k:Res h t rs vs):Res h t ((j,some (false,n))::rs) (v::vs):=by
 obtain⟨g,_,_,rfl,hg⟩:=o;unfold Res at *;unfold Slot at s;simp only[zq,YC,s,ZE hg,Qw,cond_true,QQ,hr,k]
structure Ready (r:ALoop) (t:Trie Value) (ps:List Nat) (a b:ACode):Prop where
 st:r.state= .ready
 pd:r.pending=none
 tm:r.tm=t
 ps:r.params=ps
 as:r.assign=a
 bd:r.body=b
def busy (r:ALoop):ALoop:={r with state:= .busy}
def zSl (L:Nat) (r:ALoop) (Q:Value->AHeap->Prop):AExit->AFr->AHeap->Prop
 | .normal,fr,h2=>fr.dfs=[]/\Lies h2 L (.loop (busy r))/\Q (.bool true) (h2.set L (.loop r))
 |_,_,_=>False
theorem zCz {L r Q t rd h} (hl:Lies h L (.loop (busy r))) (hq:Q (.bool true) (h.set L (.loop r))):zSl L r Q .normal ⟨t,[],rd⟩ h:=⟨rfl,hl,hq⟩
def zTq (P:Program) (tab:Tab) (L:Nat) (r:ALoop) (b:ACode) (h:AHeap) (Q:Value->AHeap->Prop):AExit->AFr->AHeap->Prop
 | .normal,fr,h'=>h'=h/\WX P tab b fr (h.set L (.loop (busy r))) (zSl L r Q)
 |_,_,_=>False
theorem zCe {L r b h Q fr} (hx:∀ h',h'=h.set L (.loop (busy r))->WX P tab b fr h' (zSl L r Q)):zTq P tab L r b h Q .normal fr h:=⟨rfl,hx _ rfl⟩
theorem WV.yieldG {L args h Q t ps a b x y} {r:ALoop} (hl:Lies h L (.loop r)) (hr:Ready r t ps a b) (hn:Nat.beq args.length ps.length=true)
  (hx:WX P tab a ⟨zBE ps args t,[],some L⟩ h (zTq P tab L r b h Q)):WV P tab (.func (.yield L) x y) args h Q:=by
 obtain⟨h1,h2,rfl,rfl,rfl,rfl⟩:=hr;refine WV.yield hl h1 hn ?_;refine WX.mono hx fun e fr h' k=> ?_;cases e with
 |normal=>
  refine⟨k.1,?_⟩;obtain⟨e1,k⟩:=k;subst e1;refine WX.mono k fun e fr h' k=> ?_;cases e with
  |normal=>
   obtain⟨k1,k2,k3⟩:=k;refine⟨k1,_,k2,?_⟩;have:({busy r with state:= .ready,pending:=none}:ALoop)=r:=by
    cases r;simp only[busy]at *;simp_all
   rw[this];exact k3
  |exit i=>exact k.elim
  |goto i=>exact k.elim
  |ret=>exact k.elim
 |exit i=>exact k.elim
 |goto i=>exact k.elim
 |ret=>exact k.elim
theorem WX.rangeG {f ps a b t ds h K} {fv:Value} (hx:∀ (L g:Nat) (r:ALoop) (hO:AHeap),Ready r t ps a b->Ext h hO->h.n<=L->h.n<=g->Lies hO L (.loop r)->Lies hO g (.deferred (some []))->
   WV P tab fv [.func (.yield L) #[] #[]] hO fun _ h2=>Lies h2 L (.loop r)/\∀ r3,K .normal ⟨t,{target:= .collected g,args:=#[]}::ds,none⟩ (h2.set L (.loop r3))) (hf:Ope t f fv:=by exact zz):WX P tab (.rangeFunc f ps a b) ⟨t,ds,none⟩ h K:=by
 refine WX.rangeF ?_;have hf:Am.ev t f=fv:=hf;rw[hf];refine WV.mono (hx (h.n+1) h.n _ _ ⟨rfl,rfl,rfl,rfl,rfl,rfl⟩ (zKg h t ps a b) (GT _) (QE _) (zIr ..) (zLx ..)) fun _ h2 ⟨k1,k2⟩=> ?_;exact⟨_,k1,rfl,rfl,k2 _⟩
end
structure Hid (p:Prop):Prop where
 out:p
def swp (xs:List Int) (i j:Int):List Int:=(xs.set i.toNat (xs.getD j.toNat 0)).set j.toNat (xs.getD i.toNat 0)
abbrev atI (xs:List Int) (i:Int):Int:=xs.getD i.toNat 0
theorem zIh (xs:List Int) (i j:Int):(swp xs i j).length=xs.length:=by simp[swp]
theorem zA2 {xs:List Int} {i:Nat} {v:Int} {k:Nat} (hi:i<xs.length):(xs.set i v).getD k 0=if k=i then v else xs.getD k 0:=by
 simp only[QN,List.getElem?_set];by_cases h:i=k
 ·subst h;simp[hi]
 ·rw[QD h,QD (fun e=>h e.symm)]
theorem yO {xs:List Int} {i j k:Int} (hi:0<=i/\i<xs.length) (hj:0<=j/\j<xs.length) (hk:0<=k):atI (swp xs i j) k=if k=j then atI xs i else if k=i then atI xs j else atI xs k:=by
 unfold atI swp;rw[zA2 (by simp;omega),zA2 (by omega)];have e1:(k.toNat=j.toNat)↔k=j:=by omega
 have e2:(k.toNat=i.toNat)↔k=i:=by omega
 simp only[e1,e2]
theorem zCa (c v:Int):∀ (xs:List Int) (i:Nat),i<xs.length->(xs.set i v).count c+(if xs.getD i 0=c then 1 else 0)=xs.count c+(if v=c then 1 else 0)
 |[],i,h=>by simp at h
 |x::xs,0,_=>by
  simp only[List.set_cons_zero,List.count_cons,List.getD_cons_zero,Gw];omega
 |x::xs,i+1,h=>by
  have:=zCa c v xs i (by simpa using h);simp only[List.set_cons_succ,List.count_cons,List.getD_cons_succ,Gw]at *;omega
theorem zNv {xs:List Int} {i j:Int} (hi:0<=i/\i<xs.length) (hj:0<=j/\j<xs.length):(swp xs i j).Perm xs:=by
 rw[List.perm_iff_count];intro c;have h1:=zCa c (xs.getD j.toNat 0) xs i.toNat (by omega);have h2:=zCa c (xs.getD i.toNat 0) (xs.set i.toNat (xs.getD j.toNat 0)) j.toNat (by simp;omega);rw[zA2 (by omega)]at h2;unfold swp;by_cases e:j.toNat=i.toNat
 ·rw[QI e]at h2;rw[e]at h1 h2 |-;omega
 ·rw[QD e]at h2;omega
structure PI (a b:Int) (xs ys:List Int):Prop where
 len:ys.length=xs.length
 perm:ys.Perm xs
 out:∀ k:Int,0<=k->(k<a\/b<=k)->atI ys k=atI xs k
theorem PI.refl (a b:Int) (xs:List Int):PI a b xs xs:=⟨rfl,.refl _,fun _ _ _=>rfl⟩
theorem PI.trans {a b:Int} {xs ys zs:List Int} (h:PI a b xs ys) (k:PI a b ys zs):PI a b xs zs:=⟨k.len.trans h.len,k.perm.trans h.perm,fun i h0 hi=>(k.out i h0 hi).trans (h.out i h0 hi)⟩
theorem PI.mono {a b a' b':Int} {xs ys:List Int} (h:PI a b xs ys) (ha:a'<=a) (hb:b<=b'):PI a' b' xs ys:=⟨h.len,h.perm,fun k h0 hk=>h.out k h0 (by omega)⟩
theorem PI.swp {a b i j:Int} {xs:List Int} (h0:0<=a) (hb:b<=xs.length) (hi:a<=i/\i<b) (hj:a<=j/\j<b):PI a b xs (swp xs i j):=
 ⟨zIh ..,zNv (by omega) (by omega),fun k hk ho=>by rw[yO (by omega) (by omega) hk,QD (by omega),QD (by omega)]⟩
theorem zDY (xs:List Int) (a b:Nat) (hab:a<=b):xs=xs.take a++((xs.drop a).take (b - a)++xs.drop b):=by
 have:xs.drop b=(xs.drop a).drop (b - a):=by rw[G7];congr 1;omega
 rw[this,GV,GV]
theorem zBt {xs ys:List Int} (hl:xs.length=ys.length) (h:∀ k:Nat,k<xs.length->xs.getD k 0=ys.getD k 0):xs=ys:=by
 apply List.ext_getElem hl;intro i h1 h2;have:=h i h1;simpa [List.getD,QC h1,QC h2]using this
theorem PI.all {a b:Int} {xs ys:List Int} (h:PI a b xs ys) (h0:0<=a) (hb:b<=xs.length) {p:Int->Prop} (hp:∀ k,a<=k->k<b->p (atI xs k)):∀ k,a<=k->k<b->p (atI ys k):=by
 intro k hk1 hk2;obtain⟨A,rfl⟩:∃ A:Nat,a=A:=⟨a.toNat,by omega⟩;obtain⟨B,rfl⟩:∃ B:Nat,b=B:=⟨b.toNat,by omega⟩;have hl:=h.len;have e1:=zDY xs A B (by omega);have e2:=zDY ys A B (by omega);have t1:ys.take A=xs.take A:=zBt (by simp[hl]) fun k hk=>by
  have hk':k<A:=by simp at hk;omega
  have:=h.out (k:Int) (by omega) (by omega);simpa [atI,QN,Q4,hk']using this
 have t2:ys.drop B=xs.drop B:=zBt (by simp[hl]) fun k hk=>by
  have:=h.out ((B+k:Nat):Int) (by omega) (by omega);simp only[atI,Qa]at this;simpa [QN,GJ]using this
 have hp':=h.perm;rw[e1,e2,t1,t2]at hp';have hs:=(List.perm_append_right_iff _).1 ((List.perm_append_left_iff _).1 hp');have hmem:atI ys k∈(ys.drop A).take (B - A):=by
  rw[Gf];refine⟨k.toNat - A,?_⟩;rw[Q4,QI (by omega),GJ,show A+(k.toNat - A)=k.toNat by omega];unfold atI;rw[QN,QC (by omega)];rfl
 obtain⟨m,hm⟩:=Gf.1 (hs.mem_iff.1 hmem);rw[Q4]at hm;split at hm
 ·rename_i hlt;rw[GJ]at hm;have:=hp ((A+m:Nat):Int) (by omega) (by omega);unfold atI at this;rw[Qa,QN,hm]at this;exact this
 ·cases hm
def Srt (a b:Int) (xs:List Int):Prop:=∀ i j:Int,a<=i->i<=j->j<b->atI xs i<=atI xs j
theorem Srt.small {a b:Int} {xs:List Int} (h:b<=a+1):Srt a b xs:=fun i j h1 h2 h3=>by
 have:i=j:=by omega
 subst this;exact Qh _
theorem zIp {xs ys:List Int} (h:ys.Perm xs) (s:Srt 0 ys.length ys):ys=xs.mergeSort (fun a b=>decide (a<=b)):=by
 have hp:ys.Pairwise (fun a b=>decide (a<=b)=true):=by
  rw[List.pairwise_iff_getElem];intro i j hi hj hij;have:=s (i:Int) (j:Int) (by omega) (by omega) (by omega);simp only[atI,Qa,QN,QC hi,QC hj,GB]at this;simpa using this
 refine List.Perm.eq_of_pairwise (le:=fun a b=>decide (a<=b)=true) (fun a b _ _ h1 h2=> ?_) hp ?_ (h.trans (List.mergeSort_perm xs _).symm)
 ·simp only[QX]at h1 h2;omega
 ·exact List.pairwise_mergeSort (fun a b c h1 h2=>by simp only[QX]at *;omega) (fun a b=>by simp only[GD,QX];omega) xs
theorem zAC (h:AHeap):ZM h (inC (zF 0 h))=h:=rfl
theorem zGi {a i j:Int} {zs:List Int} (h0:0<=a) (hj:a<j) (hji:j<=i) (hil:i<zs.length) (hlt:atI zs j<atI zs (j - 1)) (r:∀ p q,a<=p->p<=q->q<=i->q≠j->atI zs p<=atI zs q):∀ p q,a<=p->p<=q->q<=i->q≠j - 1->atI (swp zs j (j - 1)) p<=atI (swp zs j (j - 1)) q:=by
 intro p q h1 h2 h3 h4;rw[yO (by omega) (by omega) (by omega),yO (by omega) (by omega) (by omega),QD h4];by_cases hq:q=j
 ·rw[QI hq];by_cases hp:p=j - 1
  ·rw[QI hp];omega
  ·rw[QD hp];by_cases hp2:p=j
   ·rw[QI hp2];exact Qh _
   ·rw[QD hp2];exact r p (j - 1) h1 (by omega) (by omega) (by omega)
 ·rw[QD hq];by_cases hp:p=j - 1
  ·rw[QI hp];exact r j q (by omega) (by omega) h3 hq
  ·rw[QD hp];by_cases hp2:p=j
   ·rw[QI hp2];exact r (j - 1) q (by omega) (by omega) h3 hq
   ·rw[QD hp2];exact r p q h1 h2 h3 hq
theorem Upd.trans {v:Value} {h h1 h2:AHeap} (a:Upd v h h1) (b:Upd v h1 h2):Upd v h h2:=⟨QS a.1 b.1,fun g hg hv=>(b.2 g (QK hg a.1) hv).trans (a.2 g hg hv)⟩
theorem Upd.refl (v:Value) (h:AHeap):Upd v h h:=⟨QE _,fun _ _ _=>rfl⟩
structure SS (hB h:AHeap) (v:Value) (a b:Int) (xs ys:List Int) (h1:AHeap):Prop where
 own:OwnI hB h1 v ys
 ext:Ext hB h1
 upd:Upd v h h1
 pi:PI a b xs ys
theorem SS.start {hB h:AHeap} {v:Value} {xs:List Int} (a b:Int) (o:OwnI hB h v xs) (e:Ext hB h):SS hB h v a b xs xs h:=⟨o,e,Upd.refl v h,PI.refl ..⟩
theorem SS.swp {hB h h1 h3:AHeap} {v:Value} {a b i j:Int} {xs ys:List Int} (s:SS hB h v a b xs ys h1) (e3:Ext hB h3) (o3:OwnI hB h3 v (swp ys i j)) (u3:Upd v h1 h3) (h0:0<=a) (hb:b<=xs.length) (hi:a<=i/\i<b) (hj:a<=j/\j<b):SS hB h v a b xs (swp ys i j) h3:=
 ⟨o3,e3,s.upd.trans u3,s.pi.trans (PI.swp h0 (by rw[s.pi.len];exact hb) hi hj)⟩
theorem SS.call {hB h h1 h2:AHeap} {v:Value} {a b c d:Int} {xs ys zs:List Int} (s:SS hB h v a b xs ys h1) (k:SS hB h1 v c d ys zs h2) (ha:a<=c) (hb:d<=b):SS hB h v a b xs zs h2:=
 ⟨k.own,k.ext,s.upd.trans k.upd,s.pi.trans (k.pi.mono ha hb)⟩
theorem UpdC.trans {p:Value} {h h1 h2:AHeap} (a:UpdC p h h1) (b:UpdC p h1 h2):UpdC p h h2:=⟨QS a.1 b.1,fun g hg hv=>(b.2 g (QK hg a.1) hv).trans (a.2 g hg hv)⟩
theorem SS.extd {hB h h1 h2:AHeap} {v:Value} {a b:Int} {xs ys:List Int} (s:SS hB h v a b xs ys h1) (e:Ext h1 h2):SS hB h v a b xs ys h2:=
 ⟨s.own.ext e,s.ext.trans e,s.upd.trans ⟨e.n,fun g hg _=>e.get g hg⟩,s.pi⟩
theorem SS.updC {hB h h1 h2:AHeap} {v:Value} {a b:Int} {xs ys:List Int} {g:Nat} (s:SS hB h v a b xs ys h1) (o:OwnI hB h v xs) (hg:h.n<=g) (e:Ext hB h2) (u:UpdC (.pointer (some ⟨g,0,none⟩)) h1 h2):SS hB h v a b xs ys h2:=by
 obtain⟨q,q1,q2,qv,q3⟩:=s.own;obtain⟨q',_,q2',qv',_⟩:=o;rw[qv,s.pi.len]at qv';cases qv';refine⟨⟨q,q1,QK q2 u.1,qv,(u.2 q q2 fun e=>by cases e;omega).trans q3⟩,e,⟨QS s.upd.1 u.1,fun k hk hv=>(u.2 k (QK hk s.upd.1) fun e=>by cases e;omega).trans (s.upd.2 k hk hv)⟩,s.pi⟩
theorem OwnC.updV {hB hA h h1 h2:AHeap} {v:Value} {xs:List Int} {g:Nat} {cs:List Value} (w:OwnC hA h1 (.pointer (some ⟨g,0,none⟩)) cs) (o:OwnI hB h v xs) (hg:h.n<=g) (u:Upd v h1 h2):OwnC hA h2 (.pointer (some ⟨g,0,none⟩)) cs:=by
 obtain⟨q',_,q2',rfl,_⟩:=o;obtain⟨g',g1,g2,gv,g3⟩:=w;cases gv;exact⟨g,g1,QK g2 u.1,rfl,(u.2 g g2 fun a n c e=>by cases e;simp only;omega).trans g3⟩
theorem OwnC.offC {hA h h':AHeap} {p:Value} {cs:List Value} {g4:Nat} (o:OwnC hA h p cs) (u:UpdC (.pointer (some ⟨g4,0,none⟩)) h h') (hg:g4<hA.n):OwnC hA h' p cs:=by
 obtain⟨g,g1,g2,rfl,g3⟩:=o;exact⟨g,g1,QK g2 u.1,rfl,(u.2 g g2 fun e=>by cases e;omega).trans g3⟩
theorem OwnN.offC {hA h h':AHeap} {v:Value} {xs:List Int} {g4:Nat} (o:OwnN hA h v xs) (u:UpdC (.pointer (some ⟨g4,0,none⟩)) h h') (hg:g4<hA.n):OwnN hA h' v xs:=by
 rcases o with o|⟨g,g1,g2,rfl,g3⟩
 ·exact .inl o
 ·exact .inr ⟨g,g1,QK g2 u.1,rfl,(u.2 g g2 fun e=>by cases e;omega).trans g3⟩
theorem UpdC.setL {p:Value} {h h':AHeap} {L:Nat} {o:AObj} (u:UpdC p h h') (hL:h.n<=L):UpdC p h (h'.set L o):=⟨u.1,fun g hg hv=>by rw[zu,QD (by omega)];exact u.2 g hg hv⟩
theorem UpdC.extd {p:Value} {h h' h2:AHeap} (u:UpdC p h h') (e:Ext h' h2):UpdC p h h2:=⟨QS u.1 e.n,fun g hg hv=>(e.get g (QK hg u.1)).trans (u.2 g hg hv)⟩
theorem UpdC.upd {p w:Value} {h h' h2:AHeap} {xs:List Int} (u:UpdC p h h') (o:OwnN h h' w xs) (u2:Upd w h' h2):UpdC p h h2:=⟨QS u.1 u2.1,fun g hg hv=>by
 refine(u2.2 g (QK hg u.1) fun a n c e=> ?_).trans (u.2 g hg hv);rcases o with ⟨rfl,_⟩|⟨q,q1,_,rfl,_⟩
 ·cases e
 ·cases e;simp only;omega⟩
theorem UpdC.refl (p:Value) (h:AHeap):UpdC p h h:=⟨QE _,fun _ _ _=>rfl⟩
theorem OwnI.rebase {hA hB h:AHeap} {g n k:Nat} {xs:List Int} (o:OwnI hA h (.slice (some ⟨g,0,none⟩) n k) xs) (hg:hB.n<=g):OwnI hB h (.slice (some ⟨g,0,none⟩) n k) xs:=by
 obtain⟨q,q1,q2,qv,q3⟩:=o;cases qv;exact⟨g,hg,q2,rfl,q3⟩
theorem SS.len {hB h h1:AHeap} {v:Value} {a b:Int} {xs ys:List Int} (k:SS hB h v a b xs ys h1):ys.length=xs.length:=k.pi.len
section
variable {P:Program} {tab:Tab} {t:Trie Value} {ds:List Deferred} {rd:Option Nat}
theorem WU2.swap {N0 g d:Nat} {cl:Bool} {x y z w u:Operand} {v:Value} {xs:List Int} {i j:Nat} {h0 hS:AHeap} {K:AExit->AFr->AHeap->Prop} {va vb:Int} (o:OwnI h0 hS v xs) (e0:Ext h0 hS) (hm:hS.mark<=h0.n)
  (hx:ev t x=yE v i) (hy:ev t y=I va) (hi:i<xs.length) (hj:j<xs.length) (hz:ev t z=v) (hw:asN (ev t w)=some j) (hu:ev (t.set d (yE v j)) u=I vb)
  (k:∀ h1,Ext h0 h1->OwnI h0 h1 v ((xs.set i va).set j vb)->Upd v hS h1->K .normal ⟨t.set d (yE v j),ds,rd⟩ h1):
  WU2 P tab hS.mark N0 [(⟨none,none,.store 1 x y⟩,[]),(⟨some d,none,.idx 1 z w⟩,[]),(⟨none,none,.store 1 (.tmp d) u⟩,[])] g cl ⟨t,ds,rd⟩ (inC (zF 0 hS)) (zCB K hS):=by
 obtain⟨q,g1,g2,rfl,g3⟩:=o;rw[WU2,QD (show ¬Nat.beq (zE (AOp.store 1 x y)) 3=true from Bool.noConfusion)];have hst1:za (inC (inC (zF 0 hS))) ⟨q,i,none⟩ [I va]=some ((inC (inC (zF 0 hS))).set q (.row (zb (xs.map I) i [I va]) true 0)):=by
  have h1:Nat.ble (i+1) (xs.map I).length=true:=QH (by simp;omega);have h0:Nat.ble 0 i=true:=QH (QV _);have g3':(inC (inC (zF 0 hS))).get q=some (.row (xs.map I) true 0):=g3;simp only[za,g3',QZ,h1,h0,Qz];rfl
 rw[Y8 _ _ _ hi]at hst1;have hc:∀ a,(I a).cells=#[I a]:=fun _=>rfl;refine WO.op0 undef ((inC (inC (zF 0 hS))).set q (.row ((xs.set i va).map I) true 0)) rfl (by
  simp only[aop,hx,yE,hy,Q5,hc,hst1,QJ];rfl) ?_
 refine WO.nil ⟨⟨fun k hk=> ?_,QE _,.inl rfl⟩,?_⟩
 ·have hk2:k∈(inC (inC (zF 0 hS))).log q:=hk;rcases ZV hk2 with rfl|hk3
  ·omega
  ·cases hk3
 generalize hh1:(inC (inC (zF 0 hS))).set q (.row ((xs.set i va).map I) true 0)=h1;have n1:h1.n=hS.n:=by rw[<-hh1];rfl
 have get1:∀ k,h1.get k=if k=q then some (.row ((xs.set i va).map I) true 0) else hS.get k:=fun k=>by
  rw[<-hh1,zu];rfl
 rw[WU2,QD (show ¬Nat.beq (zE (AOp.idx 1 z w)) 3=true from Bool.noConfusion)];have hb:Nat.ble (j+1) xs.length=true:=QH hj;refine WO.op (yE (.slice (some ⟨q,0,none⟩) xs.length 1) j) (inC h1) rfl (by
  have hz':ev t z= .slice (some ⟨q,0,none⟩) xs.length 1:=hz;simp[aop,hz',hw,hb,yE]) ?_
 refine WO.nil ⟨⟨fun k hk=>(by cases hk),QE _,.inl rfl⟩,?_⟩;rw[WU2,QD (show ¬Nat.beq (zE (AOp.store 1 (.tmp d) u)) 3=true from Bool.noConfusion)];have hst2:za (inC (inC h1)) ⟨q,j,none⟩ [I vb]=some ((inC (inC h1)).set q (.row (zb ((xs.set i va).map I) j [I vb]) true 0)):=by
  have h1':Nat.ble (j+1) ((xs.set i va).map I).length=true:=QH (by simp;omega);have h0:Nat.ble 0 j=true:=QH (QV _);have g3':(inC (inC h1)).get q=some (.row ((xs.set i va).map I) true 0):=by
   have:=get1 q;rw[QI rfl]at this;exact this
  simp only[za,g3',QZ,h1',h0,Qz];rfl
 rw[Y8 _ _ _ (by simp;omega)]at hst2;refine WO.op0 undef ((inC (inC h1)).set q (.row (((xs.set i va).set j vb).map I) true 0)) rfl (by
  have e1:ev (t.set d (yE (.slice (some ⟨q,0,none⟩) xs.length 1) j)) (.tmp d)=yE (.slice (some ⟨q,0,none⟩) xs.length 1) j:=by simp only[ev,zh,Q2]
  have hp:yE (.slice (some ⟨q,0,none⟩) xs.length 1) j= .pointer (some ⟨q,j,none⟩):=by simp[yE]
  rw[hp]at e1 hu;rw[hp];simp only[aop,e1,hu,hc,hst2,QJ];rfl) ?_
 refine WO.nil ⟨⟨fun k hk=> ?_,QE _,.inl rfl⟩,?_⟩
 ·have hk2:k∈(inC (inC h1)).log q:=hk;rcases ZV hk2 with rfl|hk3
  ·omega
  ·cases hk3
 have get2:∀ k,(ZM hS ((inC (inC h1)).set q (.row (((xs.set i va).set j vb).map I) true 0))).get k=if k=q then some (.row (((xs.set i va).set j vb).map I) true 0) else hS.get k:=fun k=>by
  have e1:((inC (inC h1)).set q (.row (((xs.set i va).set j vb).map I) true 0)).get k=if k=q then some (.row (((xs.set i va).set j vb).map I) true 0) else (inC (inC h1)).get k:=zu ..;have e2:(inC (inC h1)).get k=h1.get k:=rfl;have e3:(ZM hS ((inC (inC h1)).set q (.row (((xs.set i va).set j vb).map I) true 0))).get k=((inC (inC h1)).set q (.row (((xs.set i va).set j vb).map I) true 0)).get k:=rfl;rw[e3,e1,e2,get1];by_cases e:k=q<;>simp[e]
 have nn:(ZM hS ((inC (inC h1)).set q (.row (((xs.set i va).set j vb).map I) true 0))).n=hS.n:=n1;refine k (ZM hS ((inC (inC h1)).set q (.row (((xs.set i va).set j vb).map I) true 0))) ?_ ?_ ?_
 ·refine⟨by rw[nn];exact e0.n,fun c hc=>by rw[get2,QD (by omega)];exact e0.get c hc,fun w c hc=> ?_,e0.mark,fun hmk=>e0.wr hmk⟩;rw[nn]at hc;rw[get2,QD (by omega)];exact e0.wf w c hc
 ·exact⟨q,g1,by rw[nn];exact g2,by simp,by rw[get2,QI rfl]⟩
 ·exact⟨by rw[nn];exact QE _,fun c _ hc=>by rw[get2,QD (fun e=>hc _ _ _ rfl e.symm)]⟩
theorem AsN.ope {y:Operand} {n:Int} (h:Ope t y (I n)) (hn:0<=n):asN (ev t y)=some n.toNat:=by
 unfold Ope at h;rw[h];obtain⟨k,rfl⟩:∃ k:Nat,n=k:=⟨n.toNat,by omega⟩;rfl
theorem WU2.swA {N0 g d:Nat} {cl:Bool} {x y z w u:Operand} {v:Value} {xs:List Int} {h0 hS:AHeap} {K:AExit->AFr->AHeap->Prop} (i j:Int) (o:OwnI h0 hS v xs) (e0:Ext h0 hS) (hm:hS.mark<=h0.n)
  (k:∀ h1,Ext h0 h1->OwnI h0 h1 v (swp xs i j)->Upd v hS h1->K .normal ⟨t.set d (yE v j.toNat),ds,rd⟩ h1)
  (hi:0<=i/\i<xs.length:=by omega) (hj:0<=j/\j<xs.length:=by omega)
  (hx:Ope t x (yE v i.toNat):=by exact zz) (hy:Ope t y (I (atI xs j)):=by exact zz) (hz:Ope t z v:=by exact zz) (hw:Ope t w (I j):=by exact zz) (hu:Ope (t.set d (yE v j.toNat)) u (I (atI xs i)):=by exact zz):
  WU2 P tab hS.mark N0 [(⟨none,none,.store 1 x y⟩,[]),(⟨some d,none,.idx 1 z w⟩,[]),(⟨none,none,.store 1 (.tmp d) u⟩,[])] g cl ⟨t,ds,rd⟩ (inC (zF 0 hS)) (zCB K hS):=
 WU2.swap o e0 hm hx hy (by omega) (by omega) hz (AsN.ope hw hj.1) hu k
theorem WX.cutA {c:ACode} {h:AHeap} {K:AExit->AFr->AHeap->Prop} (ws:List Nat) (hw:z0 c=ws) (M:Trie Value->AHeap->Prop) (h1:WX P tab c ⟨t,ds,rd⟩ h (zMI M ds rd K)) (h2:∀ t' h',zE1 ws t t'->M t' h'->K .normal ⟨t',ds,rd⟩ h'):WX P tab c ⟨t,ds,rd⟩ h K:=
 (WX.frame h1).mono fun e fr h ⟨hf,hx⟩=>by
  unfold zMI at hx;cases e with
  |normal=>
   obtain⟨t',ds',rd'⟩:=fr;obtain⟨e1,e2,e3⟩:=hx;simp only at e1 e2 e3;subst e1 e2;exact h2 _ _ (fun j hj=>hf j (by rw[hw];intro hc;have:=ZS hj;simp[hc]at this)) e3
  |exit i=>exact hx
  |goto i=>exact hx
  |ret=>exact hx
theorem WO.bin {d:Nat} {op:BinOp} {x y:Operand} {vx vy v:Value} {h:AHeap} {l:List AOper} {Q:AFr->AHeap->Prop} (hx:Ope t x vx) (hy:Ope t y vy) (e:z9 op vx vy=some v) (k:WO P tab l ⟨t.set d v,ds,rd⟩ h Q):WO P tab (⟨some d,none,.bin op x y⟩::l) ⟨t,ds,rd⟩ h Q:=
 WO.o (by
  have hx:ev t x=vx:=hx;have hy:ev t y=vy:=hy;simp only[aop,hx,hy,e,QJ]) k
theorem WO.eStr {d:Nat} {x i:Operand} {s:ByteArray} {m:Int} {kk:IntKind} {n:Nat} {b:UInt8} {h:AHeap} {l:List AOper} {Q:AFr->AHeap->Prop} (hb:s[n]?=some b) (hn:asN (.int kk m)=some n) (k:WO P tab l ⟨t.set d (.int .u8 b.toNat),ds,rd⟩ h Q) (hx:Ope t x (.string s):=by exact Ope.const) (hi:Ope t i (.int kk m):=by exact zz):WO P tab (⟨some d,none,.elemStr x i⟩::l) ⟨t,ds,rd⟩ h Q:=
 WO.o (by
  have hx:ev t x= .string s:=hx;have hi:ev t i= .int kk m:=hi;simp only[aop,hx,hi,hn,hb]) k
theorem WO.quo {d:Nat} {x:Operand} {a c:Int} {h:AHeap} {l:List AOper} {Q:AFr->AHeap->Prop} (hc:c≠0) (h1: -9223372036854775808<=a.tdiv c) (h2:a.tdiv c<=9223372036854775807) (k:WO P tab l ⟨t.set d (I (a.tdiv c)),ds,rd⟩ h Q) (hx:Ope t x (I a):=by exact zz):WO P tab (⟨some d,none,.bin .quo x (.const (I c))⟩::l) ⟨t,ds,rd⟩ h Q:=
 WO.bin hx (vy:=I c) rfl (by simp only[z9,Q2,QD hc,zEH h1 h2]) k
theorem YT {n:Int} (h1:0<=n) (h2:n<18446744073709551616):IntKind.wrap .u64 n=n:=by
 simp[IntKind.wrap,IntKind.signed,IntKind.bits];omega
theorem zSf {n:Int} (h1:0<=n) (h2:n<256):IntKind.wrap .u8 n=n:=by
 simp[IntKind.wrap,IntKind.signed,IntKind.bits];omega
theorem zT5 {n:Int} {kk:IntKind} (h:0<=n):z9 .shr (.int .u64 n) (.int kk 16)=some (.int .u64 (n / 65536)):=by
 have e:(min (16:Int).toNat IntKind.u64.bits)=16:=rfl;simp only[z9,e];rw[QD (by decide),Int.fdiv_eq_ediv_of_nonneg _ (by decide)];rfl
theorem zT9 {n:Int} {kk:IntKind} (h:0<=n):z9 .shr (.int .u64 n) (.int kk 8)=some (.int .u64 (n / 256)):=by
 have e:(min (8:Int).toNat IntKind.u64.bits)=8:=rfl;simp only[z9,e];rw[QD (by decide),Int.fdiv_eq_ediv_of_nonneg _ (by decide)];rfl
theorem zQH (y:Int) {m:Int} (h:0<=m/\m<=9223372036854775807):∃ r:Int,z9 .and (.int .u64 y) (.int .u64 m)=some (.int .u64 r)/\0<=r/\r<=m:=by
 have hb:(BitVec.ofInt 64 m).toNat=m.toNat:=by
  rw[BitVec.toNat_ofInt];omega
 have hle:(BitVec.ofInt 64 y&&& BitVec.ofInt 64 m).toNat<=m.toNat:=by
  rw[BitVec.toNat_and,hb];exact Nat.and_le_right
 refine⟨((BitVec.ofInt 64 y&&& BitVec.ofInt 64 m).toNat:Int),?_,by omega,by omega⟩;simp only[z9,Q2,IntKind.bits];rw[YT (by omega) (by omega)];rfl
theorem WU2.stN {N0 g n:Nat} {cl:Bool} {x y:Operand} {p v:Value} {cells:List Value} {h0 hS:AHeap} {K:AExit->AFr->AHeap->Prop} (cs:List Value) (o:OwnC h0 hS p cells) (e0:Ext h0 hS) (hm:hS.mark<=h0.n)
  (k:∀ h1,Ext h0 h1->OwnC h0 h1 p cs->UpdC p hS h1->K .normal ⟨t,ds,rd⟩ h1) (hx:Ope t x p:=by exact zz) (hy:Ope t y v:=by exact zz) (hv:v.cells=cs.toArray:=by rfl) (h1:zJ cs=true:=by rfl) (hn:cs.length=n:=by rfl) (hl:cells.length=n:=by rfl):
  WU2 P tab hS.mark N0 [(⟨none,none,.store n x y⟩,[])] g cl ⟨t,ds,rd⟩ (inC (zF 0 hS)) (zCB K hS):=by
 obtain⟨q,g1,g2,rfl,g3⟩:=o;subst hn;have hx:ev t x= .pointer (some ⟨q,0,none⟩):=hx;have hy:ev t y=v:=hy;rw[WU2,QD (show ¬Nat.beq (zE (AOp.store cs.length x y)) 3=true from Bool.noConfusion)];have hst:za (inC (inC (zF 0 hS))) ⟨q,0,none⟩ cs=some ((inC (inC (zF 0 hS))).set q (.row cs true 0)):=by
  have h2:Nat.ble (0+cs.length) cells.length=true:=QH (by omega);have h3:Nat.ble 0 0=true:=rfl;have h4:zb cells 0 cs=cs:=by simp[zb,hl]
  have g3':(inC (inC (zF 0 hS))).get q=some (.row cells true 0):=g3;simp only[za,g3',h2,h3,h1,h4,Qw,Qz,cond_true]
 refine WO.op0 undef ((inC (inC (zF 0 hS))).set q (.row cs true 0)) rfl (by
  simp only[aop,hx,hy,hv,G6,Gh,hst,QJ,cond_true]) ?_
 refine WO.nil ⟨⟨fun k hk=> ?_,QE _,.inl rfl⟩,?_⟩
 ·have hk2:k∈(inC (inC (zF 0 hS))).log q:=hk;rcases ZV hk2 with rfl|hk3
  ·omega
  ·cases hk3
 have get2:∀ k,(ZM hS ((inC (inC (zF 0 hS))).set q (.row cs true 0))).get k=if k=q then some (.row cs true 0) else hS.get k:=fun k=>by
  have e1:((inC (inC (zF 0 hS))).set q (.row cs true 0)).get k=if k=q then some (.row cs true 0) else (inC (inC (zF 0 hS))).get k:=zu ..;exact e1
 refine k (ZM hS ((inC (inC (zF 0 hS))).set q (.row cs true 0))) ?_ ?_ ?_
 ·refine⟨e0.n,fun c hc=>by rw[get2,QD (by omega)];exact e0.get c hc,fun w c hc=> ?_,e0.mark,fun hmk=>e0.wr hmk⟩;have hc:hS.n<=c:=hc;rw[get2,QD (by omega)];exact e0.wf w c hc
 ·exact⟨q,g1,g2,rfl,by rw[get2,QI rfl]⟩
 ·exact⟨QE _,fun c _ hc=>by rw[get2,QD (fun e=>hc (by rw[e]))]⟩
theorem zDM {C D:Prop} [Decidable C] [Decidable D] (h:C):decide (C/\D)=decide D:=by simp[h]
theorem zBl {C D:Prop} [Decidable C] [Decidable D] (h:C):decide (C/\¬D)= !decide D:=by simp[h]
end
end Go.Am
