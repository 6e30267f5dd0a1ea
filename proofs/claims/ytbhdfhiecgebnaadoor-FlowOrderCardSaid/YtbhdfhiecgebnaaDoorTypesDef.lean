/- Tables of types as plain data, and what their check comes to: definitions. -/
import Derived.Test.YtbhdfhiecgebnaaDoorAmU
namespace Go.Proofs.YtbhdfhiecgebnaaDoor
open Go.Am
set_option linter.unusedVariables false
set_option linter.unusedSimpArgs false

/-- What the operations have: A, B, N, Args, From, an answer. -/
def hasT : List (Bool × Bool × Bool × Bool × Bool × Bool) :=
  let f := false; let t := true
  [(f,f,f,f,f,f), (f,f,t,f,f,t), (f,f,f,f,f,t), (f,f,t,f,f,t), (t,t,f,f,f,t), (t,t,f,f,f,t), (t,t,f,f,f,t), (t,t,f,f,f,t), (t,t,f,f,f,t), (t,t,f,f,f,t), (t,t,f,f,f,t), (f,f,f,f,f,t), (f,f,f,f,f,t), (t,f,f,f,f,f), (t,f,t,f,f,t), (t,t,f,f,f,t), (t,f,f,f,f,t), (t,t,f,f,f,f), (f,f,t,t,f,t), (t,f,f,t,f,t), (f,f,f,f,f,t), (t,f,f,f,f,f), (f,f,f,t,t,t)]
def hasOf (op : Int) : Bool × Bool × Bool × Bool × Bool × Bool := hasT.getD op.toNat (false, false, false, false, false, false)
def hasV (x : Bool × Bool × Bool × Bool × Bool × Bool) : List Value := [.bool x.1, .bool x.2.1, .bool x.2.2.1, .bool x.2.2.2.1, .bool x.2.2.2.2.1, .bool x.2.2.2.2.2]
def tblV : List Value := (hasT.map hasV).flatten

structure LType where
  kind : Int
  elem : Int
  many : Int
  parts : List Int
instance : Inhabited LType := ⟨⟨0, 0, 0, []⟩⟩
/-- Four cells that read as a type. -/
def RTy (h : AHeap) (cs : List Value) (x : LType) : Prop := ∃ va, cs = [.int .u8 x.kind, I x.elem, I x.many, va] ∧ SlI h va x.parts ∧ (x.parts.length : Int) ≤ 9223372036854775807
theorem RTy.ext {h h' cs x} (r : RTy h cs x) (e : Ext h h') : RTy h' cs x := let ⟨va, a, b, c⟩ := r; ⟨va, a, b.ext e, c⟩
abbrev SlT (h : AHeap) (v : Value) (T : List LType) : Prop := SlR 4 RTy h v T
theorem SlT.ext {h h' v T} (s : SlT h v T) (e : Ext h h') : SlT h' v T := SlR.ext (fun _ _ r => RTy.ext r e) s e
theorem ty_one {h : AHeap} {v : Value} {l : List Int} (s : SlI h v l) (k : IntKind) (a b n : Int) : oneCells [.int k n, I a, I b, v] = true := by
  obtain ⟨_, _, _, rfl⟩ := SlC.shape s; rfl

def scalarL (x : LType) : Bool := decide (1 ≤ x.kind) && decide (x.kind ≤ 3)
def thereL (m : Int) (l : List Int) : Bool := l.all fun n => decide (0 ≤ n) && decide (n < m)
def plainL (x : LType) : Bool :=
  (if x.kind = 1 ∨ x.kind = 4 then decide (x.elem = 0) else true) && (if x.kind = 1 ∨ x.kind = 2 ∨ x.kind = 3 ∨ x.kind = 4 then decide (x.many = 0) else true) &&
    (if x.kind = 1 ∨ x.kind = 2 ∨ x.kind = 5 then decide (x.parts.length = 0) else true)
def mayL (T : List LType) (x : LType) (k : Nat) (sizes : List Int) : Int × Bool :=
  if x.kind = 1 then (1, plainL x)
  else if x.kind = 2 then (1, plainL x && thereL T.length [x.elem])
  else if x.kind = 3 then (1, plainL x && decide (x.parts.length ≤ 4) && thereL T.length (x.elem :: x.parts) && (x.elem :: x.parts).all fun n => scalarL (T.getD n.toNat default))
  else if x.kind = 4 then (if plainL x && thereL k x.parts then ((x.parts.map fun n => sizes.getD n.toNat 0).sum, decide (0 < x.parts.length) && decide (x.parts.length ≤ 8) && decide ((x.parts.map fun n => sizes.getD n.toNat 0).sum ≤ 32)) else (0, false))
  else if x.kind = 5 then (if plainL x && thereL k [x.elem] && decide (1 ≤ x.many) && decide (x.many ≤ 16) then (x.many * sizes.getD x.elem.toNat 0, decide (x.many * sizes.getD x.elem.toNat 0 ≤ 32)) else (0, false))
  else (1, false)
theorem mayL3 {T : List LType} {x : LType} {k : Nat} {s : List Int} (h : x.kind = 3) : mayL T x k s = (1, plainL x && decide (x.parts.length ≤ 4) && thereL T.length (x.elem :: x.parts) && (x.elem :: x.parts).all fun n => scalarL (T.getD n.toNat default)) := by
  unfold mayL; rw [if_neg (by omega), if_neg (by omega), if_pos h]
theorem mayL4 {T : List LType} {x : LType} {k : Nat} {s : List Int} (h : x.kind = 4) : mayL T x k s = (if plainL x && thereL k x.parts then ((x.parts.map fun n => s.getD n.toNat 0).sum, decide (0 < x.parts.length) && decide (x.parts.length ≤ 8) && decide ((x.parts.map fun n => s.getD n.toNat 0).sum ≤ 32)) else (0, false)) := by
  unfold mayL; rw [if_neg (by omega), if_neg (by omega), if_neg (by omega), if_pos h]
theorem mayL5 {T : List LType} {x : LType} {k : Nat} {s : List Int} (h : x.kind = 5) : mayL T x k s = (if plainL x && thereL k [x.elem] && decide (1 ≤ x.many) && decide (x.many ≤ 16) then (x.many * s.getD x.elem.toNat 0, decide (x.many * s.getD x.elem.toNat 0 ≤ 32)) else (0, false)) := by
  unfold mayL; rw [if_neg (by omega), if_neg (by omega), if_neg (by omega), if_neg (by omega), if_pos h]
/-- The sizes of the first types, while all may be. -/
def sizesL (T : List LType) : Nat → Option (List Int)
  | 0 => some []
  | k + 1 => match sizesL T k with
    | none => none
    | some s => if (mayL T (T.getD k default) k s).2 then some (s ++ [(mayL T (T.getD k default) k s).1]) else none
def checkL (T : List LType) : Int := if 16 < T.length then 4 else match sizesL T T.length with
  | some _ => 0
  | none => 30
end Go.Proofs.YtbhdfhiecgebnaaDoor
