/-
  The abstract machine: runs. What it does, the model's machine does (1): frames, single operations, calls.
-/
import Derived.Test.YtdhpgfhidldmgaaAmOps6
import Derived.Defers
namespace Go.Am
open Go.RowKit

/-- A frame that runs: what is left to do. -/
def At (b : Frame) (a : Act) (todo : List Item) : Frame := { fn := b.fn, tmps := a.tmps, todo, defers := a.defers, mode := .run, kind := b.kind, roundOf := b.roundOf }

def DRel (P : Program) (σ : Nat → Option Pl) (d d' : Deferred) : Prop :=
  match d.target with
  | .fn (.func f) cap => ∃ cap', d'.target = .fn (.func f) cap' ∧ LRel σ cap.toList cap'.toList ∧ LRel σ d.args.toList d'.args.toList
  | .builtin .clear ts ty cs => ∃ t kt e, ts = #[t] ∧ P.underlying t = some (.map kt e) ∧ d'.target = .builtin .clear #[t] ty cs ∧ LRel σ d.args.toList d'.args.toList
  | .collected g => ∃ pl, σ g = some pl ∧ d'.target = .collected pl.b
  | _ => False

def DRels (P : Program) (σ : Nat → Option Pl) : List Deferred → List Deferred → Prop
  | [], [] => True
  | d :: l, d' :: l' => DRel P σ d d' ∧ DRels P σ l l'
  | _, _ => False

def RRel (σ : Nat → Option Pl) (r r' : Option Nat) : Prop :=
  match r with
  | none => r' = none
  | some l => ∃ pl, σ l = some pl ∧ r' = some pl.b

structure FRel (P : Program) (σ : Nat → Option Pl) (nt : Nat) (fr : AFr) (a : Act) (b : Frame) : Prop where
  size : nt ≤ a.tmps.size
  tm : ∀ k, VRel σ (tmGet fr.tm k) (a.tmps.getD k Go.undef)
  dfs : DRels P σ fr.dfs a.defers
  round : RRel σ fr.round b.roundOf

def Arr (P : Program) (m : Machine) (b : Frame) (k : List Item) (cs : List Frame) : AExit → Act → World → Prop
  | .normal, a, w => Steps P m (lone (At b a k) cs w)
  | .exit id, a, w => ∃ k1, exitTo id k1 = exitTo id k ∧ Steps P m (lone (At b a (.code (.exit id) :: k1)) cs w)
  | .goto l, a, w => ∃ k1, gotoIn l k1 = gotoIn l k ∧ Steps P m (lone (At b a (.code (.goto l) :: k1)) cs w)
  | .ret, a, w => ∃ k1, Steps P m (lone (At b a (.code .ret :: k1)) cs w)

def ExecSound (P : Program) (ex : Ex) : Prop := ∀ (nt : Nat) (c : Code) (ac : ACode), CodeRel P nt c ac → ∀ (fr : AFr) (h : AHeap) (e : AExit) (fr' : AFr) (h' : AHeap), ex.exec ac fr h = some (e, fr', h') →
  ∀ (B : Nat) (σ : Nat → Option Pl) (w : World), HRel P B σ h w → ∀ (a : Act) (b : Frame), FRel P σ nt fr a b →
    ∃ σ' w' a', Evo P B σ h w σ' h' w' ∧ FRel P σ' nt fr' a' b ∧ fr'.round = fr.round ∧ ∀ (k : List Item) (cs : List Frame), Arr P (lone (At b a (.code c :: k)) cs w) b k cs e a' w'

structure Returns (P : Program) (f : FuncId) (kind : CallKind) (fr : Frame) (cv : Value) (w : World) : Prop where
  mode : fr.mode = .returning
  defers : fr.defers = []
  kind : fr.kind = kind
  fn : fr.fn = f
  results : ∃ fn, P.funcs[f]? = some fn ∧ (results fn fr.tmps).run P w = .ok cv w

def CallSound (P : Program) (ex : Ex) : Prop := ∀ (f : FuncId) (args : List Value) (h : AHeap) (v : Value) (h' : AHeap), ex.call f args h = some (v, h') →
  (∀ (as : Array Value) (w : World), (callFunc f as).run P w = .ok (.enter f as) w) ∧
  ∀ (B : Nat) (σ : Nat → Option Pl) (w : World), HRel P B σ h w → ∀ (as : Array Value), LRel σ args as.toList → ∀ (kind : CallKind), kind = .normal ∨ kind = .deferred →
    ∃ σ' w' cv, Evo P B σ h w σ' h' w' ∧ VRel σ' v cv ∧ ∀ cs : List Frame, ∃ fr', Steps P (lone (Frame.enter P f as kind) cs w) (lone fr' cs w') ∧ Returns P f kind fr' cv w'

theorem DRel.mono {P : Program} {σ σ' : Nat → Option Pl} (hs : Le σ σ') {d d' : Deferred} (h : DRel P σ d d') : DRel P σ' d d' := by
  unfold DRel at *
  split at h
  · obtain ⟨cap', h1, h2, h3⟩ := h; exact ⟨cap', h1, h2.mono hs, h3.mono hs⟩
  · obtain ⟨t, kt, e, h1, h2, h3, h4⟩ := h; exact ⟨t, kt, e, h1, h2, h3, h4.mono hs⟩
  · obtain ⟨pl, h1, h2⟩ := h; exact ⟨pl, hs _ _ h1, h2⟩
  · exact h.elim
theorem DRels.mono {P : Program} {σ σ' : Nat → Option Pl} (hs : Le σ σ') : ∀ {l l' : List Deferred}, DRels P σ l l' → DRels P σ' l l'
  | [], [], _ => trivial
  | _ :: _, _ :: _, h => ⟨h.1.mono hs, h.2.mono hs⟩
theorem RRel.mono {σ σ' : Nat → Option Pl} (hs : Le σ σ') {r r' : Option Nat} (h : RRel σ r r') : RRel σ' r r' := by
  cases r with
  | none => exact h
  | some l => obtain ⟨pl, h1, h2⟩ := h; exact ⟨pl, hs _ _ h1, h2⟩
theorem FRel.mono {P : Program} {σ σ' : Nat → Option Pl} {nt : Nat} {fr : AFr} {a : Act} {b : Frame} (hs : Le σ σ') (h : FRel P σ nt fr a b) : FRel P σ' nt fr a b :=
  ⟨h.size, fun k => (h.tm k).mono hs, h.dfs.mono hs, h.round.mono hs⟩

theorem getD_set (tm : Array Value) (d k : Nat) (v : Value) (hd : d < tm.size) : (tm.setIfInBounds d v).getD k Go.undef = if k = d then v else tm.getD k Go.undef := by
  simp only [Array.getD_eq_getD_getElem?, Array.getElem?_setIfInBounds]
  by_cases hk : k = d
  · subst hk; simp [hd]
  · rw [if_neg (by omega), if_neg hk]

theorem FRel.val {P : Program} {σ : Nat → Option Pl} {nt : Nat} {fr : AFr} {a : Act} {b : Frame} (h : FRel P σ nt fr a b) {d : Option Nat} (hd : ∀ k, d = some k → k < nt) {v v' : Value} (hv : VRel σ v v') : FRel P σ nt (val d fr v) (a.put d v') b := by
  cases d with
  | none => exact h
  | some d =>
    have hlt : d < a.tmps.size := Nat.lt_of_lt_of_le (hd d rfl) h.size
    refine ⟨by simpa [Act.put] using h.size, fun k => ?_, h.dfs, h.round⟩
    simp only [Am.val, Act.put]
    rw [tmGet_set, getD_set _ _ _ _ hlt]
    split
    · exact hv
    · exact h.tm k

theorem at_eval (b : Frame) (a : Act) (todo : List Item) : (At b a todo).eval = a.eval := by
  funext x
  cases x <;> rfl

theorem at_finish (b : Frame) (a : Act) (ops : Array Oper) (i : Nat) (rest : List Nat) (k : List Item) (v : Value) :
    (At b a (.inRegion ops (i :: rest) :: k)).finish v = At b (a.put ((ops[i]?).bind (·.dst)) v) (.inRegion ops rest :: k) := by
  cases h : (ops[i]?).bind (·.dst) <;> simp [Frame.finish, At, Act.put, h]

section
variable {P : Program} {b : Frame} {a : Act} {k : List Item} {cs : List Frame} {w : World}

/-- What the machine does once an operation has been carried out. -/
theorem step_oper {ops : Array Oper} {i : Nat} {rest : List Nat} {o : Oper} (ho : ops[i]? = some o) (hw : Region.wanted o (yielded ops a.tmps) = true) (hd : ∀ c, o.op = .defer c → b.roundOf = none) :
    stepG P true { frame := At b a (.inRegion ops (i :: rest) :: k), callers := cs, status := .running, dying := none } w =
      stepG.apply P true (At b a (.inRegion ops (i :: rest) :: k)) cs none (execOp a.eval o) w := by
  have he := at_eval b a (.inRegion ops (i :: rest) :: k)
  simp only [At] at he
  simp only [stepG, stepG.exec, stepG.oper, Frame.oper?, At, ho, hw, he, Option.map_some, Option.getD_some, if_true]
  split
  · rename_i l c h1 h2
    rw [hd c h2] at h1
    cases h1
  · rfl

theorem step_skip' {ops : Array Oper} {i : Nat} {rest : List Nat} (h : ((ops[i]?).map (Region.wanted · (yielded ops a.tmps))).getD false = false) :
    step P (lone (At b a (.inRegion ops (i :: rest) :: k)) cs w) = .next (lone (At b (a.put ((ops[i]?).bind (·.dst)) Go.undef) (.inRegion ops rest :: k)) cs w) := by
  rw [← at_finish]
  exact step_lone_go (by
    have h' := h
    simp only [At] at *
    simp [stepG, stepG.exec, h'])

theorem step_value {ops : Array Oper} {i : Nat} {rest : List Nat} {o : Oper} {v : Value} {w' : World} (ho : ops[i]? = some o) (hw : Region.wanted o (yielded ops a.tmps) = true) (hd : ∀ c, o.op = .defer c → b.roundOf = none)
    (hr : (execOp a.eval o).run P w = .ok (.value v) w') : step P (lone (At b a (.inRegion ops (i :: rest) :: k)) cs w) = .next (lone (At b (a.put o.dst v) (.inRegion ops rest :: k)) cs w') := by
  have hfin := at_finish b a ops i rest k v
  rw [ho] at hfin
  simp only [Option.bind_some] at hfin
  refine step_lone_go ?_
  rw [step_oper ho hw hd, ← hfin]
  simp [stepG.apply, hr]

theorem step_unit {ops : Array Oper} {i : Nat} {rest : List Nat} {o : Oper} {w' : World} (ho : ops[i]? = some o) (hw : Region.wanted o (yielded ops a.tmps) = true) (hd : ∀ c, o.op = .defer c → b.roundOf = none)
    (hr : (execOp a.eval o).run P w = .ok .skip w') : step P (lone (At b a (.inRegion ops (i :: rest) :: k)) cs w) = .next (lone (At b (a.put o.dst Go.undef) (.inRegion ops rest :: k)) cs w') := by
  have hfin := at_finish b a ops i rest k Go.undef
  rw [ho] at hfin
  simp only [Option.bind_some] at hfin
  refine step_lone_go ?_
  rw [step_oper ho hw hd, ← hfin]
  simp [stepG.apply, hr]

theorem step_defer' {ops : Array Oper} {i : Nat} {rest : List Nat} {o : Oper} {d : Deferred} {w' : World} (ho : ops[i]? = some o) (hw : Region.wanted o (yielded ops a.tmps) = true) (hd : ∀ c, o.op = .defer c → b.roundOf = none)
    (hr : (execOp a.eval o).run P w = .ok (.defer d) w') : step P (lone (At b a (.inRegion ops (i :: rest) :: k)) cs w) = .next (lone (At b ({ a with defers := d :: a.defers }.put o.dst Go.undef) (.inRegion ops rest :: k)) cs w') := by
  have hfin := at_finish b { a with defers := d :: a.defers } ops i rest k Go.undef
  rw [ho] at hfin
  simp only [Option.bind_some] at hfin
  refine step_lone_go ?_
  rw [step_oper ho hw hd, ← hfin]
  simp only [stepG.apply, Sem.runT_eq, hr, GStep.bare_after]
  rfl

/-- The frame that a call enters. -/
def frameOf (P : Program) : Next → Option Frame
  | .enter f args => some (Frame.enter P f args .normal)
  | .round l f tmps assign body => some (Frame.round l f tmps assign body .normal)
  | _ => none

theorem step_call {ops : Array Oper} {i : Nat} {rest : List Nat} {o : Oper} {nx : Next} {fr0 : Frame} {w' : World} (ho : ops[i]? = some o) (hw : Region.wanted o (yielded ops a.tmps) = true) (hd : ∀ c, o.op = .defer c → b.roundOf = none)
    (hr : (execOp a.eval o).run P w = .ok nx w') (hf : frameOf P nx = some fr0) :
    step P (lone (At b a (.inRegion ops (i :: rest) :: k)) cs w) = .next (lone fr0 (At b a (.inRegion ops (i :: rest) :: k) :: cs) w') := by
  refine step_lone_go ?_
  rw [step_oper ho hw hd]
  cases nx <;> simp only [frameOf, Option.some.injEq] at hf <;> try (cases hf; done)
  all_goals
    subst hf
    simp [stepG.apply, hr, At]
end
end Go.Am
