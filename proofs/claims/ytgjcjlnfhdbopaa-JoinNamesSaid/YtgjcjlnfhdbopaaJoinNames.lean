import Derived.Test.YtgjcjlnfhdbopaaAmC
import Derived.Test.YtgjcjlnfhdbopaaRows
import Derived.WalkKit
import Derived.ProofKit
import Derived.OpenShut
import Derived.ShutString
import Derived.HandedShaped
/- JoinNames: whatever memory it is called in, the function returns true, and leaves all that was there as it was. It has no arguments: shown by the kernel's evaluation of an abstract machine, which is proved sound against the model (the texts beside this one). -/
namespace Go.Proofs.Ytgjcjlnfhdbopaa.joinNames
open Go.ChangeShapes Go.WideShapes Go.ChangeAt Go.RowKit Go.Am
open Go.ChangeMaps (open_string shut_string)
set_option linter.unusedVariables false

theorem own : ownKnob Try.prog.godebug = none := by kernel_rfl

set_option maxRecDepth 1000000 in
theorem ev1 : ((aex Try.prog (cFunc Try.prog) 300).call 7 [] (heap0 Try.prog.globals.size)).map (·.1) = some (.bool true) := by kernel_rfl

theorem bigger : Nat.ble (Try.prog.globals.size + 1) (begin Try.prog (fun _ _ => 0) default).world.heap.size = true := by kernel_rfl

theorem room {w : World} (h : w.ShapedOpen Try.prog) : Try.prog.globals.size ≤ w.heap.size := by
  obtain ⟨o, _, h1, _⟩ := h.2 Try.prog.globals.size (Nat.le_refl _) (Nat.le_of_ble_eq_true bigger)
  exact Nat.le_of_lt (Array.getElem?_eq_some_iff.1 h1).1

theorem walk (w : World) (hg : Try.prog.globals.size ≤ w.heap.size) :
    Calls Try.prog 7 #[] w fun e w' => e = .returned (.bool true) ∧ Below w.heap.size w w' :=
  walk_true Try.checked.mixed (fun _ _ h => h) ev1 (hrel0 hg) (LRel.nil _)

set_option maxRecDepth 100000 in
theorem lifted (os : Os) (started : os.Started) (H : Type) (enc : TypeId × Value → H) :
    ReturnsInHanded {} Try.checked os 7 .any (Rows.joinNamesSpec.pre6 enc Try.prog Try.f7 Rows.joinNamesRow.domain false) (Rows.joinNamesSpec.post enc Try.prog Try.f7 false true false false) := by
  refine returnsInHanded_of_change_shaped (C := Try.checked) own started (by kernel_rfl) Try.func7
    (ChangeSpec.witness6 (enc := enc) (C := Try.checked) false ⟨#[], #[], []⟩ 8 (by kernel_rfl) (by kernel_rfl) (by kernel_rfl) (by kernel_rfl)) ?_
  intro W base args ds gs before hval0 hW hcnd _ hsh _
  have hW' := hW
  obtain ⟨p, q, hA0, hV, rfl, hfz, hnd⟩ := hW
  have hA : DataW.TrodAll enc Try.prog W 0 (fun _ => true) true Try.f7.params.toList args.toList ds p := hA0
  rw [Try.params7] at hA
  obtain ⟨rfl, rfl, rfl⟩ := trodAll_none hA
  obtain ⟨rfl, rfl⟩ := trodVars_none hV
  clear hA0 hval0
  refine (walk W (room hsh)).mono fun e W' ⟨he, bel⟩ => ?_
  subst he
  exact ⟨_, rfl, _, _, _, [], _, [], hW', trodAll_mk1 (shut_bool Try.underlying4 _), rfl, rfl, bel.frame _, fun h => by cases h⟩

theorem over : Rows.joinNamesRow.holds Try.pinned (OpenSpec.ofChange Rows.joinNamesSpec) :=
  OpenClaim.holds_of_wide 7 Try.f7 rfl rfl rfl rfl rfl rfl rfl ⟨rfl, rfl, rfl, rfl, rfl⟩ rfl rfl rfl rfl rfl (by kernel_rfl) Try.func7 (by kernel_rfl)
    (of_decide_eq_true (by kernel_rfl)) (by unfold Func.isWrapper; first | (rw [if_pos (by decide +kernel)]; kernel_rfl) | (rw [if_neg (by decide +kernel)]; exact ⟨rfl, rfl⟩))
    (fun os started H enc _ => lifted os started H enc)

/-- ████ THE STATEMENT ████ -/
theorem proved : Rows.JoinNamesSaid :=
  over
#print axioms proved
end Go.Proofs.Ytgjcjlnfhdbopaa.joinNames
