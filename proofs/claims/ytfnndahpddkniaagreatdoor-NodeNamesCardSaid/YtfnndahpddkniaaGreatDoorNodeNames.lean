/- NodeNames: whatever memory it is called in, where the program's own tables stand as its text lays them, the function returns true, and leaves all that was there as it was. It has no arguments: shown by the kernel's evaluation of an abstract machine, which is proved sound against the model (the texts beside this one). -/
import Derived.Test.YtfnndahpddkniaaGreatDoorNodeNamesA
import Derived.Test.YtfnndahpddkniaaGreatDoorCards
import Derived.Test.YtfnndahpddkniaaGreatDoorTie
import Derived.WalkKit
import Derived.ProofKit
import Derived.LaidMore
import Derived.OpenShut
import Derived.Stop.Joined
import Derived.SevenTiedAt
namespace Go.Proofs.YtfnndahpddkniaaGreatDoor.nodeNames
open Go.ChangeShapes Go.WideShapes Go.ChangeAt Go.WideMaps Go.WideElems Go.RowKit Go.Am
set_option linter.unusedVariables false
set_option linter.unusedSimpArgs false

theorem own : ownKnob Tryz.prog.godebug = none := by kernel_rfl
theorem bigger : Nat.ble (Tryz.prog.globals.size + 1) (begin Tryz.prog (fun _ _ => 0) default).world.heap.size = true := by kernel_rfl
theorem room {w : World} (h : w.ShapedOpen Tryz.prog) : Tryz.prog.globals.size ≤ w.heap.size := by
  obtain ⟨o, _, h1, _⟩ := h.2 Tryz.prog.globals.size (Nat.le_refl _) (Nat.le_of_ble_eq_true bigger)
  exact Nat.le_of_lt (Array.getElem?_eq_some_iff.1 h1).1
set_option maxRecDepth 1000000 in
theorem ev0 : (aexK Tryz.prog tab17 700).call 6 [] (heapL Tryz.prog.globals.size laidL) (fun v _ => some v) = some (.bool true) := by kernel_rfl
theorem ev1 : ((aex Tryz.prog tab17 700).call 6 [] (heapL Tryz.prog.globals.size laidL)).map (·.1) = some (.bool true) := run_fast ev0

/-- The door's own heap meets the condition: closed facts. -/
theorem door_met (os : Os) (args : Array Value) : laidMetH Tryz.prog laids ((World.doorLaid Tryz.prog 4000 os).forCall (fun _ _ => 0) ⟨#[], args, []⟩).memory :=
  laidMetH_of_parts3 (fuel := 8) (laidMet_of_run' 8 (by kernel_rfl) (by kernel_rfl)) (by kernel_rfl) (by kernel_rfl)
theorem of_laid {W : World} (h : laidMetH Tryz.prog laids W) : ∀ x ∈ laidL, ∃ elem fr, W.heap[x.1]? = some (.cells x.2.toArray elem fr) := by
  rw [MakeChecks.laidMetH_plain _ _ _ (by kernel_rfl)] at h
  obtain ⟨ps, ⟨G0, T0, cs0, f0, p0, q0, hg0, ht0, hv0, hd0, _, _⟩, _, _⟩ := h
  obtain rfl := Option.some.inj ((show Tryz.prog.globalNamed "fescue/shape.table" = some 0 by kernel_rfl).symm.trans hg0)
  obtain ⟨E0, hE0⟩ : ∃ E, (Tryz.prog.globals[0]?).map (·.type) = some E ∧ dataT Tryz.prog 16 E = true := ⟨((Tryz.prog.globals[0]?).map (·.type)).getD 0, by kernel_rfl, by kernel_rfl⟩
  obtain rfl := Option.some.inj (hE0.1.symm.trans ht0)
  have b0 := laid_block hg0 hv0 hd0 hE0.2
  intro x hx
  simp only [laidL, List.mem_cons, List.mem_nil_iff, or_false] at hx
  subst hx
  exact b0

set_option maxRecDepth 100000 in
theorem lifted (os : Os) (started : os.Started) (H : Type) (enc : TypeId × Value → H) :
    ReturnsInHanded {} Tryz.checked os 6 .any (fun w args => (Rows.nodeNamesSpec.pre enc Tryz.prog Tryz.f6 [] false w args ∧ laidMetH Tryz.prog laids w) ∧ sizedMet enc Tryz.prog Tryz.f6 (OpenSpec.ofChange Rows.nodeNamesSpec) false w args)
      (Rows.nodeNamesSpec.post enc Tryz.prog Tryz.f6 false true false false) := by
  refine handed_and_shaped (C := Tryz.checked) (X := fun w _ => laidMetH Tryz.prog laids w) (fun _ _ _ hh h => h.of_heap hh) own started (by kernel_rfl) Tryz.func6
    (ChangeSpec.witness_shaped (enc := enc) (C := Tryz.checked) (os := os) (X := fun w _ => laidMetH Tryz.prog laids w) false (World.doorLaid Tryz.prog 4000 os) #[] 8 rfl (World.shaped_of_RefB (by kernel_rfl) (by kernel_rfl)) (by kernel_rfl) (by kernel_rfl) (by kernel_rfl) (door_met os _)) ?_
  intro W base args ds gs before hval0 hW hL hsh
  have hW' := hW
  obtain ⟨p, q, hA0, hV, rfl, hfz, hnd⟩ := hW
  have hA : DataW.TrodAll enc Tryz.prog W 0 (fun _ => true) true Tryz.f6.params.toList args.toList ds p := hA0
  rw [Tryz.params6] at hA
  obtain ⟨rfl, rfl, rfl⟩ := trodAll_none hA
  obtain ⟨rfl, rfl⟩ := trodVars_none hV
  have c := cameL (P := Tryz.prog) (room hsh) laidL fun x hx => by
    have h1 := List.all_eq_true.1 closedAll x hx
    rw [Bool.and_eq_true] at h1
    exact ⟨Nat.le_of_ble_eq_true h1.1, h1.2, of_laid hL x hx⟩
  clear hA0 hval0
  refine (walk_true Tryz.checked.mixed ok17 ev1 c.rel (LRel.nil _)).mono fun e W' ⟨he, bel⟩ => ?_
  subst he
  exact ⟨_, rfl, _, _, _, [], _, [], hW', trodAll_mk1 (shut_bool Tryz.underlying4 _), rfl, rfl, bel.frame _, fun h => by cases h⟩

theorem row_holds : Rows.NodeNamesSaid :=
  OpenClaim.holds_of_wide 6 Tryz.f6 rfl rfl rfl rfl rfl rfl rfl ⟨rfl, rfl, rfl, rfl, rfl⟩ rfl rfl rfl rfl rfl (by kernel_rfl) Tryz.func6 (by kernel_rfl)
    (of_decide_eq_true (by kernel_rfl)) (by unfold Func.isWrapper; first | (rw [if_pos (by decide +kernel)]; kernel_rfl) | (rw [if_neg (by decide +kernel)]; exact ⟨rfl, rfl⟩))
    (fun os started H enc _ => lifted os started H enc)

/-- ████ THE STATEMENT ████ -/
theorem proved : Rows.NodeNamesCardSaid :=
  Claim7.holds_tied_plain_at .later [] [.data] true (true, "aa8cc59f4dd9731bcf0b13e0edb9834b3ed6a84869d6777b79fcf284f9a0c67e") true
    row_holds (fun _ h => by cases h) (by kernel_rfl) (fun _ h => by cases h) nodeNames_row_tie rfl ⟨rfl, rfl⟩ (by kernel_rfl) rfl
    (fun f fn hf hfn => by
      obtain rfl : f = 6 := Option.some.inj ((show Tryz.prog.funcNamed "fescue/fescuelaw18.NodeNames" = some 6 by kernel_rfl).symm.trans hf) |>.symm
      obtain rfl : fn = Tryz.f6 := (Option.some.inj (Tryz.func6.symm.trans hfn)).symm
      exact ⟨by kernel_rfl, fun j t ht => by
        rw [Tryz.params6] at ht
        simp at ht⟩)
    (by kernel_rfl)
#print axioms proved
end Go.Proofs.YtfnndahpddkniaaGreatDoor.nodeNames
