/-
  The abstract machine: what it yields, the model's call yields.
-/
import Derived.Test.YtdhpgfhidldmgaaAmDraw12
namespace Go.Am
open Go.RowKit

section
variable {P : Program} {B : Nat} {σ : Nat → Option Pl} {h h' : AHeap} {w : World}

theorem calls_of (hmix : P.follows .mixedOrders = true) {tab : FuncId → Option AFunc} (htab : ∀ f a, tab f = some a → cFunc P f = some a) {n : Nat} {f : FuncId} {args : List Value} {as : Array Value} {v : Value}
    (hx : (aex P tab n).call f args h = some (v, h')) (hr : HRel P B σ h w) (hl : LRel σ args as.toList) :
    Calls P f as w fun e w' => ∃ σ' cv, e = .returned cv ∧ VRel σ' v cv ∧ Evo P B σ h w σ' h' w' := by
  intro cs
  obtain ⟨_, h2⟩ := (sound hmix htab n).2 f args h v h' hx
  obtain ⟨σ', w', cv, e1, e2, e3⟩ := h2 B σ w hr as hl .normal (.inl rfl)
  obtain ⟨fr', e4, e5⟩ := e3 cs
  exact ⟨.returned cv, w', fr', ⟨σ', cv, rfl, e2, e1⟩, e4, e5.fn, e5.mode, e5.defers, e5.kind, by
    obtain ⟨fn, q1, q2⟩ := e5.results
    exact ⟨fn, by rw [e5.fn]; exact q1, q2⟩⟩

/-- A call that yields true, and leaves all that is not its own as it was. -/
theorem walk_true (hmix : P.follows .mixedOrders = true) {tab : FuncId → Option AFunc} (htab : ∀ f a, tab f = some a → cFunc P f = some a) {n : Nat} {f : FuncId} {args : List Value} {as : Array Value}
    (hx : ((aex P tab n).call f args h).map (·.1) = some (.bool true)) (hr : HRel P B σ h w) (hl : LRel σ args as.toList) :
    Calls P f as w fun e w' => e = .returned (.bool true) ∧ Below B w w' := by
  cases hc : (aex P tab n).call f args h with
  | none => simp [hc] at hx
  | some p =>
    obtain ⟨v, h'⟩ := p
    simp only [hc, Option.map_some, Option.some.injEq] at hx
    subst hx
    exact Calls.mono (calls_of hmix htab hc hr hl) fun e w' ⟨σ', cv, e1, e2, e3⟩ => by
      cases e2
      exact ⟨e1, e3.below hr⟩
end
end Go.Am
