/-
  The abstract machine: each operation does what the model's does (4): slices of slices.
-/
import Derived.Test.YtdhpgfhidldmgaaAmOps3c
namespace Go.Am
open Go.RowKit

section
variable {P : Program} {B : Nat} {σ : Nat → Option Pl} {h : AHeap} {w : World}

theorem run_bound (k : IntKind) (n y : Nat) (code : BoundsCode) (hn : n ≤ y) : (Instr.sliceBound (.int k n) y code).run P w = .ok n w := by
  simp [Instr.sliceBound, asIntOf, hn]

/-- A bound as the model's operation has it. -/
def BV (o : Option Nat) (v : Option Value) : Prop := match o with
  | none => v = none
  | some n => ∃ k, v = some (.int k n)

theorem run_bounds {sl : Bool} {len cap l E m : Nat} {lo hi mx : Option Nat} {lo' hi' mx' : Option Value} (h1 : BV lo lo') (h2 : BV hi hi') (h3 : BV mx mx') (hl : lo.getD 0 = l) (hE : hi.getD len = E) (hm : mx.getD cap = m)
    (hmh : mx.isSome = true → hi.isSome = true) (b1 : l ≤ E) (b2 : E ≤ m) (b3 : m ≤ cap) (b4 : mx = none → E ≤ cap) : (Instr.sliceBounds sl len cap lo' hi' mx').run P w = .ok (l, E, m) w := by
  cases mx with
  | none =>
    cases h3
    simp at hm; subst hm
    cases hi with
    | none =>
      cases h2
      simp at hE; subst hE
      cases lo with
      | none => cases h1; simp at hl; subst hl; simp [Instr.sliceBounds]
      | some n => obtain ⟨k, rfl⟩ := h1; simp at hl; subst hl; simp [Instr.sliceBounds, run_bound, b1]
    | some e0 =>
      obtain ⟨k, rfl⟩ := h2
      simp at hE; subst hE
      cases lo with
      | none => cases h1; simp at hl; subst hl; simp [Instr.sliceBounds, run_bound, b2]
      | some n => obtain ⟨k, rfl⟩ := h1; simp at hl; subst hl; simp [Instr.sliceBounds, run_bound, b1, b2]
  | some m0 =>
    obtain ⟨k, rfl⟩ := h3
    simp at hm; subst hm
    cases hi with
    | none => simp at hmh
    | some e0 =>
      obtain ⟨k, rfl⟩ := h2
      simp at hE; subst hE
      cases lo with
      | none => cases h1; simp at hl; subst hl; simp [Instr.sliceBounds, run_bound, b2, b3]
      | some n => obtain ⟨k, rfl⟩ := h1; simp at hl; subst hl; simp [Instr.sliceBounds, run_bound, b1, b2, b3]

theorem run_sliceAt {t e : TypeId} {i : TypeInfo} (ht : P.underlying t = some (.slice e)) (hinf : P.info? e = some i) {a : Option Addr} {len cap l E m : Nat} {lo hi mx : Option Value} (hb : (Instr.sliceBounds true len cap lo hi mx).run P w = .ok (l, E, m) w) :
    (Instr.sliceAt t (.slice a len cap) lo hi mx).run P w = .ok (.slice (if m = l then a else a.map (·.add (l * i.size))) (E - l) (m - l)) w := by
  simp [Instr.sliceAt, Instr.slice, run_underlying ht, run_size hinf, hb]

theorem sliceA_rel {t e : TypeId} {c : Nat} {x x' v : Value} {lo hi mx : Option Nat} {lo' hi' mx' : Option Value} (ht : P.underlying t = some (.slice e)) (he : telem P e = some c) (hx : VRel σ x x')
    (h1 : BV lo lo') (h2 : BV hi hi') (h3 : BV mx mx') (hmh : mx.isSome = true → hi.isSome = true) (hs : sliceA c x lo hi mx = some v) :
    ∃ cv, (Instr.sliceAt t x' lo' hi' mx').run P w = .ok cv w ∧ VRel σ v cv := by
  obtain ⟨i, z, hinf, hsz, hc0, hb1, hb2, hzz, hzc⟩ := telem_info he
  subst hsz
  unfold sliceA at hs
  split at hs
  · split at hs
    · rename_i e1 e2 e3
      cases hs
      cases hx
      have hb := run_bounds (P := P) (w := w) (sl := true) (len := 0) (cap := 0) h1 h2 h3 e1 e2 e3 hmh (Nat.le_refl _) (Nat.le_refl _) (Nat.le_refl _) (fun _ => Nat.le_refl _)
      exact ⟨_, run_sliceAt ht hinf hb, by simp; exact .snil⟩
    · cases hs
  · rename_i a len k
    simp only at hs
    generalize hl : lo.getD 0 = l at hs
    generalize hE : hi.getD len = E at hs
    cases hb : (Nat.ble l E && Nat.ble E len && a.spot.isNone) with
    | false => simp [hb] at hs
    | true =>
      simp only [hb, cond_true] at hs
      simp only [Bool.and_eq_true] at hb
      obtain ⟨⟨b1, b2⟩, b3⟩ := hb
      have b1 := Nat.le_of_ble_eq_true b1
      have b2 := Nat.le_of_ble_eq_true b2
      cases mx with
      | none =>
        simp only at hs
        cases hk : Nat.beq k i.size with
        | true =>
          simp only [hk, cond_true, Option.some.injEq] at hs
          subst hs
          have hk := Nat.eq_of_beq_eq_true hk
          subst hk
          rcases hx.slice_inv with ⟨pl, cap, hp, _, hlc, hn, rfl⟩ | ⟨y, rfl, rfl⟩
          · have hb := run_bounds (P := P) (w := w) (sl := true) (len := len) (cap := cap) h1 h2 h3 hl hE rfl hmh b1 (by simp; omega) (by simp) (fun _ => by omega)
            refine ⟨_, run_sliceAt ht hinf hb, ?_⟩
            simp only [Option.getD_none]
            by_cases hz : cap = l
            · rw [if_pos hz]
              have e1 : E - l = 0 := by omega
              have e2 : cap - l = 0 := by omega
              rw [e1, e2]
              exact .szero _ _ _
            · rw [if_neg hz]
              simp only [Option.map_some, add_mid]
              have e1 : pl.base + a.off + l * i.size = pl.base + (a.off + l * i.size) := by omega
              rw [e1]
              refine .slice hp hc0 (by omega) ?_
              have h3 : (cap - l) * i.size + l * i.size = cap * i.size := by rw [← Nat.add_mul]; congr 1; omega
              omega
          · have e1 : E = 0 := by omega
            have e2 : l = 0 := by omega
            have hb := run_bounds (P := P) (w := w) (sl := true) (len := 0) (cap := 0) h1 h2 h3 hl hE rfl hmh b1 (by simp; omega) (by simp) (fun _ => by omega)
            refine ⟨_, run_sliceAt ht hinf hb, ?_⟩
            subst e1 e2
            simp
            exact .szero _ _ _
        | false =>
          simp only [hk, cond_false] at hs
          cases hk0 : (Nat.beq k 0 && Nat.beq len 0) with
          | false => simp [hk0] at hs
          | true =>
            simp only [hk0, cond_true, Option.some.injEq] at hs
            subst hs
            simp only [Bool.and_eq_true] at hk0
            have k0 := Nat.eq_of_beq_eq_true hk0.1
            have l0 := Nat.eq_of_beq_eq_true hk0.2
            subst k0 l0
            have e1 : E = 0 := by omega
            have e2 : l = 0 := by omega
            rcases hx.slice_inv with ⟨pl, cap, hp, hc', _⟩ | ⟨y, _, rfl⟩
            · omega
            · have hb := run_bounds (P := P) (w := w) (sl := true) (len := 0) (cap := 0) h1 h2 h3 hl hE rfl hmh b1 (by simp; omega) (by simp) (fun _ => by omega)
              refine ⟨_, run_sliceAt ht hinf hb, ?_⟩
              subst e1 e2
              simp
              exact .szero _ _ _
      | some m0 =>
        simp only at hs
        cases hm : (Nat.beq m0 l && Nat.beq E l) with
        | false => simp [hm] at hs
        | true =>
          simp only [hm, cond_true, Option.some.injEq] at hs
          subst hs
          simp only [Bool.and_eq_true] at hm
          have e1 := Nat.eq_of_beq_eq_true hm.1
          have e2 := Nat.eq_of_beq_eq_true hm.2
          have : ∃ y cap, x' = .slice (some y) len cap ∧ len ≤ cap := by
            rcases hx.slice_inv with ⟨pl, cap, hp, _, hlc, hn, rfl⟩ | ⟨y, rfl, rfl⟩
            · exact ⟨_, _, rfl, hlc⟩
            · exact ⟨_, _, rfl, Nat.le_refl _⟩
          obtain ⟨y, cap, rfl, hcap⟩ := this
          have hb := run_bounds (P := P) (w := w) (sl := true) (len := len) (cap := cap) h1 h2 h3 hl hE rfl hmh b1 (by simp; omega) (by simp; omega) (fun h => by cases h)
          refine ⟨_, run_sliceAt ht hinf hb, ?_⟩
          simp only [Option.getD_some, e1, e2, if_true, Nat.sub_self]
          exact .szero _ _ _
  · cases hs

end
end Go.Am
