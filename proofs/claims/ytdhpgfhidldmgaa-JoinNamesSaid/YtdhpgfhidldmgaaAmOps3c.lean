/-
  The abstract machine: each operation does what the model's does: copy.
-/
import Derived.Test.YtdhpgfhidldmgaaAmOps3
import Derived.IntWalk
namespace Go.Am
open Go.RowKit

section
variable {P : Program} {B : Nat} {σ : Nat → Option Pl} {h : AHeap} {w : World}

theorem copy_rel (hr : HRel P B σ h w) {t e ty : TypeId} {c m : Nat} {a : Addr} {len k : Nat} {d' s s' : Value} {ys : List Value} {ts : List TypeId} (ht : P.underlying t = some (.slice e)) (he : telem P e = some c)
    (hd : VRel σ (.slice (some a) len k) d') (hs : VRel σ s s') (hsrc : srcCells c h s = some ys) (hm : m = min (ys.length / c) len) :
    (m = 0 → (Builtin.copy_ (t :: ts).toArray ty #[d', s']).run P w = .ok (.int .i64 0) w) ∧
    (∀ h', m ≠ 0 → k = c → a.spot = none → storeA h a (ys.take (m * c)) = some h' → ∃ w', (Builtin.copy_ (t :: ts).toArray ty #[d', s']).run P w = .ok (.int .i64 m) w' ∧ Evo P B σ h w σ h' w') := by
  obtain ⟨i, z, hi, hsz, hc0, hb1, hb2, hzz, hzc⟩ := telem_info he
  subst hsz
  obtain ⟨n, zs, hl, hS⟩ := src_rel hr hc0 hs hsrc
  have hn : ys.length / i.size = n := by rw [hl.1]; exact hS.len hc0
  rw [hn] at hm
  have e1 := hS.1 w
  have e2 := hS.2.2 m (by omega) w.drawn
  have hmin : Nat.min n len = m := hm.symm
  constructor
  · intro h0
    rw [h0] at e2 hmin
    have : ∃ y cp, d' = .slice (some y) len cp := by cases hd <;> exact ⟨_, _, rfl⟩
    obtain ⟨y, cp, rfl⟩ := this
    simp at e2
    simp [Builtin.copy_, run_underlying ht, e1, hmin, run_size hi, e2, storeCells, goInt]
  · intro h' h0 hk hsp hst
    subst hk
    cases hd with
    | szero => simp at hm; omega
    | slice hp hc' hlc hnn =>
      rename_i g off cap pl
      have hlr : LRel σ (ys.take (m * i.size)) (zs.take (m * i.size)) := hl.take _
      obtain ⟨w', r1, r2⟩ := storeA_rel hr (VRel.ptr hp) hlr hst
      exact ⟨w', by simp [Builtin.copy_, run_underlying ht, e1, hmin, run_size hi, e2, r1, goInt], r2⟩

end
end Go.Am
