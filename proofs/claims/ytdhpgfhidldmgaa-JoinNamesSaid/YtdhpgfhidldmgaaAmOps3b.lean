/-
  The abstract machine: each operation does what the model's does: make.
-/
import Derived.Test.YtdhpgfhidldmgaaAmOps3
import Derived.IntWalk
namespace Go.Am
open Go.RowKit

section
variable {P : Program} {B : Nat} {σ : Nat → Option Pl} {h : AHeap} {w : World}

/-! ### make, slices, copy -/
theorem repl_length (z : List Value) (n : Nat) : (repl z n).length = n * z.length := by
  induction n with
  | zero => simp [repl]
  | succ n ih => simp [repl, ih, Nat.add_mul]; omega
theorem repl_get (z : List Value) (hz : 0 < z.length) : ∀ (n i : Nat), i < n * z.length → (repl z n)[i]? = z[i % z.length]? := by
  intro n
  induction n with
  | zero => intro i h; simp at h
  | succ n ih =>
    intro i h
    simp only [repl]
    by_cases hi : i < z.length
    · rw [List.getElem?_append_left hi, Nat.mod_eq_of_lt hi]
    · have h' : i - z.length < n * z.length := by rw [Nat.add_mul] at h; omega
      rw [List.getElem?_append_right (by omega), ih _ h', Nat.mod_eq_sub_mod (show z.length ≤ i by omega)]
theorem repl_made (z : Array Value) (hz : 0 < z.size) (n : Nat) : ((Array.range (n * z.size)).map (z[· % z.size]!)).toList = repl z.toList n := by
  apply List.ext_getElem?
  intro i
  by_cases hi : i < n * z.size
  · rw [repl_get z.toList (by simpa using hz) n i (by simpa using hi)]
    have hm : i % z.size < z.size := Nat.mod_lt _ hz
    simp [hi, hm]
  · have := repl_length z.toList n
    rw [List.getElem?_eq_none (by simp; omega), List.getElem?_eq_none (by simp at this; omega)]

theorem repl_closed {z : List Value} (hz : closedL z = true) : ∀ n, closedL (repl z n) = true
  | 0 => rfl
  | n + 1 => by simp only [repl, closedL, List.all_append, Bool.and_eq_true]; exact ⟨hz, repl_closed hz n⟩

theorem tzeros_info {t : TypeId} {zs : List Value} (hz : tzeros P t = some zs) : ∃ i z, P.info? t = some i ∧ i.zero = some z ∧ zs = z.cells.toList ∧ z.cells.size = i.size ∧ closedL zs = true := by
  unfold tzeros tzero tsize at hz
  cases hi : P.info? t with
  | none => simp [hi] at hz
  | some i =>
    cases hzz : i.zero with
    | none => simp [hi, hzz] at hz
    | some z =>
      simp only [hi, hzz, Option.bind_some, Option.map_some] at hz
      cases hc : (closedL z.cells.toList && Nat.beq z.cells.size i.size) with
      | false => simp [hc] at hz
      | true =>
        simp only [hc, cond_true, Option.some.injEq] at hz
        simp only [Bool.and_eq_true] at hc
        exact ⟨i, z, rfl, hzz, hz.symm, Nat.eq_of_beq_eq_true hc.2, by rw [← hz]; exact hc.1⟩

theorem mkSlice_rel (hr : HRel P B σ h w) {t e : TypeId} {c l cp : Nat} {zs : List Value} {k k' : IntKind} (ht : P.underlying t = some (.slice e)) (he : telem P e = some c) (hz : tzeros P e = some zs)
    (h1 : l ≤ cp) (h2 : cp ≤ room) :
    ∃ σ' w' cv, (Instr.makeSlice t (.int k l) (.int k' cp)).run P w = .ok cv w' ∧ VRel σ' (.slice (some ⟨h.n, 0, none⟩) l c) cv ∧ Evo P B σ h w σ' (h.push (.row (repl zs l) true 0)) w' := by
  obtain ⟨i, z, hi, hsz, hc0, hb1, hb2, hzz, hzc⟩ := telem_info he
  obtain ⟨i', z', hi', hz', rfl, hzs, hcl⟩ := tzeros_info hz
  rw [hi] at hi'; cases hi'
  rw [hzz] at hz'; cases hz'
  have hroom : room = 4294967296 := rfl
  have hl : (IntKind.i64.wrap (l : Int)) = l := IntWalk.i64_in _ (by omega)
  have hcp : (IntKind.i64.wrap (cp : Int)) = cp := IntWalk.i64_in _ (by omega)
  have hbig : ¬ ((281474976710656 : Int) < (i.bytes : Int) * (cp : Int)) := by
    have : i.bytes * cp ≤ 1024 * 4294967296 := Nat.mul_le_mul hb2 (by omega)
    have h3 : ((i.bytes * cp : Nat) : Int) ≤ ((1024 * 4294967296 : Nat) : Int) := Int.ofNat_le.2 this
    rw [Int.natCast_mul] at h3
    omega
  have hcl2 : LRel σ (repl z.cells.toList l) ((repl z.cells.toList l)) := by
    refine LRel.closed σ ?_
    clear hcp hl h1
    induction l with
    | zero => rfl
    | succ l ih => simp only [repl, closedL, List.all_append, Bool.and_eq_true]; exact ⟨hcl, ih⟩
  have hsplit : repl z.cells.toList cp = repl z.cells.toList l ++ repl z.cells.toList (cp - l) := by
    have : ∀ a b, repl z.cells.toList (a + b) = repl z.cells.toList a ++ repl z.cells.toList b := fun a b => by
      induction a with
      | zero => simp [repl]
      | succ a ih => rw [Nat.succ_add]; simp [repl, ih]
    rw [← this]; congr 1; omega
  have hmade : ((Array.range (cp * i.size)).map (z.cells[· % z.cells.size]!)) = (repl z.cells.toList l ++ repl z.cells.toList (cp - l)).toArray := by
    apply Array.ext'
    rw [← hsplit, ← repl_made z.cells (by omega) cp]
    simp [hzs]
  have hpush := push_row hr hcl2 (repl z.cells.toList (cp - l)) e 0
  refine ⟨_, _, .slice (some ⟨w.heap.size, 0, none⟩) l cp, ?_, VRel.slice (pl := ⟨w.heap.size, 0, _⟩) (more_same _ _ _) hc0 h1 ?_, hpush⟩
  · rw [← hmade]
    by_cases hn : cp = 0
    · subst hn
      have : l = 0 := by omega
      subst this
      have w0 : IntKind.i64.wrap 0 = 0 := by decide
      have hr0 : Array.range 0 = #[] := rfl
      simp [Instr.makeSlice, asInt, asIntOf, run_underlying ht, typeInfo, hi, run_size hi, newRow, w0, hr0]
    · have hn2 : ¬ (cp * i.size = 0) := by
        intro h0
        rcases Nat.mul_eq_zero.1 h0 with h | h <;> omega
      have hneg : ¬ ((cp : Int) < 0) := by omega
      have hneg2 : ¬ ((l : Int) < 0) := by omega
      have hneg3 : ¬ cp < l := by omega
      have hn3 : ¬ i.size = 0 := by omega
      simp [Instr.makeSlice, asInt, asIntOf, run_underlying ht, typeInfo, hi, run_size hi, newRow, hl, hcp, hbig, zeroValue, hzz, hneg, hneg2, hneg3]
      intro h0
      exact absurd h0 hn2
  · simp only [Nat.zero_add, repl_length]
    rw [← Nat.add_mul]
    have : l + (cp - l) = cp := by omega
    rw [this]
    have : z.cells.toList.length = c := by simpa using hzc
    rw [this]
    exact Nat.le_refl _

end
end Go.Am
