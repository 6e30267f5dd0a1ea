/-
  The abstract machine: each operation does what the model's does (3): slices, append, copy, maps.
-/
import Derived.Test.YtdhpgfhidldmgaaAmOps2
import Derived.IntWalk
namespace Go.Am
open Go.RowKit

section
variable {P : Program} {B : Nat} {σ : Nat → Option Pl} {h : AHeap} {w : World}

/-! ### Sources of cells -/
/-- What is appended, or copied: so many elements, whose cells are these, in this world and behind draws. -/
def Src (P : Program) (c : Nat) (x : Value) (n : Nat) (ys : List Value) (w : World) : Prop :=
  (∀ w', (Builtin.lenOf x).run P w' = .ok n w') ∧ ys.length = n * c ∧ ∀ k, k ≤ n → ∀ d, (Builtin.firstCells c k x).run P { w with drawn := d } = .ok (ys.take (k * c)).toArray { w with drawn := d }

theorem src_rel (hr : HRel P B σ h w) {c : Nat} {x x' : Value} {xs : List Value} (hc : 0 < c) (hx : VRel σ x x') (hs : srcCells c h x = some xs) :
    ∃ n ys, LRel σ xs ys ∧ Src P c x' n ys w := by
  unfold srcCells at hs
  split at hs
  · cases hx
    cases hs
    exact ⟨0, [], .nil _, fun w' => by simp [Builtin.lenOf], by simp, fun k hk d => by
      have : k = 0 := by omega
      subst this
      simp [Builtin.firstCells]⟩
  · rename_i a len k
    have hzero : ∀ v, VRel σ (.slice (some a) 0 k) v → ∃ n ys, LRel σ [] ys ∧ Src P c v n ys w := fun v hv => by
      have : ∃ y cap, v = .slice (some y) 0 cap := by cases hv <;> exact ⟨_, _, rfl⟩
      obtain ⟨y, cap, rfl⟩ := this
      exact ⟨0, [], .nil _, fun w' => by simp [Builtin.lenOf], by simp, fun k hk d => by
        have : k = 0 := by omega
        subst this
        simp [Builtin.firstCells, loadCells, loadCellsFrom]⟩
    cases hb : Nat.beq len 0 with
    | true =>
      have := Nat.eq_of_beq_eq_true hb
      subst this
      simp at hs
      subst hs
      exact hzero _ hx
    | false =>
      have hne : len ≠ 0 := Nat.ne_of_beq_eq_false hb
      simp only [hb, cond_false] at hs
      cases hb2 : (Nat.beq k c && a.spot.isNone) with
      | false => simp [hb2] at hs
      | true =>
        simp only [hb2, cond_true] at hs
        split at hs
        · rename_i cells hrow
          obtain ⟨pl, ys, h1, h2, h3, h4, h5⟩ := cut_cells hr hrow hs
          cases hx with
          | szero => exact absurd rfl hne
          | slice hp hc' hl hn =>
            simp only at hrow h1 h5
            rw [h1] at hp; cases hp
            refine ⟨len, ys, h2, fun w' => by simp [Builtin.lenOf], by rw [h3], fun k' hk d => ?_⟩
            have hlen : (ys.take (k' * c)).length = k' * c := by
              rw [List.length_take, h3]
              exact Nat.min_eq_left (Nat.mul_le_mul_right _ hk)
            have := run_loadCells_list (P := P) { w with drawn := d } ⟨pl.b, pl.base + _, none⟩ (ys.take (k' * c)) (fun j v hj => by
              rw [add_mid]
              have hj' : ys[j]? = some v := by
                rw [List.getElem?_take] at hj
                split at hj
                · exact hj
                · cases hj
              exact h5 j v hj')
            rw [hlen] at this
            simp only [Builtin.firstCells]
            exact this
        · cases hs
  · cases hs

theorem Src.len {c n : Nat} {x : Value} {ys : List Value} (hc : 0 < c) (hs : Src P c x n ys w) : ys.length / c = n := by rw [hs.2.1, Nat.mul_div_cancel _ hc]

/-! ### Append -/
theorem append_zero {t u e e' ty : TypeId} {i : TypeInfo} (ht : P.underlying t = some (.slice e)) (hu : P.underlying u = some (.slice e')) (hi : P.info? e = some i) {x : Value} {base : Option Addr} {len cap : Nat}
    {ts : List TypeId} (hs : Src P i.size x 0 [] w) (hl : len ≤ cap) :
    (Builtin.append_ (t :: u :: ts).toArray ty #[.slice base len cap, x]).run P w = .ok (.slice base len cap) w := by
  have h1 := hs.1 w
  have h2 := hs.2.2 0 (Nat.le_refl _) w.drawn
  simp at h2
  cases base with
  | none => simp [Builtin.append_, run_underlying ht, run_underlying hu, run_size hi, h1, hl, h2]
  | some a => simp [Builtin.append_, run_underlying ht, run_underlying hu, run_size hi, h1, hl, h2, storeCells]

theorem append_room {t u e e' ty elem : TypeId} {i : TypeInfo} (ht : P.underlying t = some (.slice e)) (hu : P.underlying u = some (.slice e')) (hi : P.info? e = some i) {x : Value} {b o len cap n : Nat} {ys : List Value}
    {ts : List TypeId} {cc : Array Value} (hs : Src P i.size x n ys w) (hl : len + n ≤ cap) (hb : w.heap[b]? = some (.cells cc elem (0, 0))) (hn : o + len * i.size + ys.length ≤ cc.size) (h1 : ∀ v ∈ ys, v.oneCell' = true) :
    (Builtin.append_ (t :: u :: ts).toArray ty #[.slice (some ⟨b, o, none⟩) len cap, x]).run P w =
      .ok (.slice (some ⟨b, o, none⟩) (len + n) cap) (w.setRow b (putAt cc.toList (o + len * i.size) ys).toArray) := by
  have e1 := hs.1 w
  have e2 := hs.2.2 n (Nat.le_refl _) w.drawn
  rw [List.take_of_length_le (by rw [hs.2.1]; exact Nat.le_refl _)] at e2
  have e3 := run_storeCells_at P b (o + len * i.size) elem ys 0 cc w hb (by omega) h1
  have e4 : (List.take (o + len * i.size + 0) cc.toList ++ ys ++ List.drop (o + len * i.size + 0 + ys.length) cc.toList) = putAt cc.toList (o + len * i.size) ys := rfl
  rw [e4] at e3
  simp [Builtin.append_, run_underlying ht, run_underlying hu, run_size hi, e1, hl, e2, add_mid, e3]

theorem append_grow {t u e e' ty : TypeId} {i : TypeInfo} {z : Value} (ht : P.underlying t = some (.slice e)) (hu : P.underlying u = some (.slice e')) (hi : P.info? e = some i) (hz : i.zero = some z) {x : Value} {base : Option Addr} {len cap n : Nat} {xs ys : List Value}
    {ts : List TypeId} (hs : Src P i.size x n ys w) (hg : cap < len + n) (hx : ∀ d, (Builtin.firstCells i.size len (.slice base len cap)).run P { w with drawn := d } = .ok xs.toArray { w with drawn := d })
    (hm : len + n ≤ room) (h1 : 1 ≤ i.bytes) (h2 : i.bytes ≤ 1024) :
    (Builtin.append_ (t :: u :: ts).toArray ty #[.slice base len cap, x]).run P w =
      .ok (.slice (some ⟨w.heap.size, 0, none⟩) (len + n) (grownCap w (len + n) cap e))
        ({ w with drawn := w.drawn + 1 }.alloc (.cells (xs ++ ys ++ (Builtin.zeroCells z.cells (grownCap w (len + n) cap e - (len + n))).toList).toArray e)) := by
  have e1 := hs.1 w
  have e2 := hs.2.2 n (Nat.le_refl _) (w.drawn + 1)
  rw [List.take_of_length_le (by rw [hs.2.1]; exact Nat.le_refl _)] at e2
  have e3 := hx (w.drawn + 1)
  have hr : room = 4294967296 := rfl
  have hn : ¬ (len + n ≤ cap) := by omega
  have hb0 : ¬ (i.bytes = 0) := by omega
  have hmul : (len + n) * i.bytes ≤ 140737488355328 := by
    calc (len + n) * i.bytes ≤ 4294967296 * 1024 := Nat.mul_le_mul (by omega) h2
      _ ≤ _ := by decide
  have h48 : ¬ (281474976710656 < Builtin.nextslicecap (len + n) cap * i.bytes) := by have := growslice_fits (bytes := i.bytes) hg hmul; omega
  have hcs : xs.toArray ++ ys.toArray ++ Builtin.zeroCells z.cells (grownCap w (len + n) cap e - (len + n)) = (xs ++ ys ++ (Builtin.zeroCells z.cells (grownCap w (len + n) cap e - (len + n))).toList).toArray := by
    apply Array.ext'
    simp
  rw [← hcs]
  have e2 : (Builtin.firstCells i.size n x).run P w.drew = .ok ys.toArray w.drew := e2
  have e3 : (Builtin.firstCells i.size len (.slice base len cap)).run P w.drew = .ok xs.toArray w.drew := e3
  simp [Builtin.append_, run_underlying ht, run_underlying hu, run_size hi, typeInfo, zeroValue, hi, hz, e1, hn, hb0, h48, Question.forced, newRow, grownCap, e2, e3]
  have e5 : (xs ++ ys).toArray = xs.toArray ++ ys.toArray := by simp
  rw [e5, Array.append_assoc]

theorem VRel.slice_inv {a : Addr} {len k : Nat} {v : Value} (hv : VRel σ (.slice (some a) len k) v) :
    (∃ pl cap, σ a.block = some pl ∧ 0 < k ∧ len ≤ cap ∧ pl.base + a.off + cap * k ≤ pl.n ∧ v = .slice (some ⟨pl.b, pl.base + a.off, none⟩) len cap) ∨ (∃ x, len = 0 ∧ v = .slice (some x) 0 0) := by
  cases hv with
  | slice hp hc hl hn => exact .inl ⟨_, _, hp, hc, hl, hn, rfl⟩
  | szero a x c => exact .inr ⟨x, rfl, rfl⟩

section
variable {t u e e' ty : TypeId} {ts : List TypeId} {i : TypeInfo} {z : Value} (ht : P.underlying t = some (.slice e)) (hu : P.underlying u = some (.slice e')) (hi : P.info? e = some i) (hz : i.zero = some z)
  (hzc : z.cells.size = i.size) (hc0 : 0 < i.size) (hb1 : 1 ≤ i.bytes) (hb2 : i.bytes ≤ 1024)
include ht hu hi hz hzc hc0 hb1 hb2

/-- What is appended to grows into a new block. -/
theorem append_new (hr : HRel P B σ h w) {x' : Value} {base : Option Addr} {len cap n : Nat} {as xs zs ys : List Value} {lo : Nat} (hS : Src P i.size x' n ys w) (hl : LRel σ (as ++ xs) (zs ++ ys)) (hzl : zs.length = len * i.size)
    (hf : ∀ d, (Builtin.firstCells i.size len (.slice base len cap)).run P { w with drawn := d } = .ok zs.toArray { w with drawn := d }) (hlt : cap < len + n) (hrm : len + n ≤ room) :
    ∃ σ' w' cv, (Builtin.append_ (t :: u :: ts).toArray ty #[.slice base len cap, x']).run P w = .ok cv w' ∧ VRel σ' (.slice (some ⟨h.n, 0, none⟩) (len + n) i.size) cv ∧
      Evo P B σ h w σ' (h.push (.row (as ++ xs) true lo)) w' := by
  have hrun := append_grow (ts := ts) (ty := ty) (base := base) (len := len) (cap := cap) (xs := zs) ht hu hi hz hS hlt hf hrm hb1 hb2
  have hge := grownCap_ge w (len + n) cap e
  have hrd := hr.drew (w.drawn + 1)
  refine ⟨_, _, _, hrun, VRel.slice (pl := ⟨w.heap.size, 0, _⟩) (more_same _ h.n _) hc0 hge ?_, (Evo.drew (w.drawn + 1) hr).trans (push_row hrd hl _ e lo)⟩
  simp only [Nat.zero_add]
  have e1 : (Builtin.zeroCells z.cells (grownCap w (len + n) cap e - (len + n))).toList.length = (grownCap w (len + n) cap e - (len + n)) * i.size := by simp [Builtin.zeroCells, hzc]
  have e2 : (zs ++ ys).length = (len + n) * i.size := by simp [hzl, hS.2.1, Nat.add_mul]
  rw [e1, e2, ← Nat.add_mul]
  have : len + n + (grownCap w (len + n) cap e - (len + n)) = grownCap w (len + n) cap e := by omega
  rw [this]
  exact Nat.le_refl _

theorem append_old (hr : HRel P B σ h w) {s' x' : Value} {a : Addr} {len n lo : Nat} {cells xs ys olds : List Value} (hS : Src P i.size x' n ys w) (hl : LRel σ xs ys) (hone : oneCells xs = true)
    (hs : VRel σ (.slice (some a) len i.size) s') (hget : h.get a.block = some (.row cells true lo)) (hcut : cut cells a.off (len * i.size) = some olds) (hlo : lo ≤ a.off + len * i.size) (hrm : len + n ≤ room) (hn1 : 0 < n) :
    ∃ σ' w' cv, (Builtin.append_ (t :: u :: ts).toArray ty #[s', x']).run P w = .ok cv w' ∧ VRel σ' (.slice (some ⟨h.n, 0, none⟩) (len + n) i.size) cv ∧
      Evo P B σ h w σ' ((h.kill a.block).push (.row (olds ++ xs) true (lo - a.off))) w' := by
  obtain ⟨pl, h1, ⟨cc, elem, fr, h2, h3, h4, h5, h6⟩, h7⟩ := hr.live _ _ hget
  cases h6 rfl
  have hrow : rowOf h a.block = some cells := by unfold rowOf; rw [hget]
  obtain ⟨pl', zs, k1, k2, k3, k4, k5⟩ := cut_cells hr hrow hcut
  rw [h1] at k1; cases k1
  have hk := hr.kill a.block
  have hgrown : ∀ (base : Option Addr) (cap : Nat), (∀ d, (Builtin.firstCells i.size len (.slice base len cap)).run P { w with drawn := d } = .ok zs.toArray { w with drawn := d }) → cap < len + n →
      ∃ σ' w' cv, (Builtin.append_ (t :: u :: ts).toArray ty #[.slice base len cap, x']).run P w = .ok cv w' ∧ VRel σ' (.slice (some ⟨h.n, 0, none⟩) (len + n) i.size) cv ∧
        Evo P B σ h w σ' ((h.kill a.block).push (.row (olds ++ xs) true (lo - a.off))) w' := fun base cap hf hlt => by
    obtain ⟨σ', w', cv, a1, a2, a3⟩ := append_new (lo := lo - a.off) (ts := ts) (ty := ty) ht hu hi hz hzc hc0 hb1 hb2 hk.rel hS (k2.append hl) k3 hf hlt hrm
    exact ⟨σ', w', cv, a1, a2, hk.trans a3⟩
  rcases hs.slice_inv with ⟨pl2, cap, hp, _, hlc, hn, rfl⟩ | ⟨y, rfl, rfl⟩
  · rw [h1] at hp; cases hp
    by_cases hfit : len + n ≤ cap
    · have hmul : (len + n) * i.size ≤ cap * i.size := Nat.mul_le_mul_right _ hfit
      have hyl : ys.length = n * i.size := hS.2.1
      rw [Nat.add_mul] at hmul
      have hle2 : pl.base + a.off + len * i.size + ys.length ≤ cc.size := by rw [h3, hyl]; omega
      have hrun := append_room (ts := ts) (ty := ty) (len := len) (cap := cap) ht hu hi hS hfit h2 hle2 (oneCells_rel hl hone)
      have hgr := hr.grow (ys := xs) hget h1 hcut hl hlo h2 (by rw [hl.1, ← h3]; omega)
      refine ⟨_, _, _, hrun, ?_, hgr⟩
      have := VRel.slice (σ := more σ h.n ⟨pl.b, pl.base + a.off, pl.n⟩) (g := h.n) (off := 0) (len := len + n) (c := i.size) (cap := cap) (pl := ⟨pl.b, pl.base + a.off, pl.n⟩) (more_same _ _ _) hc0 hfit (by simp only [Nat.add_zero]; omega)
      simpa using this
    · refine hgrown _ cap (fun d => ?_) (by omega)
      have := run_loadCells_list (P := P) { w with drawn := d } ⟨pl.b, pl.base + a.off, none⟩ zs (fun j v hj => by rw [add_mid]; exact k5 j v hj)
      rw [k3] at this
      simp only [Builtin.firstCells]
      exact this
  · exact hgrown _ 0 (fun d => by
      have : zs = [] := by have := k3; simp at this; exact this
      subst this
      simp [Builtin.firstCells, loadCells, loadCellsFrom]) (by omega)
end

theorem append_rel (hr : HRel P B σ h w) {t u e e' ty : TypeId} {c : Nat} {s x s' x' v : Value} {h' : AHeap} {ts : List TypeId} (ht : P.underlying t = some (.slice e)) (hu : P.underlying u = some (.slice e')) (he : telem P e = some c)
    (hs : VRel σ s s') (hx : VRel σ x x') (ha : appendA c s x h = some (v, h')) :
    ∃ σ' w' cv, (Builtin.append_ (t :: u :: ts).toArray ty #[s', x']).run P w = .ok cv w' ∧ VRel σ' v cv ∧ Evo P B σ h w σ' h' w' := by
  obtain ⟨i, z, hi, hsz, hc0, hb1, hb2, hz, hzc⟩ := telem_info he
  subst hsz
  unfold appendA at ha
  split at ha
  · cases ha
  · rename_i hsrc
    obtain ⟨n, ys, hl, hS⟩ := src_rel hr hc0 hx hsrc
    have hys : ys = [] := by have := hl.1; simpa using this.symm
    subst hys
    have hn0 : n = 0 := by
      have h2 := hS.2.1
      simp only [List.length_nil] at h2
      rcases Nat.mul_eq_zero.1 h2.symm with h | h <;> omega
    subst hn0
    split at ha
    · cases ha
      cases hs
      exact ⟨σ, w, _, append_zero ht hu hi hS (Nat.le_refl _), .snil, Evo.refl hr⟩
    · cases ha
      rcases hs.slice_inv with ⟨pl, cap, _, _, hl, _, rfl⟩ | ⟨y, rfl, rfl⟩
      · exact ⟨σ, w, _, append_zero ht hu hi hS hl, hs, Evo.refl hr⟩
      · exact ⟨σ, w, _, append_zero ht hu hi hS (Nat.le_refl _), hs, Evo.refl hr⟩
    · cases ha
  · rename_i y0 ys0 hsrc
    obtain ⟨n, ys, hl, hS⟩ := src_rel hr hc0 hx hsrc
    have hlen : (y0 :: ys0).length / i.size = n := by rw [hl.1]; exact hS.len hc0
    have hn1 : 0 < n := by
      rcases Nat.eq_zero_or_pos n with h0 | h0
      · subst h0; have := hS.2.1; rw [← hl.1] at this; simp at this
      · exact h0
    clear hsrc
    generalize y0 :: ys0 = xs at *
    simp only [hlen] at ha
    cases hone : oneCells xs with
    | false => simp [hone] at ha
    | true =>
    simp only [hone, Bool.not_true, cond_false] at ha
    split at ha
    · cases hroom : Nat.ble n room with
      | false => simp [hroom] at ha
      | true =>
        simp only [hroom, cond_true, Option.some.injEq, mk, Prod.mk.injEq] at ha
        obtain ⟨rfl, rfl⟩ := ha
        cases hs
        have hrm := Nat.le_of_ble_eq_true hroom
        have := append_new (lo := 0) (ts := ts) (ty := ty) (base := none) (len := 0) (cap := 0) (as := []) (zs := []) ht hu hi hz hzc hc0 hb1 hb2 hr hS (by simpa using hl) (by simp) (fun d => by simp [Builtin.firstCells]) (by omega) (by omega)
        simpa using this
    · rename_i a len k
      cases hroom : (Nat.ble (len + n) room && a.spot.isNone) with
      | false => simp [hroom] at ha
      | true =>
      simp only [hroom, cond_true] at ha
      simp only [Bool.and_eq_true] at hroom
      have hrm := Nat.le_of_ble_eq_true hroom.1
      cases hk0 : Nat.beq k 0 with
      | true =>
        simp only [hk0, cond_true] at ha
        cases hl0 : Nat.beq len 0 with
        | false => simp [hl0] at ha
        | true =>
          have e1 := Nat.eq_of_beq_eq_true hl0
          have e2 := Nat.eq_of_beq_eq_true hk0
          subst e1 e2
          simp only [hl0, cond_true, Option.some.injEq, mk, Prod.mk.injEq] at ha
          obtain ⟨rfl, rfl⟩ := ha
          rcases hs.slice_inv with ⟨pl, cap, _, hc', _⟩ | ⟨y, _, rfl⟩
          · omega
          · have := append_new (lo := 0) (ts := ts) (ty := ty) (base := some y) (len := 0) (cap := 0) (as := []) (zs := []) ht hu hi hz hzc hc0 hb1 hb2 hr hS (by simpa using hl) (by simp) (fun d => by simp [Builtin.firstCells, loadCells, loadCellsFrom]) (by omega) (by omega)
            simpa using this
      | false =>
      simp only [hk0, cond_false] at ha
      cases hkc : Nat.beq k i.size with
      | false => simp [hkc] at ha
      | true =>
      have ekc := Nat.eq_of_beq_eq_true hkc
      subst ekc
      simp only [hkc, cond_true] at ha
      split at ha
      · rename_i cells lo hget
        split at ha
        · rename_i olds hcut
          cases hlo : Nat.ble lo (a.off + len * i.size) with
          | false => simp [hlo] at ha
          | true =>
          simp only [hlo, cond_true, Option.some.injEq, Prod.mk.injEq] at ha
          obtain ⟨rfl, rfl⟩ := ha
          exact append_old ht hu hi hz hzc hc0 hb1 hb2 hr hS hl hone hs hget hcut (Nat.le_of_ble_eq_true hlo) hrm hn1
        · cases ha
      · cases ha
    · cases ha

end
end Go.Am
