/- Going through blocks, as a plain function: which are begun, and in which order they are done. -/
import Derived.Test.YtbhdfhiecgebnaaDoorFlowWalk2
namespace Go.Proofs.YtbhdfhiecgebnaaDoor
open Go.Am
set_option linter.unusedVariables false
set_option linter.unusedSimpArgs false

abbrev DS := List (Int × Int) × List Int
/-- Goes through a block: so deep at most. -/
def dfsB (nx : Int → List Int) : Nat → Int → DS → DS
  | 0, _, s => s
  | n + 1, b, s => if (s.1.lookup b).isSome then s else
    (((nx b).foldl (fun (t : DS) (c : Int) => dfsB nx n c t) (s.1 ++ [(b, (s.1.length : Int))], s.2)).1, ((nx b).foldl (fun (t : DS) (c : Int) => dfsB nx n c t) (s.1 ++ [(b, (s.1.length : Int))], s.2)).2 ++ [b])
def dfsL (nx : Int → List Int) (n : Nat) (l : List Int) (s : DS) : DS := l.foldl (fun s c => dfsB nx n c s) s
/-- How many are not begun yet. -/
def unb (N : Nat) (es : List (Int × Int)) : Nat := ((List.range N).filter fun (i : Nat) => (es.lookup ((i : Nat) : Int)).isNone).length

theorem lookup_app {es : List (Int × Int)} {b v c : Int} : (es ++ [(b, v)]).lookup c = match es.lookup c with | some w => some w | none => if c = b then some v else none := by
  induction es with
  | nil =>
    simp only [List.nil_append, List.lookup_cons, List.lookup_nil]
    by_cases h : c = b
    · subst h; simp
    · have : (c == b) = false := by simpa using h
      rw [this, if_neg h]
  | cons e es ih =>
    obtain ⟨k, w⟩ := e
    simp only [List.cons_append, List.lookup_cons]
    cases hk : (c == k) with
    | true => rfl
    | false => simp only; exact ih
theorem lookup_keep {es : List (Int × Int)} {b v c : Int} (h : (es.lookup c).isSome) : ((es ++ [(b, v)]).lookup c).isSome := by
  rw [lookup_app]
  cases hc : es.lookup c with
  | none => rw [hc] at h; cases h
  | some w => rfl
theorem dfs_mono {nx : Int → List Int} : ∀ (n : Nat) (b : Int) (s : DS) (c : Int), (s.1.lookup c).isSome → ((dfsB nx n b s).1.lookup c).isSome := by
  intro n
  induction n with
  | zero => intro b s c h; exact h
  | succ n ih =>
    intro b s c h
    unfold dfsB
    split
    · exact h
    · simp only
      have : ∀ (l : List Int) (s : DS), (s.1.lookup c).isSome → ((l.foldl (fun s c => dfsB nx n c s) s).1.lookup c).isSome := by
        intro l
        induction l with
        | nil => intro s h; exact h
        | cons x l ihl => intro s h; exact ihl _ (ih x s c h)
      exact this _ _ (lookup_keep h)
theorem dfsL_mono {nx : Int → List Int} {n : Nat} {c : Int} : ∀ (l : List Int) (s : DS), (s.1.lookup c).isSome → ((dfsL nx n l s).1.lookup c).isSome
  | [], s, h => h
  | x :: l, s, h => dfsL_mono l _ (dfs_mono n x s c h)
theorem filter_le {N : Nat} {p q : Nat → Bool} (h : ∀ i, i < N → q i = true → p i = true) : ((List.range N).filter q).length ≤ ((List.range N).filter p).length := by
  rw [← List.countP_eq_length_filter, ← List.countP_eq_length_filter]
  exact List.countP_mono_left fun i hi hq => h i (List.mem_range.1 hi) hq
theorem unb_mono {N : Nat} {es es' : List (Int × Int)} (h : ∀ c, (es.lookup c).isSome → (es'.lookup c).isSome) : unb N es' ≤ unb N es := by
  unfold unb
  apply filter_le
  intro i _ hi
  cases hc : es.lookup (i : Int) with
  | none => rfl
  | some w =>
    have := h i (by rw [hc]; rfl)
    rw [Option.isNone_iff_eq_none] at hi
    rw [hi] at this; cases this
theorem count_lt {p q : Nat → Bool} {i : Nat} (hp : p i = true) (hq : q i = false) : ∀ {l : List Nat}, (∀ j ∈ l, q j = true → p j = true) → i ∈ l → l.countP q < l.countP p
  | [], _, h => by cases h
  | x :: l, hl, h => by
    have hle : l.countP q ≤ l.countP p := List.countP_mono_left fun j hj hqj => hl j (by simp [hj]) hqj
    by_cases e : x = i
    · subst e
      simp only [List.countP_cons, hp, hq, if_true]
      simp; omega
    · have him : i ∈ l := by
        rcases List.mem_cons.1 h with h | h
        · exact absurd h.symm e
        · exact h
      have := count_lt hp hq (l := l) (fun j hj => hl j (by simp [hj])) him
      simp only [List.countP_cons]
      cases hqx : q x with
      | false => simp; omega
      | true => rw [hl x (by simp) hqx]; simp; omega
theorem unb_lt {N : Nat} {es : List (Int × Int)} {b v : Int} (h : es.lookup b = none) (hb : 0 ≤ b ∧ b < (N : Int)) : unb N (es ++ [(b, v)]) < unb N es := by
  unfold unb
  rw [← List.countP_eq_length_filter, ← List.countP_eq_length_filter]
  obtain ⟨i, rfl⟩ : ∃ i : Nat, b = i := ⟨b.toNat, by omega⟩
  refine count_lt (i := i) (by simp [h]) (by simp [lookup_app, h]) (fun j _ hj => ?_) (List.mem_range.2 (by omega))
  rw [lookup_app] at hj
  cases hc : es.lookup (j : Int) with
  | none => rfl
  | some w => rw [hc] at hj; cases hj
theorem unb_zero {N : Nat} {es : List (Int × Int)} (h : unb N es = 0) {b : Int} (hb : 0 ≤ b ∧ b < (N : Int)) : (es.lookup b).isSome := by
  cases hc : es.lookup b with
  | some w => rfl
  | none => have := unb_lt (v := 0) hc hb; omega
theorem dfs_bound {nx : Int → List Int} {N : Nat} (hin : ∀ b, 0 ≤ b ∧ b < (N : Int) → ∀ c ∈ nx b, 0 ≤ c ∧ c < (N : Int)) : ∀ (n : Nat) (b : Int) (s : DS), 0 ≤ b ∧ b < (N : Int) → (dfsB nx n b s).2.length + unb N (dfsB nx n b s).1 ≤ s.2.length + unb N s.1 := by
  intro n
  induction n with
  | zero => intro b s _; exact Nat.le_refl _
  | succ n ih =>
    intro b s hb
    unfold dfsB
    split
    · exact Nat.le_refl _
    · rename_i hns
      have hnone : s.1.lookup b = none := by
        cases hc : s.1.lookup b with
        | none => rfl
        | some w => rw [hc] at hns; exact absurd rfl hns
      have : ∀ (l : List Int) (s : DS), (∀ c ∈ l, 0 ≤ c ∧ c < (N : Int)) → (l.foldl (fun s c => dfsB nx n c s) s).2.length + unb N (l.foldl (fun s c => dfsB nx n c s) s).1 ≤ s.2.length + unb N s.1 := by
        intro l
        induction l with
        | nil => intro s _; exact Nat.le_refl _
        | cons x l ihl => intro s hl; exact Nat.le_trans (ihl _ fun c hc => hl c (by simp [hc])) (ih x s (hl x (by simp)))
      have h1 := this (nx b) (s.1 ++ [(b, (s.1.length : Int))], s.2) (hin b hb)
      have h2 := unb_lt (v := (s.1.length : Int)) hnone hb
      simp only [List.length_append, List.length_singleton] at *
      omega
end Go.Proofs.YtbhdfhiecgebnaaDoor
