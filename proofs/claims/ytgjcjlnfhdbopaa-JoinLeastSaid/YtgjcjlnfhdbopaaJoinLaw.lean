/- Classes that are put together (chapter 21), in plain terms: no program in sight. -/
import Derived.Test.YtgjcjlnfhdbopaaAmD
namespace Go.Proofs.Ytgjcjlnfhdbopaa
open Go.Am
set_option linter.unusedVariables false
set_option linter.unusedSimpArgs false

/-- Classes that may be. -/
def May (l : List Int) : Prop := ∀ (i : Nat), i < l.length → 0 ≤ l.getD i 0 ∧ l.getD i 0 ≤ i
instance (l : List Int) : Decidable (May l) := by unfold May; infer_instance

/-- The head of a thing. -/
def headOf (l : List Int) (a : Nat) : Nat := if (l.getD a 0).toNat < a then headOf l (l.getD a 0).toNat else a
termination_by a

theorem headOf_le (l : List Int) (a : Nat) : headOf l a ≤ a := by
  induction a using Nat.strongRecOn with
  | _ a ih =>
    rw [headOf]
    split
    · rename_i h; exact Nat.le_trans (ih _ h) (Nat.le_of_lt h)
    · exact Nat.le_refl _
theorem headOf_self {l : List Int} {a : Nat} (h : l.getD a 0 = a) : headOf l a = a := by rw [headOf, if_neg (by omega)]
theorem headOf_step {l : List Int} (m : May l) {a : Nat} (ha : a < l.length) (h : l.getD a 0 ≠ a) : headOf l a = headOf l (l.getD a 0).toNat := by
  have := m a ha
  rw [headOf, if_pos (by omega)]
theorem headOf_head {l : List Int} (m : May l) {a : Nat} (ha : a < l.length) : l.getD (headOf l a) 0 = headOf l a := by
  induction a using Nat.strongRecOn with
  | _ a ih =>
    have := m a ha
    by_cases h : l.getD a 0 = a
    · rw [headOf_self h]; exact h
    · rw [headOf_step m ha h]; exact ih _ (by omega) (by omega)
theorem headOf_idem {l : List Int} (m : May l) {a : Nat} (ha : a < l.length) : headOf l (headOf l a) = headOf l a := headOf_self (headOf_head m ha)

/-- Classes told flat; one head instead of another. -/
def sub (x y r : Nat) : Nat := if r = x then y else r
def flatOf (l : List Int) (x y : Nat) : List Int := (List.range l.length).map fun i => ((sub x y (headOf l i) : Nat) : Int)
theorem flatOf_length (l : List Int) (x y : Nat) : (flatOf l x y).length = l.length := by simp [flatOf]
theorem flatOf_getD {l : List Int} {x y i : Nat} (h : i < l.length) : (flatOf l x y).getD i 0 = (sub x y (headOf l i) : Nat) := by
  simp [flatOf, List.getD, h]
theorem sub_self (x y : Nat) : sub x y y = y := by unfold sub; split <;> simp_all
theorem sub_sub (x y r : Nat) : sub x y (sub x y r) = sub x y r := by
  unfold sub; split <;> simp_all
theorem flatOf_plain (l : List Int) : flatOf l 0 0 = (List.range l.length).map fun i => ((headOf l i : Nat) : Int) := by
  unfold flatOf; congr 1; funext i; congr 1; unfold sub; split <;> simp_all

/-- How many heads there are. -/
def countOf (l : List Int) : Nat := ((List.range l.length).filter fun i => l.getD i 0 = (i : Int)).length
def countTo (l : List Int) (n : Nat) : Nat := ((List.range n).filter fun i => l.getD i 0 = (i : Int)).length
theorem countTo_zero (l : List Int) : countTo l 0 = 0 := rfl
theorem countTo_succ (l : List Int) (n : Nat) : countTo l (n + 1) = countTo l n + if l.getD n 0 = (n : Int) then 1 else 0 := by
  unfold countTo; rw [List.range_succ, List.filter_append, List.length_append]; congr 1
  by_cases h : l.getD n 0 = (n : Int)
  · rw [if_pos h]; simp only [List.filter_cons, List.filter_nil, h, decide_true, if_true]; rfl
  · rw [if_neg h]; simp only [List.filter_cons, List.filter_nil, h, decide_false]; rfl
theorem countTo_le (l : List Int) (n : Nat) : countTo l n ≤ n := by
  unfold countTo; have := List.length_filter_le (fun i => decide (l.getD i 0 = (i : Int))) (List.range n); simpa using this

/-- A list under way: its first k are done. -/
def part (f : Nat → Int) (n k : Nat) : List Int := (List.range k).map f ++ List.replicate (n - k) 0
theorem part_zero (f : Nat → Int) (n : Nat) : part f n 0 = List.replicate n 0 := by simp [part]
theorem part_all (f : Nat → Int) (n : Nat) : part f n n = (List.range n).map f := by simp [part]
theorem part_len {f : Nat → Int} {n k : Nat} (h : k ≤ n) : (part f n k).length = n := by simp [part]; omega
theorem part_get {f : Nat → Int} {n k i : Nat} (h : i < k) : (part f n k).getD i 0 = f i := by
  simp [part, List.getD, List.getElem?_append, h]
theorem part_set {f : Nat → Int} {n k : Nat} (h : k < n) : (part f n k).set k (f k) = part f n (k + 1) := by
  unfold part
  rw [List.set_append_right _ _ (by simp)]
  have : n - k = (n - (k + 1)) + 1 := by omega
  rw [this, List.replicate_succ]
  simp [List.range_succ]
theorem getD_set_self {l : List Int} {i : Nat} {a : Int} (h : i < l.length) : (l.set i a).getD i 0 = a := by simp [List.getD, h]
theorem getD_set_ne {l : List Int} {i j : Nat} {a : Int} (h : j ≠ i) : (l.set i a).getD j 0 = l.getD j 0 := by
  simp [List.getD, List.getElem?_set, Ne.symm h]
theorem set_set_self {l : List Int} {i : Nat} {a b : Int} : (l.set i a).set i b = l.set i b := by simp

/-! ### Joins -/
section
variable {l : List Int} {x y : Nat}
/-- Flat classes, one head turned into a lesser one: they may be; and their heads. -/
theorem may_flat (m : May l) (h : y ≤ x) : May (flatOf l x y) := fun i hi => by
  rw [flatOf_length] at hi
  rw [flatOf_getD hi]
  have := headOf_le l i
  refine ⟨by omega, ?_⟩
  unfold sub; split <;> omega
theorem head_flat (m : May l) (h : y ≤ x) (hy : headOf l y = y) {i : Nat} (hi : i < l.length) : headOf (flatOf l x y) i = sub x y (headOf l i) := by
  have hle := headOf_le l i
  have hr : sub x y (headOf l i) ≤ i := by unfold sub; split <;> omega
  have hfix : headOf l (sub x y (headOf l i)) = sub x y (headOf l i) := by
    unfold sub; split
    · exact hy
    · exact headOf_idem m hi
  have hself : headOf (flatOf l x y) (sub x y (headOf l i)) = sub x y (headOf l i) := by
    apply headOf_self
    rw [flatOf_getD (by omega), hfix, sub_sub]
  by_cases e : sub x y (headOf l i) = i
  · rw [e] at hself; rw [hself, e]
  · rw [headOf_step (may_flat m h) (by rw [flatOf_length]; exact hi) (by rw [flatOf_getD hi]; omega), flatOf_getD hi]
    exact hself
end
/-- Two things' classes put together. -/
def jn (l : List Int) (a b : Nat) : List Int := flatOf l (max (headOf l a) (headOf l b)) (min (headOf l a) (headOf l b))
section
variable {l : List Int} {a b : Nat}
theorem jn_len : (jn l a b).length = l.length := flatOf_length _ _ _
theorem jn_may (m : May l) : May (jn l a b) := may_flat m (by omega)
theorem jn_head (m : May l) (ha : a < l.length) (hb : b < l.length) {i : Nat} (hi : i < l.length) : headOf (jn l a b) i = sub (max (headOf l a) (headOf l b)) (min (headOf l a) (headOf l b)) (headOf l i) := by
  refine head_flat m (by omega) ?_ hi
  have h1 := headOf_idem m ha
  have h2 := headOf_idem m hb
  by_cases h : headOf l a ≤ headOf l b
  · rw [Nat.min_eq_left h]; exact h1
  · rw [Nat.min_eq_right (by omega)]; exact h2
theorem jn_get {i : Nat} (hi : i < l.length) : (jn l a b).getD i 0 = (sub (max (headOf l a) (headOf l b)) (min (headOf l a) (headOf l b)) (headOf l i) : Nat) := flatOf_getD hi
end
theorem sub_core (p q r s v : Nat) (hpq : p ≤ q) (hrs : r ≤ s) :
    sub (max (sub q p r) (sub q p s)) (min (sub q p r) (sub q p s)) (sub q p v) = sub (max (sub s r p) (sub s r q)) (min (sub s r p) (sub s r q)) (sub s r v) := by
  unfold sub
  by_cases h1 : r = q <;> by_cases h2 : s = q <;> by_cases h3 : p = s <;> by_cases h4 : v = q <;> by_cases h5 : v = s <;> simp only [h1, h2, h3, h4, h5, if_true, if_false] <;> (repeat' split) <;> omega
theorem sub_comm (p q r s v : Nat) :
    sub (max (sub (max p q) (min p q) r) (sub (max p q) (min p q) s)) (min (sub (max p q) (min p q) r) (sub (max p q) (min p q) s)) (sub (max p q) (min p q) v) =
    sub (max (sub (max r s) (min r s) q) (sub (max r s) (min r s) p)) (min (sub (max r s) (min r s) q) (sub (max r s) (min r s) p)) (sub (max r s) (min r s) v) := by
  have a1 : min p q ≤ max p q := by omega
  have a2 : min r s ≤ max r s := by omega
  have h := sub_core (min p q) (max p q) (min r s) (max r s) v a1 a2
  have e1 : ∀ (f : Nat → Nat) (u w : Nat), max (f (min u w)) (f (max u w)) = max (f u) (f w) ∧ min (f (min u w)) (f (max u w)) = min (f u) (f w) := fun f u w => by
    by_cases c : u ≤ w
    · rw [Nat.min_eq_left c, Nat.max_eq_right c]; exact ⟨rfl, rfl⟩
    · have c' : w ≤ u := by omega
      rw [Nat.min_eq_right c', Nat.max_eq_left c']; exact ⟨Nat.max_comm _ _, Nat.min_comm _ _⟩
  rw [(e1 _ r s).1, (e1 _ r s).2, (e1 _ p q).1, (e1 _ p q).2] at h
  rw [h, Nat.max_comm (sub (max r s) (min r s) q), Nat.min_comm (sub (max r s) (min r s) q)]
theorem sub_idem (v : Nat) (x : Nat) : sub x x v = v := by unfold sub; split <;> simp_all

theorem jn_comm {l : List Int} (m : May l) {a b c d : Nat} (ha : a < l.length) (hb : b < l.length) (hc : c < l.length) (hd : d < l.length) : jn (jn l a b) c d = jn (jn l c d) b a := by
  unfold jn flatOf
  change (List.range (jn l a b).length).map _ = (List.range (jn l c d).length).map _
  rw [jn_len, jn_len]
  apply List.map_congr_left
  intro i hi
  have hi : i < l.length := by simpa using hi
  change ((sub (max (headOf (jn l a b) c) (headOf (jn l a b) d)) (min (headOf (jn l a b) c) (headOf (jn l a b) d)) (headOf (jn l a b) i) : Nat) : Int) =
    (sub (max (headOf (jn l c d) b) (headOf (jn l c d) a)) (min (headOf (jn l c d) b) (headOf (jn l c d) a)) (headOf (jn l c d) i) : Nat)
  rw [jn_head m ha hb hc, jn_head m ha hb hd, jn_head m ha hb hi, jn_head m hc hd hb, jn_head m hc hd ha, jn_head m hc hd hi, sub_comm]
/-- Twice is once. -/
theorem jn_again {l : List Int} (m : May l) {a b c d : Nat} (ha : a < l.length) (hb : b < l.length) (hc : c < l.length) (hd : d < l.length) : jn (jn (jn l a b) c d) a b = jn (jn l a b) c d := by
  have m1 := jn_may (a := a) (b := b) m
  have l1 := jn_len (l := l) (a := a) (b := b)
  have l2 := jn_len (l := jn l a b) (a := c) (b := d)
  have hab : headOf (jn l a b) a = headOf (jn l a b) b := by
    rw [jn_head m ha hb ha, jn_head m ha hb hb]; unfold sub; split <;> split <;> omega
  have e : headOf (jn (jn l a b) c d) a = headOf (jn (jn l a b) c d) b := by
    rw [jn_head m1 (by omega) (by omega) (by omega), jn_head m1 (by omega) (by omega) (by omega), hab]
  generalize hk : jn (jn l a b) c d = k at e l2
  unfold jn
  rw [e, Nat.max_self, Nat.min_self]
  have hlen : (flatOf k (headOf k b) (headOf k b)).length = k.length := flatOf_length _ _ _
  apply List.ext_getElem hlen
  intro i h1 h2
  have g := flatOf_getD (l := k) (x := headOf k b) (y := headOf k b) h2
  rw [sub_idem] at g
  have hflat : (headOf k i : Int) = k.getD i 0 := by
    subst hk
    rw [jn_get (by omega), jn_head m1 (by omega) (by omega) (by omega)]
  rw [hflat] at g
  simpa [List.getD, h1, h2] using g
theorem jn_count {l : List Int} (m : May l) {a b : Nat} (ha : a < l.length) (hb : b < l.length) :
    countTo (jn l a b) l.length + (if headOf l a = headOf l b then 0 else 1) = countTo l l.length := by
  have hm : max (headOf l a) (headOf l b) < l.length := by have := headOf_le l a; have := headOf_le l b; omega
  have key : ∀ n, n ≤ l.length → countTo (jn l a b) n + (if headOf l a ≠ headOf l b ∧ max (headOf l a) (headOf l b) < n then 1 else 0) = countTo l n := by
    intro n
    induction n with
    | zero => intro _; simp [countTo_zero]
    | succ n ih =>
      intro hn
      have ih := ih (by omega)
      rw [countTo_succ, countTo_succ, jn_get (by omega)]
      have h1 : l.getD n 0 = (n : Int) ↔ headOf l n = n := ⟨headOf_self, fun e => by have := headOf_head m (a := n) (by omega); rw [e] at this; exact this⟩
      have ia := headOf_idem m ha
      have ib := headOf_idem m hb
      by_cases hh : headOf l n = n
      · rw [if_pos (h1.2 hh), hh]
        by_cases e : n = max (headOf l a) (headOf l b)
        · by_cases e2 : headOf l a = headOf l b
          · rw [if_pos (by unfold sub; split <;> omega)]
            simp only [e2, ne_eq, not_true_eq_false, false_and, if_false] at ih ⊢; omega
          · rw [if_neg (by unfold sub; rw [if_pos e]; omega), if_pos ⟨e2, by omega⟩]
            rw [if_neg (by omega)] at ih; omega
        · rw [if_pos (by unfold sub; rw [if_neg e])]
          by_cases e2 : headOf l a ≠ headOf l b ∧ max (headOf l a) (headOf l b) < n
          · rw [if_pos e2] at ih; rw [if_pos ⟨e2.1, by omega⟩]; omega
          · rw [if_neg e2] at ih; rw [if_neg (by omega)]; omega
      · rw [if_neg (fun e => hh (h1.1 e))]
        have hne : ¬ ((sub (max (headOf l a) (headOf l b)) (min (headOf l a) (headOf l b)) (headOf l n) : Nat) : Int) = n := fun e => by
          have e : sub (max (headOf l a) (headOf l b)) (min (headOf l a) (headOf l b)) (headOf l n) = n := by omega
          have := headOf_le l n
          unfold sub at e; split at e <;> omega
        rw [if_neg hne]
        by_cases e : n = max (headOf l a) (headOf l b)
        · exfalso
          by_cases c : headOf l a ≤ headOf l b
          · rw [Nat.max_eq_right c] at e; rw [e] at hh; exact hh ib
          · rw [Nat.max_eq_left (by omega)] at e; rw [e] at hh; exact hh ia
        · by_cases e2 : headOf l a ≠ headOf l b ∧ max (headOf l a) (headOf l b) < n
          · rw [if_pos e2] at ih; rw [if_pos ⟨e2.1, by omega⟩]; omega
          · rw [if_neg e2] at ih; rw [if_neg (by omega)]; omega
  have := key l.length (Nat.le_refl _)
  by_cases e : headOf l a = headOf l b
  · simp only [e, ne_eq, not_true_eq_false, false_and, if_false, if_true] at this ⊢; exact this
  · rw [if_pos ⟨e, hm⟩] at this; rw [if_neg e]; exact this

end Go.Proofs.Ytgjcjlnfhdbopaa
