/- Going through blocks reaches what can be come to, and nothing else: plain laws. -/
import Derived.Test.YtbhdfhiecgebnaaDoorFlowComes
namespace Go.Proofs.YtbhdfhiecgebnaaDoor
open Go.Am
set_option linter.unusedVariables false
set_option linter.unusedSimpArgs false

/-- From one block to another one, by steps. -/
inductive Way (nx : Int → List Int) (a : Int) : Int → Prop
  | here : Way nx a a
  | step {b c : Int} : Way nx a b → c ∈ nx b → Way nx a c
theorem Way.trans {nx : Int → List Int} {a b c : Int} (h : Way nx a b) (k : Way nx b c) : Way nx a c := by
  induction k with
  | here => exact h
  | step _ hc ih => exact .step ih hc

def Bg (s : DS) (c : Int) : Prop := (s.1.lookup c).isSome = true
theorem bg_app {s : DS} {b v c : Int} {d : List Int} : Bg (s.1 ++ [(b, v)], d) c ↔ Bg s c ∨ c = b := by
  unfold Bg
  rw [lookup_app]
  cases h : s.1.lookup c with
  | some w => simp
  | none => by_cases e : c = b <;> simp [e]

/-- What going through some does: those begun thereby are come to; they are done, and what they go to is begun. -/
structure Thru (nx : Int → List Int) (l : List Int) (s s' : DS) : Prop where
  mono : ∀ c, Bg s c → Bg s' c
  keep : ∀ c ∈ s.2, c ∈ s'.2
  all : ∀ c ∈ l, Bg s' c
  way : ∀ c, Bg s' c → Bg s c ∨ ∃ a ∈ l, Way nx a c
  done : ∀ c, Bg s' c → Bg s c ∨ c ∈ s'.2 ∧ ∀ d ∈ nx c, Bg s' d
  of : ∀ c ∈ s'.2, c ∈ s.2 ∨ Bg s' c

theorem Thru.nil (nx : Int → List Int) (s : DS) : Thru nx [] s s :=
  ⟨fun _ h => h, fun _ h => h, (fun _ h => by cases h), fun _ h => .inl h, fun _ h => .inl h, fun _ h => .inl h⟩
theorem Thru.cons {nx : Int → List Int} {x : Int} {l : List Int} {s t u : DS} (a : Thru nx [x] s t) (b : Thru nx l t u) : Thru nx (x :: l) s u where
  mono := fun c h => b.mono c (a.mono c h)
  keep := fun c h => b.keep c (a.keep c h)
  all := fun c h => by
    rcases List.mem_cons.1 h with rfl | h
    · exact b.mono _ (a.all _ (by simp))
    · exact b.all _ h
  way := fun c h => by
    rcases b.way c h with h | ⟨y, hy, w⟩
    · rcases a.way c h with h | ⟨y, hy, w⟩
      · exact .inl h
      · exact .inr ⟨y, by simp at hy; simp [hy], w⟩
    · exact .inr ⟨y, by simp [hy], w⟩
  done := fun c h => by
    rcases b.done c h with h | h
    · rcases a.done c h with h | ⟨h, k⟩
      · exact .inl h
      · exact .inr ⟨b.keep _ h, fun d hd => b.mono _ (k d hd)⟩
    · exact .inr h
  of := fun c h => by
    rcases b.of c h with h | h
    · rcases a.of c h with h | h
      · exact .inl h
      · exact .inr (b.mono _ h)
    · exact .inr h

theorem dfs_thru {nx : Int → List Int} {N : Nat} (hin : ∀ b, 0 ≤ b ∧ b < (N : Int) → ∀ c ∈ nx b, 0 ≤ c ∧ c < (N : Int)) : ∀ (n : Nat) (b : Int) (s : DS), unb N s.1 ≤ n → 0 ≤ b ∧ b < (N : Int) → Thru nx [b] s (dfsB nx n b s) := by
  intro n
  induction n with
  | zero =>
    intro b s h hb
    have hbb : Bg s b := unb_zero (Nat.le_zero.1 h) hb
    exact ⟨fun _ h => h, fun _ h => h, fun c hc => by simp at hc; subst hc; exact hbb, fun _ h => .inl h, fun _ h => .inl h, fun _ h => .inl h⟩
  | succ n ih =>
    intro b s h hb
    by_cases hbb : Bg s b
    · rw [dfsB_some hbb]
      exact ⟨fun _ h => h, fun _ h => h, fun c hc => by simp at hc; subst hc; exact hbb, fun _ h => .inl h, fun _ h => .inl h, fun _ h => .inl h⟩
    · have hnone : s.1.lookup b = none := by
        unfold Bg at hbb; cases hq : s.1.lookup b with
        | none => rfl
        | some w => rw [hq] at hbb; exact absurd rfl hbb
      have hlt := unb_lt (v := (s.1.length : Int)) hnone hb
      have go : ∀ (l : List Int) (t : DS), unb N t.1 ≤ n → (∀ c ∈ l, 0 ≤ c ∧ c < (N : Int)) → Thru nx l t (l.foldl (fun (t : DS) (c : Int) => dfsB nx n c t) t) := by
        intro l
        induction l with
        | nil => intro t _ _; exact .nil _ _
        | cons x l ihl =>
          intro t ht hl
          have hx := ih x t ht (hl x (by simp))
          exact hx.cons (ihl _ (Nat.le_trans (unb_mono fun c hc => hx.mono c hc) ht) fun c hc => hl c (by simp [hc]))
      have k := go (nx b) (s.1 ++ [(b, (s.1.length : Int))], s.2) (by simp only; omega) (hin b hb)
      have hu : dfsB nx (n + 1) b s = (((nx b).foldl (fun (t : DS) (c : Int) => dfsB nx n c t) (s.1 ++ [(b, (s.1.length : Int))], s.2)).1, ((nx b).foldl (fun (t : DS) (c : Int) => dfsB nx n c t) (s.1 ++ [(b, (s.1.length : Int))], s.2)).2 ++ [b]) := by
        conv => lhs; unfold dfsB
        rw [if_neg (by rw [hnone]; exact Bool.noConfusion)]
      rw [hu]
      generalize (nx b).foldl (fun (t : DS) (c : Int) => dfsB nx n c t) (s.1 ++ [(b, (s.1.length : Int))], s.2) = t at k ⊢
      have hb2 : Bg t b := k.mono _ (bg_app.2 (.inr rfl))
      refine ⟨fun c h => k.mono _ (bg_app.2 (.inl h)), fun c h => by simp only [List.mem_append]; exact .inl (k.keep c h), fun c hc => by simp at hc; subst hc; exact hb2, fun c hc => ?_, fun c hc => ?_, fun c hc => ?_⟩
      · rcases k.way c hc with h | ⟨a, ha, w⟩
        · rcases bg_app.1 h with h | rfl
          · exact .inl h
          · exact .inr ⟨c, by simp, .here⟩
        · exact .inr ⟨b, by simp, Way.trans (.step .here ha) w⟩
      · rcases k.done c hc with h | ⟨h, hd⟩
        · rcases bg_app.1 h with h | rfl
          · exact .inl h
          · exact .inr ⟨by simp, fun d hd => k.all d hd⟩
        · exact .inr ⟨by simp only [List.mem_append]; exact .inl h, hd⟩
      · simp only [List.mem_append, List.mem_singleton] at hc
        rcases hc with hc | rfl
        · exact k.of c hc
        · exact .inr hb2
theorem dfsL_thru {nx : Int → List Int} {N n : Nat} (hin : ∀ b, 0 ≤ b ∧ b < (N : Int) → ∀ c ∈ nx b, 0 ≤ c ∧ c < (N : Int)) : ∀ (l : List Int) (s : DS), unb N s.1 ≤ n → (∀ c ∈ l, 0 ≤ c ∧ c < (N : Int)) → Thru nx l s (dfsL nx n l s)
  | [], s, _, _ => .nil _ _
  | x :: l, s, h, hl => by
    have hx := dfs_thru hin n x s h (hl x (by simp))
    exact hx.cons (dfsL_thru hin l _ (Nat.le_trans (unb_mono fun c hc => hx.mono c hc) h) fun c hc => hl c (by simp [hc]))
/-- What going through some yields is what they come to. -/
theorem dfs_mem {nx : Int → List Int} {N : Nat} (hin : ∀ b, 0 ≤ b ∧ b < (N : Int) → ∀ c ∈ nx b, 0 ≤ c ∧ c < (N : Int)) {l : List Int} (hl : ∀ c ∈ l, 0 ≤ c ∧ c < (N : Int)) {c : Int} : c ∈ (dfsL nx N l ([], [])).2 ↔ ∃ a ∈ l, Way nx a c := by
  have k := dfsL_thru (n := N) hin l ([], []) (unb_le _ _) hl
  have no : ∀ d, ¬ Bg (([], []) : DS) d := fun d h => by unfold Bg at h; exact Bool.noConfusion h
  constructor
  · intro h
    rcases k.of c h with h | h
    · cases h
    · rcases k.way c h with h | h
      · exact absurd h (no _)
      · exact h
  · rintro ⟨a, ha, w⟩
    have : Bg (dfsL nx N l ([], [])) c := by
      induction w with
      | here => exact k.all _ ha
      | step _ hc ih =>
        rcases k.done _ ih with h | ⟨_, h⟩
        · exact absurd h (no _)
        · exact h _ hc
    rcases k.done c this with h | h
    · exact absurd h (no _)
    · exact h.1

theorem addL_keep {s l : List Int} {c : Int} (h : c ∈ s) : c ∈ addL s l := by
  unfold addL
  induction l generalizing s with
  | nil => exact h
  | cons x l ih => simp only [List.foldl_cons]; apply ih; split <;> simp [h]
theorem addL_pre (s l : List Int) : ∃ m, addL s l = s ++ m := by
  unfold addL
  induction l generalizing s with
  | nil => exact ⟨[], by simp⟩
  | cons x l ih =>
    simp only [List.foldl_cons]
    split
    · exact ih s
    · obtain ⟨m, hm⟩ := ih (s ++ [x])
      exact ⟨x :: m, by rw [hm]; simp⟩
theorem addL_all {s l : List Int} {c : Int} (h : c ∈ l) : c ∈ addL s l := by
  unfold addL
  induction l generalizing s with
  | nil => cases h
  | cons x l ih =>
    simp only [List.foldl_cons]
    rcases List.mem_cons.1 h with rfl | h
    · refine addL_keep (l := l) ?_
      split <;> simp [*]
    · exact ih h
theorem addL_of {s l : List Int} {c : Int} (h : c ∈ addL s l) : c ∈ s ∨ c ∈ l := by
  unfold addL at h
  induction l generalizing s with
  | nil => exact .inl h
  | cons x l ih =>
    simp only [List.foldl_cons] at h
    rcases ih h with h | h
    · split at h
      · exact .inl h
      · simp only [List.mem_append, List.mem_singleton] at h
        rcases h with h | rfl
        · exact .inl h
        · exact .inr (by simp)
    · exact .inr (by simp [h])
theorem addL_nodup {s l : List Int} (h : s.Nodup) : (addL s l).Nodup := by
  unfold addL
  induction l generalizing s with
  | nil => exact h
  | cons x l ih =>
    simp only [List.foldl_cons]
    apply ih
    split
    · exact h
    · rename_i hx
      rw [List.nodup_append]
      exact ⟨h, by simp, fun a ha b hb => by simp at hb; subst hb; exact fun e => hx (e ▸ ha)⟩
theorem sub_len {α : Type} [BEq α] [LawfulBEq α] : ∀ {s l : List α}, s.Nodup → (∀ c ∈ s, c ∈ l) → s.length ≤ l.length
  | [], l, _, _ => Nat.zero_le _
  | x :: s, l, h, hl => by
    rw [List.nodup_cons] at h
    have hx := hl x (by simp)
    have := sub_len (s := s) (l := l.erase x) h.2 fun c hc => by
      rw [List.mem_erase_of_ne (fun e => h.1 (by subst e; exact hc))]; exact hl c (by simp [hc])
    rw [List.length_erase_of_mem hx] at this
    have := List.length_pos_of_mem hx
    simp only [List.length_cons]; omega
/-- Different numbers in a range are no more than it has. -/
theorem nodup_len {s : List Int} {N : Nat} (h : s.Nodup) (hr : ∀ c ∈ s, 0 ≤ c ∧ c < (N : Int)) : s.length ≤ N := by
  have := sub_len h (l := (List.range N).map fun (i : Nat) => (i : Int)) fun c hc => by
    obtain ⟨h0, h1⟩ := hr c hc
    exact List.mem_map.2 ⟨c.toNat, List.mem_range.2 (by omega), by omega⟩
  simpa using this
theorem comes_mem {nx : Int → List Int} {N : Nat} (hN : N ≤ 19) (hin : ∀ b, 0 ≤ b ∧ b < (N : Int) → ∀ c ∈ nx b, 0 ≤ c ∧ c < (N : Int)) {a b : Int} (ha : 0 ≤ a ∧ a < (N : Int)) : b ∈ comesL nx 20 0 [a] ↔ Way nx a b := by
  have go : ∀ (n i : Nat) (s : List Int), n + i = 20 → s.Nodup → (∀ c ∈ s, 0 ≤ c ∧ c < (N : Int)) → a ∈ s → (∀ c ∈ s, Way nx a c) → (∀ j, j < i → ∀ h : j < s.length, ∀ d ∈ nx (s[j]), d ∈ s) →
      (b ∈ comesL nx n i s ↔ Way nx a b) := by
    intro n
    induction n with
    | zero =>
      intro i s hni nd hr has hw hc
      have hlen := nodup_len nd hr
      unfold comesL
      refine ⟨fun h => hw _ h, fun w => ?_⟩
      induction w with
      | here => exact has
      | step _ hd ih =>
        obtain ⟨j, hj, e⟩ := List.getElem_of_mem ih
        exact hc j (by omega) hj _ (e.symm ▸ hd)
    | succ n ih =>
      intro i s hni nd hr has hw hc
      unfold comesL
      by_cases hi : i < s.length
      · rw [if_pos hi]
        have hg : s.getD i 0 = s[i] := by simp [List.getD, List.getElem?_eq_getElem hi]
        rw [hg]
        have hm : s[i] ∈ s := List.getElem_mem hi
        obtain ⟨m, hpre⟩ := addL_pre s (nx s[i])
        refine ih (i + 1) _ (by omega) (addL_nodup nd) (fun c hc => ?_) (addL_keep has) (fun c hc => ?_) fun j hj hjl d hd => ?_
        · rcases addL_of hc with h | h
          · exact hr _ h
          · exact hin _ (hr _ hm) _ h
        · rcases addL_of hc with h | h
          · exact hw _ h
          · exact .step (hw _ hm) h
        · have hjs : j < s.length := by omega
          have e : (addL s (nx s[i]))[j] = s[j] := by simp only [hpre]; exact List.getElem_append_left hjs
          rw [e] at hd
          by_cases hji : j = i
          · subst hji; exact addL_all hd
          · exact addL_keep (hc j (by omega) hjs d hd)
      · rw [if_neg hi]
        clear ih
        refine ⟨fun h => hw _ h, fun w => ?_⟩
        induction w with
        | here => exact has
        | step _ hd ih =>
          obtain ⟨j, hj, e⟩ := List.getElem_of_mem ih
          exact hc j (by omega) hj _ (e.symm ▸ hd)
  exact go 20 0 [a] rfl (by simp) (fun c hc => by simp at hc; subst hc; exact ha) (by simp) (fun c hc => by simp at hc; subst hc; exact .here) fun j hj => absurd hj (Nat.not_lt_zero _)
theorem comes_ext {nx nx' : Int → List Int} {N : Nat} (hin : ∀ b, 0 ≤ b ∧ b < (N : Int) → ∀ c ∈ nx b, 0 ≤ c ∧ c < (N : Int)) (he : ∀ b, 0 ≤ b ∧ b < (N : Int) → nx' b = nx b) : ∀ (n i : Nat) (s : List Int), (∀ c ∈ s, 0 ≤ c ∧ c < (N : Int)) → comesL nx' n i s = comesL nx n i s
  | 0, i, s, _ => rfl
  | n + 1, i, s, hs => by
    unfold comesL
    by_cases hi : i < s.length
    · rw [if_pos hi, if_pos hi]
      have hg : s.getD i 0 = s[i] := by simp [List.getD, List.getElem?_eq_getElem hi]
      have hm := hs _ (List.getElem_mem hi)
      rw [hg, he _ hm]
      refine comes_ext hin he n (i + 1) _ fun c hc => ?_
      rcases addL_of hc with h | h
      · exact hs _ h
      · exact hin _ hm _ h
    · rw [if_neg hi, if_neg hi]
end Go.Proofs.YtbhdfhiecgebnaaDoor
