/- The check of a table of types: what it comes to in the abstract machine. -/
import Derived.Test.YtbhdfhiecgebnaaDoorTypesWalk
namespace Go.Proofs.YtbhdfhiecgebnaaDoor
open Go.Am
set_option linter.unusedVariables false
set_option linter.unusedSimpArgs false
set_option maxHeartbeats 4000000

theorem mayL_pos {T : List LType} {x : LType} {k : Nat} {s : List Int} (hs : ∀ y ∈ s, 0 ≤ y ∧ y ≤ 1000) (hk : s.length = k) (h : (mayL T x k s).2 = true) : 0 ≤ (mayL T x k s).1 ∧ (mayL T x k s).1 ≤ 1000 := by
  unfold mayL at h ⊢
  by_cases h1 : x.kind = 1
  · rw [if_pos h1]; simp
  rw [if_neg h1] at h ⊢
  by_cases h2 : x.kind = 2
  · rw [if_pos h2]; simp
  rw [if_neg h2] at h ⊢
  by_cases h3 : x.kind = 3
  · rw [if_pos h3]; simp
  rw [if_neg h3] at h ⊢
  by_cases h4 : x.kind = 4
  · rw [if_pos h4] at h ⊢
    cases hc : (plainL x && thereL k x.parts) with
    | false => rw [hc] at h; simp at h
    | true =>
      rw [hc] at h
      simp only [if_true] at h ⊢
      simp only [Bool.and_eq_true, decide_eq_true_eq] at h hc
      have hpos : ∀ l : List Int, (∀ y ∈ l, 0 ≤ y) → 0 ≤ l.sum := by
        intro l
        induction l with
        | nil => intro _; simp
        | cons a l ih => intro hl; have := ih fun y hy => hl y (by simp [hy]); have := hl a (by simp); simp; omega
      have := hpos (x.parts.map fun n => s.getD n.toNat 0) fun y hy => by
        obtain ⟨n, hn, rfl⟩ := List.mem_map.1 hy
        have := List.all_eq_true.1 hc.2 n hn
        simp at this
        exact (hs _ (getD_mem (by omega))).1
      omega
  rw [if_neg h4] at h ⊢
  by_cases h5 : x.kind = 5
  · rw [if_pos h5] at h ⊢
    cases hc : (plainL x && thereL k [x.elem] && decide (1 ≤ x.many) && decide (x.many ≤ 16)) with
    | false => rw [hc] at h; simp at h
    | true =>
      rw [hc] at h
      simp only [if_true] at h ⊢
      simp only [Bool.and_eq_true, decide_eq_true_eq] at h hc
      have hin : 0 ≤ x.elem ∧ x.elem < (k : Int) := by
        have := List.all_eq_true.1 hc.1.1.2 x.elem (by simp)
        simpa using this
      have := Int.mul_nonneg (a := x.many) (b := s.getD x.elem.toNat 0) (by omega) (hs _ (getD_mem (by omega))).1
      omega
  rw [if_neg h5]; simp

theorem sizesL_len {T : List LType} : ∀ {k : Nat} {s : List Int}, sizesL T k = some s → s.length = k ∧ ∀ y ∈ s, 0 ≤ y ∧ y ≤ 1000
  | 0, s, h => by cases h; simp
  | k + 1, s, h => by
    unfold sizesL at h
    cases hk : sizesL T k with
    | none => rw [hk] at h; cases h
    | some s0 =>
      rw [hk] at h
      obtain ⟨h1, h2⟩ := sizesL_len hk
      simp only at h
      split at h
      · cases h
        rename_i hm
        refine ⟨by simp [h1], fun y hy => ?_⟩
        rcases List.mem_append.1 hy with hy | hy
        · exact h2 y hy
        · simp at hy; subst hy; exact mayL_pos h2 h1 hm
      · cases h
theorem sizesL_none {T : List LType} : ∀ {k m : Nat}, sizesL T k = none → k ≤ m → sizesL T m = none
  | k, 0, h, hm => by have : k = 0 := by omega
                      subst this; exact h
  | k, m + 1, h, hm => by
    by_cases e : k = m + 1
    · subst e; exact h
    · unfold sizesL; rw [sizesL_none h (by omega)]

noncomputable def body76_0 : ACode := (.seq (.region [⟨some 13, none, (.bin .lss (.tmp 12) (.tmp 11))⟩]) (.seq (.cond (.tmp 13) .skip (.exit 0)) (.seq (.block 1 (.seq (.region [⟨some 14, none, (.mov (.tmp 12))⟩, ⟨some 4, none, (.mov (.tmp 14))⟩]) (.seq (.region [⟨some 16, none, (.mov (.tmp 0))⟩, ⟨some 17, none, (.mov (.tmp 4))⟩, ⟨some 18, none, (.mov (.tmp 3))⟩, ⟨some 19, none, (.call (.func 88) [(.tmp 16), (.tmp 17), (.tmp 18)])⟩, ⟨some 15, none, (.mov (.tmp 19))⟩, ⟨some 20, none, (.extract (.tmp 15) 0)⟩, ⟨some 21, none, (.extract (.tmp 15) 1)⟩, ⟨some 5, none, (.mov (.tmp 20))⟩, ⟨some 6, none, (.mov (.tmp 21))⟩]) (.seq (.seq (.region [⟨some 22, none, (.mov (.tmp 6))⟩, ⟨some 23, none, (.un .not (.tmp 22))⟩]) (.cond (.tmp 23) (.seq (.region [⟨some 2, none, (.mov (.const (.int .i64 30)))⟩]) .ret) .skip)) (.region [⟨some 24, none, (.mov (.tmp 3))⟩, ⟨some 25, none, (.mov (.tmp 5))⟩, ⟨some 26, none, (.buildSlice 1 1 [(.int .i64 0)] [(0, 1, (.tmp 25))])⟩, ⟨some 27, none, (.append 1 (.tmp 24) (.tmp 26))⟩, ⟨some 3, none, (.mov (.tmp 27))⟩]))))) (.region [⟨some 28, none, (.bin .add (.tmp 12) (.const (.int .i64 1)))⟩, ⟨some 12, none, (.mov (.tmp 28))⟩]))))
noncomputable def body76 : ACode := (.seq (.region [⟨some 2, none, (.mov (.const (.int .i64 0)))⟩]) (.seq (.seq (.region [⟨some 7, none, (.mov (.tmp 0))⟩, ⟨some 8, none, (.len (.tmp 7))⟩, ⟨some 9, none, (.bin .gtr (.tmp 8) (.const (.int .i64 16)))⟩]) (.cond (.tmp 9) (.seq (.region [⟨some 2, none, (.mov (.const (.int .i64 4)))⟩]) .ret) .skip)) (.seq (.region [⟨some 3, none, (.mov (.const (.slice none 0 0)))⟩]) (.seq (.seq (.region [⟨some 10, none, (.mov (.tmp 0))⟩, ⟨some 11, none, (.len (.tmp 10))⟩, ⟨some 12, none, (.mov (.const (.int .i64 0)))⟩]) (.block 0 (.loop body76_0))) (.seq (.region [⟨some 2, none, (.mov (.const (.int .i64 0)))⟩]) .ret)))))
set_option maxRecDepth 100000 in
theorem tab76 : tb.code 76 = some ⟨29, [(2, none)], body76⟩ := by kernel_rfl
theorem check_ok (h : AHeap) (tv : Value) (T : List LType) (st : SlT h tv T) (hT : T.length ≤ 100) (hp : ∀ x ∈ T, x.parts.length ≤ 100) :
    WC Tryd.prog tb 76 [tv] h fun r h' => r = I (checkL T) ∧ Ext h h' := by
  obtain ⟨_, _, _, rfl⟩ := slr_shape st
  refine WC.of (nostub 76) tab76 ?_; simp only [mkTm, Nat.zero_add, Nat.reduceAdd]
  refine go ?_
  refine WX.br (fun hb => ?_) (fun hb => ?_) <;> simp only [DB] at hb <;> refine go ?_
  · refine rt ?_
    refine ⟨?_, Ext.refl h⟩
    unfold checkL; rw [if_pos (by omega)]; rfl
  have hb' : ¬ 16 < T.length := by omega
  refine WX.loopA [13, 14, 4, 16, 17, 18, 19, 15, 20, 21, 5, 6, 22, 23, 2, 24, 25, 26, 27, 3, 28, 12] (by kernel_rfl) (fun i => T.length - i) (fun i t h1 => Ext h h1 ∧ tmGet t 12 = I i ∧ i ≤ T.length ∧ ∃ v s, tmGet t 3 = v ∧ sizesL T i = some s ∧ OwnN h h1 v s) 0 ?_ ?_
  · exact ⟨Ext.refl _, sl_, Nat.zero_le _, _, [], sl_, rfl, .inl ⟨rfl, rfl⟩⟩
  rintro i t h1 hsame ⟨e1, s12, hi, v, s, s3, hs, o⟩
  have st1 := st.ext e1
  obtain ⟨hl, hr⟩ := sizesL_len hs
  refine go ?_
  refine WX.br (fun hc => ?_) (fun hc => ?_) <;> simp only [DB] at hc <;> refine go ?_
  · have hi' : i < T.length := by omega
    refine WO.con (may_ok h1 _ v T i s st1 o.sl hi' hT hp hl hr) ?_
    rintro _ h2 ⟨rfl, e2⟩
    have o2 := o.ext e2
    refine go ?_
    have hst : sizesL T (i + 1) = if (mayL T (T.getD i default) i s).2 then some (s ++ [(mayL T (T.getD i default) i s).1]) else none := by
      conv => lhs; unfold sizesL
      rw [hs]
    refine WX.br (fun hd => ?_) (fun hd => ?_) <;> simp only [DB] at hd <;> refine go ?_
    · refine rt ?_
      refine ⟨?_, e1.trans e2⟩
      rw [hd, if_neg (by simp)] at hst
      unfold checkL; rw [if_neg hb', sizesL_none hst (by omega)]; rfl
    · refine WO.bl [(mayL T (T.getD i default) i s).1] ?_
      intro v3 h3 e3 o3
      refine go ?_
      refine WO.apN (o2.ext e3) o3.sl ((e1.trans e2).trans e3) (by simp; omega) ?_
      intro v4 h4 e4 o4
      refine go ?_
      rw [hd, if_pos rfl] at hst
      exact loopK_normal (i + 1) (by omega) ⟨e4, sln, by omega, _, _, sl_, hst, o4⟩
  · refine rt ?_
    refine ⟨?_, e1⟩
    have : i = T.length := by omega
    subst this
    unfold checkL; rw [if_neg hb', hs]; rfl
end Go.Proofs.YtbhdfhiecgebnaaDoor
