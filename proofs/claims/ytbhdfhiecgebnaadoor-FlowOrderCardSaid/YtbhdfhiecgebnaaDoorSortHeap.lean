/- Lists of numbers sorted: equal ones set apart; turned round; heaps. -/
import Derived.Test.YtbhdfhiecgebnaaDoorSortPart
namespace Go.Proofs.YtbhdfhiecgebnaaDoor
open Go.Am
set_option linter.unusedVariables false
set_option linter.unusedSimpArgs false
set_option maxHeartbeats 400000

noncomputable def body72_0 : ACode := (.seq (.seq (.regionC [(⟨some 29, none, (.mov (.tmp 9))⟩, []), (⟨some 30, none, (.mov (.tmp 10))⟩, []), (⟨some 31, none, (.bin .leq (.tmp 29) (.tmp 30))⟩, []), (⟨some 32, none, (.mov (.tmp 31))⟩, []), (⟨some 33, some (32, true), (.mov (.tmp 0))⟩, []), (⟨some 34, some (32, true), (.mov (.tmp 1))⟩, []), (⟨some 35, some (32, true), (.idx 1 (.tmp 33) (.tmp 34))⟩, []), (⟨some 36, some (32, true), (.load false 1 (.tmp 35))⟩, []), (⟨some 37, some (32, true), (.mov (.tmp 0))⟩, []), (⟨some 38, some (32, true), (.mov (.tmp 9))⟩, []), (⟨some 39, some (32, true), (.idx 1 (.tmp 37) (.tmp 38))⟩, []), (⟨some 40, some (32, true), (.load false 1 (.tmp 39))⟩, []), (⟨some 41, some (32, true), (.call (.func 71) [(.tmp 36), (.tmp 40)])⟩, []), (⟨some 42, some (32, true), (.un .not (.tmp 41))⟩, []), (⟨some 43, none, (.pick (.tmp 32) (.tmp 42) (.const (.bool false)))⟩, [])]) (.cond (.tmp 43) .skip (.exit 2))) (.block 3 (.region [⟨some 44, none, (.mov (.tmp 9))⟩, ⟨some 45, none, (.bin .add (.tmp 44) (.const (.int .i64 1)))⟩, ⟨some 9, none, (.mov (.tmp 45))⟩])))
noncomputable def body72_1 : ACode := (.seq (.seq (.regionC [(⟨some 46, none, (.mov (.tmp 9))⟩, []), (⟨some 47, none, (.mov (.tmp 10))⟩, []), (⟨some 48, none, (.bin .leq (.tmp 46) (.tmp 47))⟩, []), (⟨some 49, none, (.mov (.tmp 48))⟩, []), (⟨some 50, some (49, true), (.mov (.tmp 0))⟩, []), (⟨some 51, some (49, true), (.mov (.tmp 1))⟩, []), (⟨some 52, some (49, true), (.idx 1 (.tmp 50) (.tmp 51))⟩, []), (⟨some 53, some (49, true), (.load false 1 (.tmp 52))⟩, []), (⟨some 54, some (49, true), (.mov (.tmp 0))⟩, []), (⟨some 55, some (49, true), (.mov (.tmp 10))⟩, []), (⟨some 56, some (49, true), (.idx 1 (.tmp 54) (.tmp 55))⟩, []), (⟨some 57, some (49, true), (.load false 1 (.tmp 56))⟩, []), (⟨some 58, some (49, true), (.call (.func 71) [(.tmp 53), (.tmp 57)])⟩, []), (⟨some 59, none, (.pick (.tmp 49) (.tmp 58) (.const (.bool false)))⟩, [])]) (.cond (.tmp 59) .skip (.exit 4))) (.block 5 (.region [⟨some 60, none, (.mov (.tmp 10))⟩, ⟨some 61, none, (.bin .sub (.tmp 60) (.const (.int .i64 1)))⟩, ⟨some 10, none, (.mov (.tmp 61))⟩])))
noncomputable def body72_2 : ACode := (.block 1 (.seq (.block 2 (.loop body72_0)) (.seq (.block 4 (.loop body72_1)) (.seq (.seq (.region [⟨some 62, none, (.mov (.tmp 9))⟩, ⟨some 63, none, (.mov (.tmp 10))⟩, ⟨some 64, none, (.bin .gtr (.tmp 62) (.tmp 63))⟩]) (.cond (.tmp 64) (.exit 0) .skip)) (.seq (.regionC [(⟨some 65, none, (.mov (.tmp 0))⟩, []), (⟨some 66, none, (.mov (.tmp 9))⟩, []), (⟨some 67, none, (.mov (.tmp 0))⟩, []), (⟨some 68, none, (.mov (.tmp 10))⟩, []), (⟨some 69, none, (.mov (.tmp 0))⟩, []), (⟨some 70, none, (.mov (.tmp 10))⟩, []), (⟨some 71, none, (.idx 1 (.tmp 69) (.tmp 70))⟩, []), (⟨some 72, none, (.load false 1 (.tmp 71))⟩, []), (⟨some 73, none, (.mov (.tmp 0))⟩, []), (⟨some 74, none, (.mov (.tmp 9))⟩, []), (⟨some 75, none, (.idx 1 (.tmp 73) (.tmp 74))⟩, []), (⟨some 76, none, (.load false 1 (.tmp 75))⟩, []), (⟨some 77, none, (.idx 1 (.tmp 65) (.tmp 66))⟩, []), (⟨none, none, (.store 1 (.tmp 77) (.tmp 72))⟩, []), (⟨some 78, none, (.idx 1 (.tmp 67) (.tmp 68))⟩, []), (⟨none, none, (.store 1 (.tmp 78) (.tmp 76))⟩, [])]) (.seq (.region [⟨some 79, none, (.mov (.tmp 9))⟩, ⟨some 80, none, (.bin .add (.tmp 79) (.const (.int .i64 1)))⟩, ⟨some 9, none, (.mov (.tmp 80))⟩]) (.region [⟨some 81, none, (.mov (.tmp 10))⟩, ⟨some 82, none, (.bin .sub (.tmp 81) (.const (.int .i64 1)))⟩, ⟨some 10, none, (.mov (.tmp 82))⟩])))))))
noncomputable def body72 : ACode := (.seq (.region [⟨some 8, none, (.mov (.const (.int .i64 0)))⟩]) (.seq (.regionC [(⟨some 11, none, (.mov (.tmp 0))⟩, []), (⟨some 12, none, (.mov (.tmp 1))⟩, []), (⟨some 13, none, (.mov (.tmp 0))⟩, []), (⟨some 14, none, (.mov (.tmp 3))⟩, []), (⟨some 15, none, (.mov (.tmp 0))⟩, []), (⟨some 16, none, (.mov (.tmp 3))⟩, []), (⟨some 17, none, (.idx 1 (.tmp 15) (.tmp 16))⟩, []), (⟨some 18, none, (.load false 1 (.tmp 17))⟩, []), (⟨some 19, none, (.mov (.tmp 0))⟩, []), (⟨some 20, none, (.mov (.tmp 1))⟩, []), (⟨some 21, none, (.idx 1 (.tmp 19) (.tmp 20))⟩, []), (⟨some 22, none, (.load false 1 (.tmp 21))⟩, []), (⟨some 23, none, (.idx 1 (.tmp 11) (.tmp 12))⟩, []), (⟨none, none, (.store 1 (.tmp 23) (.tmp 18))⟩, []), (⟨some 24, none, (.idx 1 (.tmp 13) (.tmp 14))⟩, []), (⟨none, none, (.store 1 (.tmp 24) (.tmp 22))⟩, [])]) (.seq (.region [⟨some 25, none, (.mov (.tmp 1))⟩, ⟨some 26, none, (.bin .add (.tmp 25) (.const (.int .i64 1)))⟩, ⟨some 27, none, (.mov (.tmp 2))⟩, ⟨some 28, none, (.bin .sub (.tmp 27) (.const (.int .i64 1)))⟩, ⟨some 9, none, (.mov (.tmp 26))⟩, ⟨some 10, none, (.mov (.tmp 28))⟩]) (.seq (.block 0 (.loop body72_2)) (.seq (.region [⟨some 83, none, (.mov (.tmp 9))⟩, ⟨some 8, none, (.mov (.tmp 83))⟩]) .ret)))))
set_option maxRecDepth 100000 in
theorem tab72 : tb.code 72 = some ⟨84, [(8, none)], body72⟩ := by kernel_rfl
theorem partEqual_ok (hB h : AHeap) (v : Value) (xs : List Int) (a b pv : Int) (e0 : Ext hB h) (hmB : hB.mark ≤ hB.n) (o : OwnI hB h v xs) (h0 : 0 ≤ a) (hp : a ≤ pv ∧ pv < b) (hb : b ≤ xs.length) (hlen : xs.length ≤ 1000000000) :
    WC Tryd.prog tb 72 [v, I a, I b, I pv] h fun r h' => ∃ ys m, r = I m ∧ SS hB h v a b xs ys h' ∧ (a + 1 ≤ m ∧ m ≤ b) ∧ (∀ k, a ≤ k → k < m → atI ys k ≤ atI xs pv) ∧ (∀ k, m ≤ k → k < b → atI xs pv < atI ys k) := by
  have s0 := SS.start a b o e0
  refine WC.of (nostub 72) tab72 ?_; simp only [mkTm, Nat.zero_add, Nat.reduceAdd]
  refine go ?_
  refine WX.regionU2 0 rfl rfl ?_
  have srX : SlI (inC (asideN 0 h)) v xs := (o).sl
  refine goU ?_
  refine WU2.swA (a) (pv) (s0).own (s0).ext (by rw [(s0).ext.mark]; exact hmB) ?_
  intro h1 e1 o1 u1
  have s1 := s0.swp e1 o1 u1 h0 hb (by omega) (by omega)
  clear o1 e1 u1
  have ha : atI (swp xs a pv) a = atI xs pv := by
    rw [swp_at (by omega) (by omega) (by omega)]
    by_cases e : a = pv
    · rw [if_pos e, e]
    · rw [if_neg e, if_pos rfl]
  generalize swp xs a pv = ys at s1 ha
  generalize atI xs pv = P at ha ⊢
  have hl1 := s1.len
  refine go ?_
  refine WX.loopA [29, 30, 31, 32, 33, 34, 35, 36, 37, 38, 39, 40, 41, 42, 43, 44, 45, 9, 46, 47, 48, 49, 50, 51, 52, 53, 54, 55, 56, 57, 58, 59, 60, 61, 10, 62, 63, 64, 65, 66, 67, 68, 69, 70, 71, 72, 73, 74, 75, 76, 77, 78, 79, 80, 9, 81, 82, 10] (by kernel_rfl) (fun x => (x.2.2 + 1 - x.2.1).toNat) (fun (x : List Int × Int × Int) t h4 => SS hB h v a b xs x.1 h4 ∧ tmGet t 9 = I x.2.1 ∧ tmGet t 10 = I x.2.2 ∧ (a + 1 ≤ x.2.1 ∧ x.2.1 ≤ x.2.2 + 1 ∧ x.2.2 ≤ b - 1) ∧ atI x.1 a = P ∧ (∀ k, a < k → k < x.2.1 → atI x.1 k ≤ P) ∧ ∀ k, x.2.2 < k → k < b → P < atI x.1 k) (ys, a + 1, b - 1) ?_ ?_
  · exact ⟨s1, sl_, sl_, by simp only; omega, ha, fun k h1 h2 => by simp only at h2; omega, fun k h1 h2 => by simp only at h1; omega⟩
  clear s1 ha hl1
  rintro ⟨ws, p, q⟩ t h4 hsame ⟨s4, s9, s10, hpq, ha, hlow, hhigh⟩
  simp only at s4 s9 s10 hpq ha hlow hhigh
  have hl4 := s4.len
  refine go ?_
  refine WX.loopA [29, 30, 31, 32, 33, 34, 35, 36, 37, 38, 39, 40, 41, 42, 43, 44, 45, 9] (by kernel_rfl) (fun i => (b - i).toNat) (fun (i : Int) t h2 => h4 = h2 ∧ tmGet t 9 = I i ∧ (p ≤ i ∧ i ≤ q + 1) ∧ ∀ k, a < k → k < i → atI ws k ≤ P) p ?_ ?_
  · exact ⟨rfl, sl_, by omega, hlow⟩
  rintro i2 t _ hsame ⟨rfl, s9, hi, hlow2⟩
  refine go ?_
  refine WX.cutA [29, 30, 31, 32, 33, 34, 35, 36, 37, 38, 39, 40, 41, 42, 43] (by kernel_rfl) (fun t h' => h4 = h' ∧ tmGet t 43 = .bool (decide (i2 ≤ q ∧ ¬(atI ws a < atI ws i2)))) ?_ ?_
  · refine WX.regionU2 0 rfl rfl ?_
    have srX : SlI (inC (asideN 0 h4)) v ws := (s4.own).sl
    refine goU ?_
    refine WO.sp (fun hd => ?_) (fun hd => ?_) <;> simp only [DB] at hd <;> refine goU ?_
    · refine WO.con (less_ok _ (atI ws a) (atI ws i2)) ?_
      rintro _ _ ⟨rfl, rfl⟩
      refine WO.nil ?_
      refine uK2_q ?_
      refine goU ?_
      exact cutK_normal ⟨rfl, by rw [show decide (i2 ≤ q ∧ ¬(atI ws a < atI ws i2)) = !decide (atI ws a < atI ws i2) from dec_neg hd]; exact sl_⟩
    · exact cutK_normal ⟨rfl, by rw [show decide (i2 ≤ q ∧ ¬(atI ws a < atI ws i2)) = false from decide_eq_false (fun hh => absurd hh.1 (by omega))]; exact sl_⟩
  rintro t5 _ hs5 ⟨rfl, q5⟩
  refine go ?_
  refine WX.br (fun he => ?_) (fun he => ?_) <;> simp only [DB] at he
  · refine go ?_
    refine loopK_normal (i2 + 1) (by omega) ⟨rfl, sl_, by omega, fun k h1 h2 => ?_⟩
    by_cases e : k = i2
    · rw [e]; omega
    · exact hlow2 k h1 (by omega)
  refine go ?_
  refine WX.loopA [46, 47, 48, 49, 50, 51, 52, 53, 54, 55, 56, 57, 58, 59, 60, 61, 10] (by kernel_rfl) (fun j => (j + 1 - a).toNat) (fun (j : Int) t h2 => h4 = h2 ∧ tmGet t 10 = I j ∧ (i2 - 1 ≤ j ∧ j ≤ q) ∧ ∀ k, j < k → k < b → P < atI ws k) q ?_ ?_
  · exact ⟨rfl, sl_, by omega, hhigh⟩
  rintro j2 t _ hsame ⟨rfl, s10, hj, hhigh2⟩
  refine go ?_
  refine WX.cutA [46, 47, 48, 49, 50, 51, 52, 53, 54, 55, 56, 57, 58, 59] (by kernel_rfl) (fun t h' => h4 = h' ∧ tmGet t 59 = .bool (decide (i2 ≤ j2 ∧ (atI ws a < atI ws j2)))) ?_ ?_
  · refine WX.regionU2 0 rfl rfl ?_
    have srX : SlI (inC (asideN 0 h4)) v ws := (s4.own).sl
    refine goU ?_
    refine WO.sp (fun hd => ?_) (fun hd => ?_) <;> simp only [DB] at hd <;> refine goU ?_
    · refine WO.con (less_ok _ (atI ws a) (atI ws j2)) ?_
      rintro _ _ ⟨rfl, rfl⟩
      refine WO.nil ?_
      refine uK2_q ?_
      refine goU ?_
      exact cutK_normal ⟨rfl, by rw [show decide (i2 ≤ j2 ∧ (atI ws a < atI ws j2)) = decide (atI ws a < atI ws j2) from dec_pos hd]; exact sl_⟩
    · exact cutK_normal ⟨rfl, by rw [show decide (i2 ≤ j2 ∧ (atI ws a < atI ws j2)) = false from decide_eq_false (fun hh => absurd hh.1 (by omega))]; exact sl_⟩
  rintro t6 _ hs6 ⟨rfl, q6⟩
  refine go ?_
  refine WX.br (fun hf => ?_) (fun hf => ?_) <;> simp only [DB] at hf
  · refine go ?_
    refine loopK_normal (j2 - 1) (by omega) ⟨rfl, sl_, by omega, fun k h1 h2 => ?_⟩
    by_cases e : k = j2
    · rw [e]; omega
    · exact hhigh2 k (by omega) h2
  refine go ?_
  refine WX.br (fun hg => ?_) (fun hg => ?_) <;> simp only [DB] at hg
  · refine go ?_
    refine rt ?_
    refine ⟨_, _, rfl, s4, by omega, fun k h1 h2 => ?_, fun k h1 h2 => ?_⟩
    · by_cases e : k = a
      · rw [e, ha]; exact Int.le_refl _
      · exact hlow2 k (by omega) h2
    · exact hhigh2 k (by omega) h2
  have hi2 : P < atI ws i2 := by
    rw [← ha]; exact Int.not_le.1 fun hh => he ⟨by omega, hh⟩
  have hj2 : atI ws j2 ≤ P := by
    rw [← ha]; exact Int.not_lt.1 fun hh => hf ⟨by omega, hh⟩
  have hij : i2 ≠ j2 := fun e => by subst e; omega
  refine go ?_
  refine WX.regionU2 0 rfl rfl ?_
  have srX : SlI (inC (asideN 0 h4)) v ws := (s4.own).sl
  refine goU ?_
  refine WU2.swA (i2) (j2) (s4).own (s4).ext (by rw [(s4).ext.mark]; exact hmB) ?_
  intro h3 e3 o3 u3
  have s3 := s4.swp e3 o3 u3 h0 hb (by omega) (by omega)
  refine go ?_
  refine loopK_normal (swp ws i2 j2, i2 + 1, j2 - 1) (by simp only; omega) ⟨s3, sl_, sl_, by simp only; omega, ?_, fun k h1 h2 => ?_, fun k h1 h2 => ?_⟩
  · simp only
    rw [swp_at (by omega) (by omega) (by omega), if_neg (by omega), if_neg (by omega)]; exact ha
  · simp only at h2 ⊢
    rw [swp_at (by omega) (by omega) (by omega), if_neg (by omega)]
    by_cases e : k = i2
    · rw [if_pos e]; exact hj2
    · rw [if_neg e]; exact hlow2 k h1 (by omega)
  · simp only at h1 ⊢
    rw [swp_at (by omega) (by omega) (by omega)]
    by_cases e : k = j2
    · rw [if_pos e]; omega
    · rw [if_neg e, if_neg (by omega)]; exact hhigh2 k (by omega) h2

noncomputable def body69_0 : ACode := (.seq (.seq (.region [⟨some 11, none, (.mov (.tmp 6))⟩, ⟨some 12, none, (.mov (.tmp 7))⟩, ⟨some 13, none, (.bin .lss (.tmp 11) (.tmp 12))⟩]) (.cond (.tmp 13) .skip (.exit 0))) (.block 1 (.seq (.regionC [(⟨some 14, none, (.mov (.tmp 0))⟩, []), (⟨some 15, none, (.mov (.tmp 6))⟩, []), (⟨some 16, none, (.mov (.tmp 0))⟩, []), (⟨some 17, none, (.mov (.tmp 7))⟩, []), (⟨some 18, none, (.mov (.tmp 0))⟩, []), (⟨some 19, none, (.mov (.tmp 7))⟩, []), (⟨some 20, none, (.idx 1 (.tmp 18) (.tmp 19))⟩, []), (⟨some 21, none, (.load false 1 (.tmp 20))⟩, []), (⟨some 22, none, (.mov (.tmp 0))⟩, []), (⟨some 23, none, (.mov (.tmp 6))⟩, []), (⟨some 24, none, (.idx 1 (.tmp 22) (.tmp 23))⟩, []), (⟨some 25, none, (.load false 1 (.tmp 24))⟩, []), (⟨some 26, none, (.idx 1 (.tmp 14) (.tmp 15))⟩, []), (⟨none, none, (.store 1 (.tmp 26) (.tmp 21))⟩, []), (⟨some 27, none, (.idx 1 (.tmp 16) (.tmp 17))⟩, []), (⟨none, none, (.store 1 (.tmp 27) (.tmp 25))⟩, [])]) (.seq (.region [⟨some 28, none, (.mov (.tmp 6))⟩, ⟨some 29, none, (.bin .add (.tmp 28) (.const (.int .i64 1)))⟩, ⟨some 6, none, (.mov (.tmp 29))⟩]) (.region [⟨some 30, none, (.mov (.tmp 7))⟩, ⟨some 31, none, (.bin .sub (.tmp 30) (.const (.int .i64 1)))⟩, ⟨some 7, none, (.mov (.tmp 31))⟩])))))
noncomputable def body69 : ACode := (.seq (.region [⟨some 8, none, (.mov (.tmp 1))⟩, ⟨some 6, none, (.mov (.tmp 8))⟩]) (.seq (.region [⟨some 9, none, (.mov (.tmp 2))⟩, ⟨some 10, none, (.bin .sub (.tmp 9) (.const (.int .i64 1)))⟩, ⟨some 7, none, (.mov (.tmp 10))⟩]) (.block 0 (.loop body69_0))))
set_option maxRecDepth 100000 in
theorem tab69 : tb.code 69 = some ⟨32, [], body69⟩ := by kernel_rfl
theorem reverse_ok (hB h : AHeap) (v : Value) (xs : List Int) (a b : Int) (e0 : Ext hB h) (hmB : hB.mark ≤ hB.n) (o : OwnI hB h v xs) (h0 : 0 ≤ a) (hab : a ≤ b) (hb : b ≤ xs.length) (hlen : xs.length ≤ 1000000000) :
    WC Tryd.prog tb 69 [v, I a, I b] h fun r h' => ∃ ys, SS hB h v a b xs ys h' := by
  have s0 := SS.start a b o e0
  refine WC.of (nostub 69) tab69 ?_; simp only [mkTm, Nat.zero_add, Nat.reduceAdd]
  refine go ?_
  refine WX.loopA [11, 12, 13, 14, 15, 16, 17, 18, 19, 20, 21, 22, 23, 24, 25, 26, 27, 28, 29, 6, 30, 31, 7] (by kernel_rfl) (fun x => (x.2.2 + 1 - x.2.1).toNat) (fun (x : List Int × Int × Int) t h4 => SS hB h v a b xs x.1 h4 ∧ tmGet t 6 = I x.2.1 ∧ tmGet t 7 = I x.2.2 ∧ (a ≤ x.2.1 ∧ x.2.2 ≤ b - 1) ∧ (x.2.1 ≤ b ∧ a - 1 ≤ x.2.2)) (xs, a, b - 1) ?_ ?_
  · exact ⟨s0, sl_, sl_, by simp only; omega, by simp only; omega⟩
  rintro ⟨ws, p, q⟩ t h4 hsame ⟨s4, s6, s7, hpq, hpq2⟩
  simp only at s4 s6 s7 hpq hpq2
  have hl4 := s4.len
  refine go ?_
  refine WX.br (fun he => ?_) (fun he => ?_) <;> simp only [DB] at he
  · refine go ?_
    refine WX.regionU2 0 rfl rfl ?_
    have srX : SlI (inC (asideN 0 h4)) v ws := (s4.own).sl
    refine goU ?_
    refine WU2.swA (p) (q) (s4).own (s4).ext (by rw [(s4).ext.mark]; exact hmB) ?_
    intro h3 e3 o3 u3
    have s3 := s4.swp e3 o3 u3 h0 hb (by omega) (by omega)
    refine go ?_
    exact loopK_normal (swp ws p q, p + 1, q - 1) (by simp only; omega) ⟨s3, sl_, sl_, by simp only; omega, by simp only; omega⟩
  · refine go ?_
    refine rtN ?_
    exact ⟨ws, s4⟩

/-- From a place in a heap to those below it. -/
def Edge (lo hi k c : Int) : Prop := lo ≤ k ∧ (c = 2 * k + 1 ∨ c = 2 * k + 2) ∧ c < hi
def Heapy (first lo hi : Int) (xs : List Int) : Prop := ∀ k c, Edge lo hi k c → atI xs (first + c) ≤ atI xs (first + k)
theorem heap_max {first hi : Int} {xs : List Int} (h : Heapy first 0 hi xs) : ∀ (n : Nat) (k : Int), k = n → k < hi → atI xs (first + k) ≤ atI xs (first + 0) := by
  intro n
  induction n using Nat.strongRecOn with
  | _ n ih =>
    intro k hk hlt
    by_cases e : k = 0
    · rw [e]; exact Int.le_refl _
    · have h1 := h ((k - 1) / 2) k ⟨by omega, by omega, hlt⟩
      have h2 := ih ((k - 1) / 2).toNat (by omega) ((k - 1) / 2) (by omega) (by omega)
      omega

noncomputable def body82_0 : ACode := (.block 1 (.seq (.region [⟨some 11, none, (.mov (.tmp 8))⟩, ⟨some 12, none, (.bin .mul (.const (.int .i64 2)) (.tmp 11))⟩, ⟨some 13, none, (.bin .add (.tmp 12) (.const (.int .i64 1)))⟩, ⟨some 9, none, (.mov (.tmp 13))⟩]) (.seq (.seq (.region [⟨some 14, none, (.mov (.tmp 9))⟩, ⟨some 15, none, (.mov (.tmp 2))⟩, ⟨some 16, none, (.bin .geq (.tmp 14) (.tmp 15))⟩]) (.cond (.tmp 16) (.exit 0) .skip)) (.seq (.seq (.regionC [(⟨some 17, none, (.mov (.tmp 9))⟩, []), (⟨some 18, none, (.bin .add (.tmp 17) (.const (.int .i64 1)))⟩, []), (⟨some 19, none, (.mov (.tmp 2))⟩, []), (⟨some 20, none, (.bin .lss (.tmp 18) (.tmp 19))⟩, []), (⟨some 21, none, (.mov (.tmp 20))⟩, []), (⟨some 22, some (21, true), (.mov (.tmp 0))⟩, []), (⟨some 23, some (21, true), (.mov (.tmp 3))⟩, []), (⟨some 24, some (21, true), (.mov (.tmp 9))⟩, []), (⟨some 25, some (21, true), (.bin .add (.tmp 23) (.tmp 24))⟩, []), (⟨some 26, some (21, true), (.idx 1 (.tmp 22) (.tmp 25))⟩, []), (⟨some 27, some (21, true), (.load false 1 (.tmp 26))⟩, []), (⟨some 28, some (21, true), (.mov (.tmp 0))⟩, []), (⟨some 29, some (21, true), (.mov (.tmp 3))⟩, []), (⟨some 30, some (21, true), (.mov (.tmp 9))⟩, []), (⟨some 31, some (21, true), (.bin .add (.tmp 29) (.tmp 30))⟩, []), (⟨some 32, some (21, true), (.bin .add (.tmp 31) (.const (.int .i64 1)))⟩, []), (⟨some 33, some (21, true), (.idx 1 (.tmp 28) (.tmp 32))⟩, []), (⟨some 34, some (21, true), (.load false 1 (.tmp 33))⟩, []), (⟨some 35, some (21, true), (.call (.func 71) [(.tmp 27), (.tmp 34)])⟩, []), (⟨some 36, none, (.pick (.tmp 21) (.tmp 35) (.const (.bool false)))⟩, [])]) (.cond (.tmp 36) (.region [⟨some 37, none, (.mov (.tmp 9))⟩, ⟨some 38, none, (.bin .add (.tmp 37) (.const (.int .i64 1)))⟩, ⟨some 9, none, (.mov (.tmp 38))⟩]) .skip)) (.seq (.seq (.regionC [(⟨some 39, none, (.mov (.tmp 0))⟩, []), (⟨some 40, none, (.mov (.tmp 3))⟩, []), (⟨some 41, none, (.mov (.tmp 8))⟩, []), (⟨some 42, none, (.bin .add (.tmp 40) (.tmp 41))⟩, []), (⟨some 43, none, (.idx 1 (.tmp 39) (.tmp 42))⟩, []), (⟨some 44, none, (.load false 1 (.tmp 43))⟩, []), (⟨some 45, none, (.mov (.tmp 0))⟩, []), (⟨some 46, none, (.mov (.tmp 3))⟩, []), (⟨some 47, none, (.mov (.tmp 9))⟩, []), (⟨some 48, none, (.bin .add (.tmp 46) (.tmp 47))⟩, []), (⟨some 49, none, (.idx 1 (.tmp 45) (.tmp 48))⟩, []), (⟨some 50, none, (.load false 1 (.tmp 49))⟩, []), (⟨some 51, none, (.call (.func 71) [(.tmp 44), (.tmp 50)])⟩, []), (⟨some 52, none, (.un .not (.tmp 51))⟩, [])]) (.cond (.tmp 52) .ret .skip)) (.seq (.regionC [(⟨some 53, none, (.mov (.tmp 0))⟩, []), (⟨some 54, none, (.mov (.tmp 3))⟩, []), (⟨some 55, none, (.mov (.tmp 8))⟩, []), (⟨some 56, none, (.bin .add (.tmp 54) (.tmp 55))⟩, []), (⟨some 57, none, (.mov (.tmp 0))⟩, []), (⟨some 58, none, (.mov (.tmp 3))⟩, []), (⟨some 59, none, (.mov (.tmp 9))⟩, []), (⟨some 60, none, (.bin .add (.tmp 58) (.tmp 59))⟩, []), (⟨some 61, none, (.mov (.tmp 0))⟩, []), (⟨some 62, none, (.mov (.tmp 3))⟩, []), (⟨some 63, none, (.mov (.tmp 9))⟩, []), (⟨some 64, none, (.bin .add (.tmp 62) (.tmp 63))⟩, []), (⟨some 65, none, (.idx 1 (.tmp 61) (.tmp 64))⟩, []), (⟨some 66, none, (.load false 1 (.tmp 65))⟩, []), (⟨some 67, none, (.mov (.tmp 0))⟩, []), (⟨some 68, none, (.mov (.tmp 3))⟩, []), (⟨some 69, none, (.mov (.tmp 8))⟩, []), (⟨some 70, none, (.bin .add (.tmp 68) (.tmp 69))⟩, []), (⟨some 71, none, (.idx 1 (.tmp 67) (.tmp 70))⟩, []), (⟨some 72, none, (.load false 1 (.tmp 71))⟩, []), (⟨some 73, none, (.idx 1 (.tmp 53) (.tmp 56))⟩, []), (⟨none, none, (.store 1 (.tmp 73) (.tmp 66))⟩, []), (⟨some 74, none, (.idx 1 (.tmp 57) (.tmp 60))⟩, []), (⟨none, none, (.store 1 (.tmp 74) (.tmp 72))⟩, [])]) (.region [⟨some 75, none, (.mov (.tmp 9))⟩, ⟨some 8, none, (.mov (.tmp 75))⟩])))))))
noncomputable def body82 : ACode := (.seq (.region [⟨some 10, none, (.mov (.tmp 1))⟩, ⟨some 8, none, (.mov (.tmp 10))⟩]) (.block 0 (.loop body82_0)))
set_option maxRecDepth 100000 in
theorem tab82 : tb.code 82 = some ⟨76, [], body82⟩ := by kernel_rfl
theorem sift_ok (hB h : AHeap) (v : Value) (xs : List Int) (lo hi first : Int) (e0 : Ext hB h) (hmB : hB.mark ≤ hB.n) (o : OwnI hB h v xs) (h0 : 0 ≤ lo) (hlo : lo ≤ 1000000000) (hf : 0 ≤ first) (hb : first + hi ≤ xs.length) (hlen : xs.length ≤ 1000000000) (hh : Heapy first (lo + 1) hi xs) :
    WC Tryd.prog tb 82 [v, I lo, I hi, I first] h fun r h' => ∃ ys, SS hB h v (first + lo) (first + hi) xs ys h' ∧ Heapy first lo hi ys := by
  have s0 := SS.start (first + lo) (first + hi) o e0
  refine WC.of (nostub 82) tab82 ?_; simp only [mkTm, Nat.zero_add, Nat.reduceAdd]
  refine go ?_
  refine WX.loopA [11, 12, 13, 9, 14, 15, 16, 17, 18, 19, 20, 21, 22, 23, 24, 25, 26, 27, 28, 29, 30, 31, 32, 33, 34, 35, 36, 37, 38, 9, 39, 40, 41, 42, 43, 44, 45, 46, 47, 48, 49, 50, 51, 52, 53, 54, 55, 56, 57, 58, 59, 60, 61, 62, 63, 64, 65, 66, 67, 68, 69, 70, 71, 72, 73, 74, 75, 8] (by kernel_rfl) (fun x => (hi + 1 - x.2).toNat) (fun (x : List Int × Int) t h4 => SS hB h v (first + lo) (first + hi) xs x.1 h4 ∧ tmGet t 8 = I x.2 ∧ (lo ≤ x.2 ∧ (x.2 = lo ∨ x.2 < hi)) ∧ (∀ k c, Edge lo hi k c → k ≠ x.2 → atI x.1 (first + c) ≤ atI x.1 (first + k)) ∧ ∀ k c, Edge lo hi k x.2 → Edge lo hi x.2 c → atI x.1 (first + c) ≤ atI x.1 (first + k)) (xs, lo) ?_ ?_
  · refine ⟨s0, sl_, ⟨Int.le_refl _, .inl rfl⟩, fun k c hk hne => hh k c ⟨by have := hk.1; simp only at hne; omega, hk.2⟩, fun k c h1 h2 => ?_⟩
    obtain ⟨a1, a2, a3⟩ := h1; simp only at a2; omega
  rintro ⟨ws, r⟩ t h4 hsame ⟨s4, s8, hr, i1, i2⟩
  simp only at s4 s8 hr i1 i2
  have hl4 := s4.len
  refine go ?_
  refine WX.br (fun he => ?_) (fun he => ?_) <;> simp only [DB] at he
  · refine go ?_
    refine rtN ?_
    refine ⟨ws, s4, fun k c hk => ?_⟩
    by_cases e : k = r
    · obtain ⟨a1, a2, a3⟩ := hk; subst e; omega
    · exact i1 k c hk e
  refine go ?_
  refine WX.cutA [17, 18, 19, 20, 21, 22, 23, 24, 25, 26, 27, 28, 29, 30, 31, 32, 33, 34, 35, 36] (by kernel_rfl) (fun t h' => h4 = h' ∧ tmGet t 36 = .bool (decide (2 * r + 1 + 1 < hi ∧ (atI ws (first + (2 * r + 1)) < atI ws (first + (2 * r + 1) + 1))))) ?_ ?_
  · refine WX.regionU2 0 rfl rfl ?_
    have srX : SlI (inC (asideN 0 h4)) v ws := (s4.own).sl
    refine goU ?_
    refine WO.sp (fun hd => ?_) (fun hd => ?_) <;> simp only [DB] at hd <;> refine goU ?_
    · refine WO.con (less_ok _ (atI ws (first + (2 * r + 1))) (atI ws (first + (2 * r + 1) + 1))) ?_
      rintro _ _ ⟨rfl, rfl⟩
      refine WO.nil ?_
      refine uK2_q ?_
      refine goU ?_
      exact cutK_normal ⟨rfl, by rw [show decide (2 * r + 1 + 1 < hi ∧ (atI ws (first + (2 * r + 1)) < atI ws (first + (2 * r + 1) + 1))) = decide (atI ws (first + (2 * r + 1)) < atI ws (first + (2 * r + 1) + 1)) from dec_pos hd]; exact sl_⟩
    · exact cutK_normal ⟨rfl, by rw [show decide (2 * r + 1 + 1 < hi ∧ (atI ws (first + (2 * r + 1)) < atI ws (first + (2 * r + 1) + 1))) = false from decide_eq_false (fun hh => absurd hh.1 (by omega))]; exact sl_⟩
  rintro t5 _ hs5 ⟨rfl, q5⟩
  have hcut : ∀ c : Int, (c = 2 * r + 1 ∨ c = 2 * r + 2) → c < hi → (∀ d, Edge lo hi r d → atI ws (first + d) ≤ atI ws (first + c)) → ∀ (t : Trie Value) (K : AExit → AFr → AHeap → Prop), True := fun _ _ _ _ _ _ => trivial
  refine go ?_
  refine WX.cutA [37, 38, 9] (by kernel_rfl) (fun t h' => h4 = h' ∧ ∃ c : Int, tmGet t 9 = I c ∧ (c = 2 * r + 1 ∨ c = 2 * r + 2) ∧ c < hi ∧ ∀ d, Edge lo hi r d → atI ws (first + d) ≤ atI ws (first + c)) ?_ ?_
  · refine WX.br (fun hg => ?_) (fun hg => ?_) <;> simp only [DB] at hg <;> refine go ?_
    · refine cutK_normal ⟨rfl, 2 * r + 1 + 1, sl_, by omega, by omega, fun d hd => ?_⟩
      obtain ⟨_, a2, _⟩ := hd
      have e1 : first + (2 * r + 1) + 1 = first + (2 * r + 1 + 1) := by omega
      rw [e1] at hg
      rcases a2 with rfl | rfl
      · omega
      · have : first + (2 * r + 2) = first + (2 * r + 1 + 1) := by omega
        rw [this]; exact Int.le_refl _
    · refine cutK_normal ⟨rfl, 2 * r + 1, sl_, by omega, by omega, fun d hd => ?_⟩
      obtain ⟨_, a2, a3⟩ := hd
      rcases a2 with rfl | rfl
      · exact Int.le_refl _
      · have e1 : first + (2 * r + 1) + 1 = first + (2 * r + 2) := by omega
        rw [e1] at hg
        exact Int.not_lt.1 fun hh => hg ⟨by omega, hh⟩
  clear hcut
  rintro t7 _ hs7 ⟨rfl, c, q7, hc, hc2, hmax⟩
  refine go ?_
  refine WX.regionU2 0 rfl rfl ?_
  have srX : SlI (inC (asideN 0 h4)) v ws := (s4.own).sl
  refine goU ?_
  refine WO.con (less_ok _ (atI ws (first + r)) (atI ws (first + c))) ?_
  rintro _ _ ⟨rfl, rfl⟩
  refine WO.nil ?_
  refine uK2_q ?_
  refine goU ?_
  rw [out_self]
  refine WX.br (fun hg => ?_) (fun hg => ?_) <;> simp only [DB] at hg
  · refine go ?_
    refine rt ?_
    refine ⟨ws, s4, fun k d hk => ?_⟩
    by_cases e : k = r
    · subst e; have := hmax d hk; omega
    · exact i1 k d hk e
  refine go ?_
  refine WX.regionU2 0 rfl rfl ?_
  have srX : SlI (inC (asideN 0 h4)) v ws := (s4.own).sl
  refine goU ?_
  refine WU2.swA (first + r) (first + c) (s4).own (s4).ext (by rw [(s4).ext.mark]; exact hmB) ?_
  intro h3 e3 o3 u3
  have s3 := s4.swp e3 o3 u3 (by omega) hb (by omega) (by omega)
  refine go ?_
  have hat : ∀ k, 0 ≤ k → atI (swp ws (first + r) (first + c)) (first + k) = if k = c then atI ws (first + r) else if k = r then atI ws (first + c) else atI ws (first + k) := by
    intro k hk
    rw [swp_at (by omega) (by omega) (by omega)]
    have e1 : (first + k = first + c) ↔ k = c := by omega
    have e2 : (first + k = first + r) ↔ k = r := by omega
    simp only [e1, e2]
  refine loopK_normal (swp ws (first + r) (first + c), c) (by simp only; omega) ⟨s3, sl_, by simp only; omega, fun k d hk hne => ?_, fun k d hk hd => ?_⟩
  · simp only at hne ⊢
    have hk' := hk
    obtain ⟨a1, a2, a3⟩ := hk'
    rw [hat d (by omega), hat k (by omega), if_neg hne]
    by_cases e : k = r
    · rw [if_pos e]
      subst e
      by_cases e2 : d = c
      · rw [if_pos e2]; omega
      · rw [if_neg e2, if_neg (by omega)]; exact hmax d hk
    · rw [if_neg e, if_neg (by omega : ¬ d = c)]
      by_cases e2 : d = r
      · rw [if_pos e2]; subst e2; exact i2 k c hk ⟨hr.1, hc, hc2⟩
      · rw [if_neg e2]; exact i1 k d hk e
  · simp only at hk hd ⊢
    obtain ⟨a1, a2, a3⟩ := hk
    have ek : k = r := by omega
    have hd' := hd
    obtain ⟨b1, b2, b3⟩ := hd'
    rw [hat d (by omega), hat k (by omega), if_neg (by omega), if_neg (by omega), if_neg (by omega), if_pos ek]
    exact i1 c d hd (by omega)

noncomputable def body66_0 : ACode := (.seq (.seq (.region [⟨some 18, none, (.mov (.tmp 9))⟩, ⟨some 19, none, (.bin .geq (.tmp 18) (.const (.int .i64 0)))⟩]) (.cond (.tmp 19) .skip (.exit 0))) (.seq (.block 1 (.region [⟨some 22, none, (.mov (.tmp 0))⟩, ⟨some 23, none, (.mov (.tmp 9))⟩, ⟨some 24, none, (.mov (.tmp 8))⟩, ⟨some 25, none, (.mov (.tmp 6))⟩, ⟨some 26, none, (.call (.func 82) [(.tmp 22), (.tmp 23), (.tmp 24), (.tmp 25)])⟩])) (.region [⟨some 20, none, (.mov (.tmp 9))⟩, ⟨some 21, none, (.bin .sub (.tmp 20) (.const (.int .i64 1)))⟩, ⟨some 9, none, (.mov (.tmp 21))⟩])))
noncomputable def body66_1 : ACode := (.seq (.seq (.region [⟨some 29, none, (.mov (.tmp 10))⟩, ⟨some 30, none, (.bin .geq (.tmp 29) (.const (.int .i64 0)))⟩]) (.cond (.tmp 30) .skip (.exit 2))) (.seq (.block 3 (.seq (.regionC [(⟨some 33, none, (.mov (.tmp 0))⟩, []), (⟨some 34, none, (.mov (.tmp 6))⟩, []), (⟨some 35, none, (.mov (.tmp 0))⟩, []), (⟨some 36, none, (.mov (.tmp 6))⟩, []), (⟨some 37, none, (.mov (.tmp 10))⟩, []), (⟨some 38, none, (.bin .add (.tmp 36) (.tmp 37))⟩, []), (⟨some 39, none, (.mov (.tmp 0))⟩, []), (⟨some 40, none, (.mov (.tmp 6))⟩, []), (⟨some 41, none, (.mov (.tmp 10))⟩, []), (⟨some 42, none, (.bin .add (.tmp 40) (.tmp 41))⟩, []), (⟨some 43, none, (.idx 1 (.tmp 39) (.tmp 42))⟩, []), (⟨some 44, none, (.load false 1 (.tmp 43))⟩, []), (⟨some 45, none, (.mov (.tmp 0))⟩, []), (⟨some 46, none, (.mov (.tmp 6))⟩, []), (⟨some 47, none, (.idx 1 (.tmp 45) (.tmp 46))⟩, []), (⟨some 48, none, (.load false 1 (.tmp 47))⟩, []), (⟨some 49, none, (.idx 1 (.tmp 33) (.tmp 34))⟩, []), (⟨none, none, (.store 1 (.tmp 49) (.tmp 44))⟩, []), (⟨some 50, none, (.idx 1 (.tmp 35) (.tmp 38))⟩, []), (⟨none, none, (.store 1 (.tmp 50) (.tmp 48))⟩, [])]) (.region [⟨some 51, none, (.mov (.tmp 0))⟩, ⟨some 52, none, (.mov (.tmp 7))⟩, ⟨some 53, none, (.mov (.tmp 10))⟩, ⟨some 54, none, (.mov (.tmp 6))⟩, ⟨some 55, none, (.call (.func 82) [(.tmp 51), (.tmp 52), (.tmp 53), (.tmp 54)])⟩]))) (.region [⟨some 31, none, (.mov (.tmp 10))⟩, ⟨some 32, none, (.bin .sub (.tmp 31) (.const (.int .i64 1)))⟩, ⟨some 10, none, (.mov (.tmp 32))⟩])))
noncomputable def body66 : ACode := (.seq (.region [⟨some 11, none, (.mov (.tmp 1))⟩, ⟨some 6, none, (.mov (.tmp 11))⟩]) (.seq (.region [⟨some 7, none, (.mov (.const (.int .i64 0)))⟩]) (.seq (.region [⟨some 12, none, (.mov (.tmp 2))⟩, ⟨some 13, none, (.mov (.tmp 1))⟩, ⟨some 14, none, (.bin .sub (.tmp 12) (.tmp 13))⟩, ⟨some 8, none, (.mov (.tmp 14))⟩]) (.seq (.seq (.region [⟨some 15, none, (.mov (.tmp 8))⟩, ⟨some 16, none, (.bin .sub (.tmp 15) (.const (.int .i64 1)))⟩, ⟨some 17, none, (.bin .quo (.tmp 16) (.const (.int .i64 2)))⟩, ⟨some 9, none, (.mov (.tmp 17))⟩]) (.block 0 (.loop body66_0))) (.seq (.region [⟨some 27, none, (.mov (.tmp 8))⟩, ⟨some 28, none, (.bin .sub (.tmp 27) (.const (.int .i64 1)))⟩, ⟨some 10, none, (.mov (.tmp 28))⟩]) (.block 2 (.loop body66_1)))))))
set_option maxRecDepth 100000 in
theorem tab66 : tb.code 66 = some ⟨56, [], body66⟩ := by kernel_rfl
theorem heap_ok (hB h : AHeap) (v : Value) (xs : List Int) (a b : Int) (e0 : Ext hB h) (hmB : hB.mark ≤ hB.n) (o : OwnI hB h v xs) (h0 : 0 ≤ a) (hab : a ≤ b) (hb : b ≤ xs.length) (hlen : xs.length ≤ 1000000000) :
    WC Tryd.prog tb 66 [v, I a, I b] h fun r h' => ∃ ys, SS hB h v a b xs ys h' ∧ Srt a b ys := by
  have s0 := SS.start a b o e0
  refine WC.of (nostub 66) tab66 ?_; simp only [mkTm, Nat.zero_add, Nat.reduceAdd]
  have hq : (b - a - 1).tdiv 2 ≤ b - a ∧ 0 ≤ (b - a - 1).tdiv 2 ∧ b - a - 2 ≤ 2 * (b - a - 1).tdiv 2 := by
    by_cases e : b - a = 0
    · rw [e]; decide
    · rw [Int.tdiv_eq_ediv_of_nonneg (by omega)]; omega
  refine go ?_
  refine WO.quo (a := b - a - 1) (c := 2) (by decide) (by omega) (by omega) ?_
  refine go ?_
  refine WX.loopA [18, 19, 22, 23, 24, 25, 26, 20, 21, 9] (by kernel_rfl) (fun x => (x.2 + 1).toNat) (fun (x : List Int × Int) t h4 => SS hB h v a b xs x.1 h4 ∧ tmGet t 9 = I x.2 ∧ (-1 ≤ x.2 ∧ x.2 ≤ b - a) ∧ Heapy a (x.2 + 1) (b - a) x.1) (xs, (b - a - 1).tdiv 2) ?_ ?_
  · refine ⟨s0, sl_, by simp only; omega, fun k c hk => ?_⟩
    obtain ⟨a1, a2, a3⟩ := hk
    simp only at a1; omega
  rintro ⟨ws, i⟩ t h4 hsame ⟨s4, s9, hi, hh⟩
  simp only at s4 s9 hi hh
  have hl4 := s4.len
  refine go ?_
  refine WX.br (fun he => ?_) (fun he => ?_) <;> simp only [DB] at he
  · refine go ?_
    refine WO.con (sift_ok hB h4 v ws i (b - a) a s4.ext hmB s4.own (by omega) (by omega) h0 (by omega) (by omega) hh) ?_
    rintro _ h5 ⟨ys, s5, hh5⟩
    refine go ?_
    exact loopK_normal (ys, i - 1) (by simp only; omega) ⟨s4.call s5 (by omega) (by omega), sl_, by simp only; omega, by simp only; rw [show i - 1 + 1 = i by omega]; exact hh5⟩
  have hi1 : i = -1 := by omega
  subst hi1
  refine go ?_
  have hh0 : Heapy a 0 (b - a - 1 + 1) ws := by rw [show b - a - 1 + 1 = b - a by omega]; exact hh
  clear hh s9 he hi
  refine WX.loopA [29, 30, 33, 34, 35, 36, 37, 38, 39, 40, 41, 42, 43, 44, 45, 46, 47, 48, 49, 50, 51, 52, 53, 54, 55, 31, 32, 10] (by kernel_rfl) (fun x => (x.2 + 1).toNat) (fun (x : List Int × Int) t h5 => SS hB h v a b xs x.1 h5 ∧ tmGet t 10 = I x.2 ∧ (-1 ≤ x.2 ∧ x.2 ≤ b - a - 1) ∧ Heapy a 0 (x.2 + 1) x.1 ∧ Srt (a + x.2 + 1) b x.1 ∧ ∀ p q, a ≤ p → p ≤ a + x.2 → a + x.2 < q → q < b → atI x.1 p ≤ atI x.1 q) (ws, b - a - 1) ?_ ?_
  · exact ⟨s4, sl_, by simp only; omega, hh0, Srt.small (by simp only; omega), fun p q h1 h2 h3 h4 => by simp only at h3; omega⟩
  clear hh0 s4 hl4
  rintro ⟨zs, i⟩ t h4 hsame ⟨s4, s10, hi, hh, hs, hl⟩
  simp only at s4 s10 hi hh hs hl
  have hl4 := s4.len
  refine go ?_
  refine WX.br (fun he => ?_) (fun he => ?_) <;> simp only [DB] at he
  · refine go ?_
    refine WX.regionU2 0 rfl rfl ?_
    have srX : SlI (inC (asideN 0 h4)) v zs := (s4.own).sl
    refine goU ?_
    refine WU2.swA (a) (a + i) (s4).own (s4).ext (by rw [(s4).ext.mark]; exact hmB) ?_
    intro h3 e3 o3 u3
    have s3 := s4.swp e3 o3 u3 (by omega) hb (by omega) (by omega)
    have hat : ∀ k, 0 ≤ k → atI (swp zs a (a + i)) (a + k) = if k = i then atI zs (a + 0) else if k = 0 then atI zs (a + i) else atI zs (a + k) := by
      intro k hk
      rw [swp_at (by omega) (by omega) (by omega)]
      have e1 : (a + k = a + i) ↔ k = i := by omega
      have e2 : (a + k = a) ↔ k = 0 := by omega
      have e3 : a + 0 = a := by omega
      simp only [e1, e2, e3]
    have hmax : ∀ k, 0 ≤ k → k ≤ i → atI zs (a + k) ≤ atI zs (a + 0) := fun k h1 h2 => heap_max hh k.toNat k (by omega) (by omega)
    refine go ?_
    refine WO.con (sift_ok hB h3 v _ 0 i a s3.ext hmB s3.own (by omega) (by omega) h0 (by rw [s3.len]; omega) (by rw [s3.len]; omega) (fun k c hk => ?_)) ?_
    · obtain ⟨a1, a2, a3⟩ := hk
      rw [hat c (by omega), hat k (by omega), if_neg (by omega), if_neg (by omega), if_neg (by omega), if_neg (by omega)]
      exact hh k c ⟨by omega, a2, by omega⟩
    rintro _ h5 ⟨ys, s5, hh5⟩
    have p5 := s5.pi
    have out : ∀ k, i ≤ k → atI ys (a + k) = atI (swp zs a (a + i)) (a + k) := fun k hk => p5.out _ (by omega) (.inr (by omega))
    have low : ∀ k, a + 0 ≤ k → k < a + i → atI ys k ≤ atI zs (a + 0) := p5.all (p := fun x => x ≤ atI zs (a + 0)) (by omega) (by rw [s3.len]; omega) (fun k h1 h2 => by
      have := hat (k - a) (by omega)
      rw [show a + (k - a) = k by omega] at this
      rw [this, if_neg (by omega)]
      by_cases e : k - a = 0
      · rw [if_pos e]; exact hmax i (by omega) (by omega)
      · rw [if_neg e]; have := hmax (k - a) (by omega) (by omega); rw [show a + (k - a) = k by omega] at this; exact this)
    have top : atI ys (a + i) = atI zs (a + 0) := by rw [out i (Int.le_refl _), hat i (by omega), if_pos rfl]
    have rest : ∀ k, a + i < k → atI ys k = atI zs k := fun k hk => by
      have h1 := out (k - a) (by omega)
      rw [hat (k - a) (by omega), if_neg (by omega), if_neg (by omega), show a + (k - a) = k by omega] at h1
      exact h1
    refine go ?_
    refine loopK_normal (ys, i - 1) (by simp only; omega) ⟨s3.call s5 (by omega) (by omega), sl_, by simp only; omega, by simp only; rw [show i - 1 + 1 = i by omega]; exact hh5, fun p q h1 h2 h3 => ?_, fun p q h1 h2 h3 h4 => ?_⟩
    · simp only at h1 ⊢
      by_cases ep : p = a + i
      · by_cases eq : q = a + i
        · rw [ep, eq]; exact Int.le_refl _
        · rw [ep, top, rest q (by omega)]; exact hl (a + 0) q (by omega) (by omega) (by omega) h3
      · rw [rest p (by omega), rest q (by omega)]; exact hs p q (by omega) h2 h3
    · simp only at h2 h3 ⊢
      have hp := low p (by omega) (by omega)
      by_cases eq : q = a + i
      · rw [eq, top]; exact hp
      · rw [rest q (by omega)]; have := hl (a + 0) q (by omega) (by omega) (by omega) h4; omega
  · refine go ?_
    refine rtN ?_
    have hi1 : i = -1 := by omega
    subst hi1
    exact ⟨zs, s4, fun p q h1 h2 h3 => hs p q (by omega) h2 h3⟩
end Go.Proofs.YtbhdfhiecgebnaaDoor
