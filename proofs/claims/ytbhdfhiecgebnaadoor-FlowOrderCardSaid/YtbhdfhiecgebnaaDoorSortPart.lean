/- Lists of numbers sorted: parting. -/
import Derived.Test.YtbhdfhiecgebnaaDoorSortWalk
namespace Go.Proofs.YtbhdfhiecgebnaaDoor
open Go.Am
set_option linter.unusedVariables false
set_option linter.unusedSimpArgs false
set_option maxHeartbeats 400000

noncomputable def body73_0 : ACode := (.seq (.seq (.regionC [(⟨some 30, none, (.mov (.tmp 10))⟩, []), (⟨some 31, none, (.mov (.tmp 11))⟩, []), (⟨some 32, none, (.bin .leq (.tmp 30) (.tmp 31))⟩, []), (⟨some 33, none, (.mov (.tmp 32))⟩, []), (⟨some 34, some (33, true), (.mov (.tmp 0))⟩, []), (⟨some 35, some (33, true), (.mov (.tmp 10))⟩, []), (⟨some 36, some (33, true), (.idx 1 (.tmp 34) (.tmp 35))⟩, []), (⟨some 37, some (33, true), (.load false 1 (.tmp 36))⟩, []), (⟨some 38, some (33, true), (.mov (.tmp 0))⟩, []), (⟨some 39, some (33, true), (.mov (.tmp 1))⟩, []), (⟨some 40, some (33, true), (.idx 1 (.tmp 38) (.tmp 39))⟩, []), (⟨some 41, some (33, true), (.load false 1 (.tmp 40))⟩, []), (⟨some 42, some (33, true), (.call (.func 71) [(.tmp 37), (.tmp 41)])⟩, []), (⟨some 43, none, (.pick (.tmp 33) (.tmp 42) (.const (.bool false)))⟩, [])]) (.cond (.tmp 43) .skip (.exit 0))) (.block 1 (.region [⟨some 44, none, (.mov (.tmp 10))⟩, ⟨some 45, none, (.bin .add (.tmp 44) (.const (.int .i64 1)))⟩, ⟨some 10, none, (.mov (.tmp 45))⟩])))
noncomputable def body73_1 : ACode := (.seq (.seq (.regionC [(⟨some 46, none, (.mov (.tmp 10))⟩, []), (⟨some 47, none, (.mov (.tmp 11))⟩, []), (⟨some 48, none, (.bin .leq (.tmp 46) (.tmp 47))⟩, []), (⟨some 49, none, (.mov (.tmp 48))⟩, []), (⟨some 50, some (49, true), (.mov (.tmp 0))⟩, []), (⟨some 51, some (49, true), (.mov (.tmp 11))⟩, []), (⟨some 52, some (49, true), (.idx 1 (.tmp 50) (.tmp 51))⟩, []), (⟨some 53, some (49, true), (.load false 1 (.tmp 52))⟩, []), (⟨some 54, some (49, true), (.mov (.tmp 0))⟩, []), (⟨some 55, some (49, true), (.mov (.tmp 1))⟩, []), (⟨some 56, some (49, true), (.idx 1 (.tmp 54) (.tmp 55))⟩, []), (⟨some 57, some (49, true), (.load false 1 (.tmp 56))⟩, []), (⟨some 58, some (49, true), (.call (.func 71) [(.tmp 53), (.tmp 57)])⟩, []), (⟨some 59, some (49, true), (.un .not (.tmp 58))⟩, []), (⟨some 60, none, (.pick (.tmp 49) (.tmp 59) (.const (.bool false)))⟩, [])]) (.cond (.tmp 60) .skip (.exit 2))) (.block 3 (.region [⟨some 61, none, (.mov (.tmp 11))⟩, ⟨some 62, none, (.bin .sub (.tmp 61) (.const (.int .i64 1)))⟩, ⟨some 11, none, (.mov (.tmp 62))⟩])))
noncomputable def body73_2 : ACode := (.seq (.seq (.regionC [(⟨some 99, none, (.mov (.tmp 10))⟩, []), (⟨some 100, none, (.mov (.tmp 11))⟩, []), (⟨some 101, none, (.bin .leq (.tmp 99) (.tmp 100))⟩, []), (⟨some 102, none, (.mov (.tmp 101))⟩, []), (⟨some 103, some (102, true), (.mov (.tmp 0))⟩, []), (⟨some 104, some (102, true), (.mov (.tmp 10))⟩, []), (⟨some 105, some (102, true), (.idx 1 (.tmp 103) (.tmp 104))⟩, []), (⟨some 106, some (102, true), (.load false 1 (.tmp 105))⟩, []), (⟨some 107, some (102, true), (.mov (.tmp 0))⟩, []), (⟨some 108, some (102, true), (.mov (.tmp 1))⟩, []), (⟨some 109, some (102, true), (.idx 1 (.tmp 107) (.tmp 108))⟩, []), (⟨some 110, some (102, true), (.load false 1 (.tmp 109))⟩, []), (⟨some 111, some (102, true), (.call (.func 71) [(.tmp 106), (.tmp 110)])⟩, []), (⟨some 112, none, (.pick (.tmp 102) (.tmp 111) (.const (.bool false)))⟩, [])]) (.cond (.tmp 112) .skip (.exit 6))) (.block 7 (.region [⟨some 113, none, (.mov (.tmp 10))⟩, ⟨some 114, none, (.bin .add (.tmp 113) (.const (.int .i64 1)))⟩, ⟨some 10, none, (.mov (.tmp 114))⟩])))
noncomputable def body73_3 : ACode := (.seq (.seq (.regionC [(⟨some 115, none, (.mov (.tmp 10))⟩, []), (⟨some 116, none, (.mov (.tmp 11))⟩, []), (⟨some 117, none, (.bin .leq (.tmp 115) (.tmp 116))⟩, []), (⟨some 118, none, (.mov (.tmp 117))⟩, []), (⟨some 119, some (118, true), (.mov (.tmp 0))⟩, []), (⟨some 120, some (118, true), (.mov (.tmp 11))⟩, []), (⟨some 121, some (118, true), (.idx 1 (.tmp 119) (.tmp 120))⟩, []), (⟨some 122, some (118, true), (.load false 1 (.tmp 121))⟩, []), (⟨some 123, some (118, true), (.mov (.tmp 0))⟩, []), (⟨some 124, some (118, true), (.mov (.tmp 1))⟩, []), (⟨some 125, some (118, true), (.idx 1 (.tmp 123) (.tmp 124))⟩, []), (⟨some 126, some (118, true), (.load false 1 (.tmp 125))⟩, []), (⟨some 127, some (118, true), (.call (.func 71) [(.tmp 122), (.tmp 126)])⟩, []), (⟨some 128, some (118, true), (.un .not (.tmp 127))⟩, []), (⟨some 129, none, (.pick (.tmp 118) (.tmp 128) (.const (.bool false)))⟩, [])]) (.cond (.tmp 129) .skip (.exit 8))) (.block 9 (.region [⟨some 130, none, (.mov (.tmp 11))⟩, ⟨some 131, none, (.bin .sub (.tmp 130) (.const (.int .i64 1)))⟩, ⟨some 11, none, (.mov (.tmp 131))⟩])))
noncomputable def body73_4 : ACode := (.block 5 (.seq (.block 6 (.loop body73_2)) (.seq (.block 8 (.loop body73_3)) (.seq (.seq (.region [⟨some 132, none, (.mov (.tmp 10))⟩, ⟨some 133, none, (.mov (.tmp 11))⟩, ⟨some 134, none, (.bin .gtr (.tmp 132) (.tmp 133))⟩]) (.cond (.tmp 134) (.exit 4) .skip)) (.seq (.regionC [(⟨some 135, none, (.mov (.tmp 0))⟩, []), (⟨some 136, none, (.mov (.tmp 10))⟩, []), (⟨some 137, none, (.mov (.tmp 0))⟩, []), (⟨some 138, none, (.mov (.tmp 11))⟩, []), (⟨some 139, none, (.mov (.tmp 0))⟩, []), (⟨some 140, none, (.mov (.tmp 11))⟩, []), (⟨some 141, none, (.idx 1 (.tmp 139) (.tmp 140))⟩, []), (⟨some 142, none, (.load false 1 (.tmp 141))⟩, []), (⟨some 143, none, (.mov (.tmp 0))⟩, []), (⟨some 144, none, (.mov (.tmp 10))⟩, []), (⟨some 145, none, (.idx 1 (.tmp 143) (.tmp 144))⟩, []), (⟨some 146, none, (.load false 1 (.tmp 145))⟩, []), (⟨some 147, none, (.idx 1 (.tmp 135) (.tmp 136))⟩, []), (⟨none, none, (.store 1 (.tmp 147) (.tmp 142))⟩, []), (⟨some 148, none, (.idx 1 (.tmp 137) (.tmp 138))⟩, []), (⟨none, none, (.store 1 (.tmp 148) (.tmp 146))⟩, [])]) (.seq (.region [⟨some 149, none, (.mov (.tmp 10))⟩, ⟨some 150, none, (.bin .add (.tmp 149) (.const (.int .i64 1)))⟩, ⟨some 10, none, (.mov (.tmp 150))⟩]) (.region [⟨some 151, none, (.mov (.tmp 11))⟩, ⟨some 152, none, (.bin .sub (.tmp 151) (.const (.int .i64 1)))⟩, ⟨some 11, none, (.mov (.tmp 152))⟩])))))))
noncomputable def body73 : ACode := (.seq (.region [⟨some 8, none, (.mov (.const (.int .i64 0)))⟩, ⟨some 9, none, (.mov (.const (.bool false)))⟩]) (.seq (.regionC [(⟨some 12, none, (.mov (.tmp 0))⟩, []), (⟨some 13, none, (.mov (.tmp 1))⟩, []), (⟨some 14, none, (.mov (.tmp 0))⟩, []), (⟨some 15, none, (.mov (.tmp 3))⟩, []), (⟨some 16, none, (.mov (.tmp 0))⟩, []), (⟨some 17, none, (.mov (.tmp 3))⟩, []), (⟨some 18, none, (.idx 1 (.tmp 16) (.tmp 17))⟩, []), (⟨some 19, none, (.load false 1 (.tmp 18))⟩, []), (⟨some 20, none, (.mov (.tmp 0))⟩, []), (⟨some 21, none, (.mov (.tmp 1))⟩, []), (⟨some 22, none, (.idx 1 (.tmp 20) (.tmp 21))⟩, []), (⟨some 23, none, (.load false 1 (.tmp 22))⟩, []), (⟨some 24, none, (.idx 1 (.tmp 12) (.tmp 13))⟩, []), (⟨none, none, (.store 1 (.tmp 24) (.tmp 19))⟩, []), (⟨some 25, none, (.idx 1 (.tmp 14) (.tmp 15))⟩, []), (⟨none, none, (.store 1 (.tmp 25) (.tmp 23))⟩, [])]) (.seq (.region [⟨some 26, none, (.mov (.tmp 1))⟩, ⟨some 27, none, (.bin .add (.tmp 26) (.const (.int .i64 1)))⟩, ⟨some 28, none, (.mov (.tmp 2))⟩, ⟨some 29, none, (.bin .sub (.tmp 28) (.const (.int .i64 1)))⟩, ⟨some 10, none, (.mov (.tmp 27))⟩, ⟨some 11, none, (.mov (.tmp 29))⟩]) (.seq (.block 0 (.loop body73_0)) (.seq (.block 2 (.loop body73_1)) (.seq (.seq (.region [⟨some 63, none, (.mov (.tmp 10))⟩, ⟨some 64, none, (.mov (.tmp 11))⟩, ⟨some 65, none, (.bin .gtr (.tmp 63) (.tmp 64))⟩]) (.cond (.tmp 65) (.seq (.regionC [(⟨some 66, none, (.mov (.tmp 0))⟩, []), (⟨some 67, none, (.mov (.tmp 11))⟩, []), (⟨some 68, none, (.mov (.tmp 0))⟩, []), (⟨some 69, none, (.mov (.tmp 1))⟩, []), (⟨some 70, none, (.mov (.tmp 0))⟩, []), (⟨some 71, none, (.mov (.tmp 1))⟩, []), (⟨some 72, none, (.idx 1 (.tmp 70) (.tmp 71))⟩, []), (⟨some 73, none, (.load false 1 (.tmp 72))⟩, []), (⟨some 74, none, (.mov (.tmp 0))⟩, []), (⟨some 75, none, (.mov (.tmp 11))⟩, []), (⟨some 76, none, (.idx 1 (.tmp 74) (.tmp 75))⟩, []), (⟨some 77, none, (.load false 1 (.tmp 76))⟩, []), (⟨some 78, none, (.idx 1 (.tmp 66) (.tmp 67))⟩, []), (⟨none, none, (.store 1 (.tmp 78) (.tmp 73))⟩, []), (⟨some 79, none, (.idx 1 (.tmp 68) (.tmp 69))⟩, []), (⟨none, none, (.store 1 (.tmp 79) (.tmp 77))⟩, [])]) (.seq (.region [⟨some 80, none, (.mov (.tmp 11))⟩, ⟨some 8, none, (.mov (.tmp 80))⟩, ⟨some 9, none, (.mov (.const (.bool true)))⟩]) .ret)) .skip)) (.seq (.regionC [(⟨some 81, none, (.mov (.tmp 0))⟩, []), (⟨some 82, none, (.mov (.tmp 10))⟩, []), (⟨some 83, none, (.mov (.tmp 0))⟩, []), (⟨some 84, none, (.mov (.tmp 11))⟩, []), (⟨some 85, none, (.mov (.tmp 0))⟩, []), (⟨some 86, none, (.mov (.tmp 11))⟩, []), (⟨some 87, none, (.idx 1 (.tmp 85) (.tmp 86))⟩, []), (⟨some 88, none, (.load false 1 (.tmp 87))⟩, []), (⟨some 89, none, (.mov (.tmp 0))⟩, []), (⟨some 90, none, (.mov (.tmp 10))⟩, []), (⟨some 91, none, (.idx 1 (.tmp 89) (.tmp 90))⟩, []), (⟨some 92, none, (.load false 1 (.tmp 91))⟩, []), (⟨some 93, none, (.idx 1 (.tmp 81) (.tmp 82))⟩, []), (⟨none, none, (.store 1 (.tmp 93) (.tmp 88))⟩, []), (⟨some 94, none, (.idx 1 (.tmp 83) (.tmp 84))⟩, []), (⟨none, none, (.store 1 (.tmp 94) (.tmp 92))⟩, [])]) (.seq (.region [⟨some 95, none, (.mov (.tmp 10))⟩, ⟨some 96, none, (.bin .add (.tmp 95) (.const (.int .i64 1)))⟩, ⟨some 10, none, (.mov (.tmp 96))⟩]) (.seq (.region [⟨some 97, none, (.mov (.tmp 11))⟩, ⟨some 98, none, (.bin .sub (.tmp 97) (.const (.int .i64 1)))⟩, ⟨some 11, none, (.mov (.tmp 98))⟩]) (.seq (.block 4 (.loop body73_4)) (.seq (.regionC [(⟨some 153, none, (.mov (.tmp 0))⟩, []), (⟨some 154, none, (.mov (.tmp 11))⟩, []), (⟨some 155, none, (.mov (.tmp 0))⟩, []), (⟨some 156, none, (.mov (.tmp 1))⟩, []), (⟨some 157, none, (.mov (.tmp 0))⟩, []), (⟨some 158, none, (.mov (.tmp 1))⟩, []), (⟨some 159, none, (.idx 1 (.tmp 157) (.tmp 158))⟩, []), (⟨some 160, none, (.load false 1 (.tmp 159))⟩, []), (⟨some 161, none, (.mov (.tmp 0))⟩, []), (⟨some 162, none, (.mov (.tmp 11))⟩, []), (⟨some 163, none, (.idx 1 (.tmp 161) (.tmp 162))⟩, []), (⟨some 164, none, (.load false 1 (.tmp 163))⟩, []), (⟨some 165, none, (.idx 1 (.tmp 153) (.tmp 154))⟩, []), (⟨none, none, (.store 1 (.tmp 165) (.tmp 160))⟩, []), (⟨some 166, none, (.idx 1 (.tmp 155) (.tmp 156))⟩, []), (⟨none, none, (.store 1 (.tmp 166) (.tmp 164))⟩, [])]) (.seq (.region [⟨some 167, none, (.mov (.tmp 11))⟩, ⟨some 8, none, (.mov (.tmp 167))⟩, ⟨some 9, none, (.mov (.const (.bool false)))⟩]) .ret))))))))))))
set_option maxRecDepth 100000 in
theorem tab73 : tb.code 73 = some ⟨168, [(8, none), (9, none)], body73⟩ := by kernel_rfl
theorem partition_ok (hB h : AHeap) (v : Value) (xs : List Int) (a b pv : Int) (e0 : Ext hB h) (hmB : hB.mark ≤ hB.n) (o : OwnI hB h v xs) (h0 : 0 ≤ a) (hp : a ≤ pv ∧ pv < b) (hb : b ≤ xs.length) (hlen : xs.length ≤ 1000000000) :
    WC Tryd.prog tb 73 [v, I a, I b, I pv] h fun r h' => ∃ ys m w, r = .tuple #[I m, .bool w] ∧ SS hB h v a b xs ys h' ∧ (a ≤ m ∧ m < b) ∧ (∀ k, a ≤ k → k < m → atI ys k ≤ atI ys m) ∧ (∀ k, m < k → k < b → atI ys m ≤ atI ys k) := by
  have s0 := SS.start a b o e0
  refine WC.of (nostub 73) tab73 ?_; simp only [mkTm, Nat.zero_add, Nat.reduceAdd]
  refine go ?_
  refine WX.regionU2 0 rfl rfl ?_
  have srX : SlI (inC (asideN 0 h)) v xs := (o).sl
  refine goU ?_
  refine WU2.swA (a) (pv) (s0).own (s0).ext (by rw [(s0).ext.mark]; exact hmB) ?_
  intro h1 e1 o1 u1
  have s1 := s0.swp e1 o1 u1 h0 hb (by omega) (by omega)
  clear o1 e1 u1
  generalize swp xs a pv = ys at s1
  have hl1 := s1.len
  refine go ?_
  refine WX.loopA [30, 31, 32, 33, 34, 35, 36, 37, 38, 39, 40, 41, 42, 43, 44, 45, 10] (by kernel_rfl) (fun i => (b - i).toNat) (fun (i : Int) t h2 => h1 = h2 ∧ tmGet t 10 = I i ∧ (a + 1 ≤ i ∧ i ≤ b) ∧ ∀ k, a < k → k < i → atI ys k < atI ys a) (a + 1) ?_ ?_
  · exact ⟨rfl, sl_, by omega, fun k h1 h2 => by omega⟩
  rintro i t _ hsame ⟨rfl, s10, hi, hlow⟩
  refine go ?_
  refine WX.cutA [30, 31, 32, 33, 34, 35, 36, 37, 38, 39, 40, 41, 42, 43] (by kernel_rfl) (fun t h' => h1 = h' ∧ tmGet t 43 = .bool (decide (i ≤ b - 1 ∧ (atI ys i < atI ys a)))) ?_ ?_
  · refine WX.regionU2 0 rfl rfl ?_
    have srX : SlI (inC (asideN 0 h1)) v ys := (s1.own).sl
    refine goU ?_
    refine WO.sp (fun hd => ?_) (fun hd => ?_) <;> simp only [DB] at hd <;> refine goU ?_
    · refine WO.con (less_ok _ (atI ys i) (atI ys a)) ?_
      rintro _ _ ⟨rfl, rfl⟩
      refine WO.nil ?_
      refine uK2_q ?_
      refine goU ?_
      exact cutK_normal ⟨rfl, by rw [show decide (i ≤ b - 1 ∧ (atI ys i < atI ys a)) = decide (atI ys i < atI ys a) from dec_pos hd]; exact sl_⟩
    · exact cutK_normal ⟨rfl, by rw [show decide (i ≤ b - 1 ∧ (atI ys i < atI ys a)) = false from decide_eq_false (fun hh => absurd hh.1 (by omega))]; exact sl_⟩
  rintro t2 _ hs2 ⟨rfl, q2⟩
  refine go ?_
  refine WX.br (fun he => ?_) (fun he => ?_) <;> simp only [DB] at he
  · refine go ?_
    refine loopK_normal (i + 1) (by omega) ⟨rfl, sl_, by omega, fun k h1 h2 => ?_⟩
    by_cases e : k = i
    · rw [e]; exact he.2
    · exact hlow k h1 (by omega)
  refine go ?_
  refine WX.loopA [46, 47, 48, 49, 50, 51, 52, 53, 54, 55, 56, 57, 58, 59, 60, 61, 62, 11] (by kernel_rfl) (fun j => (j + 1 - a).toNat) (fun (j : Int) t h2 => h1 = h2 ∧ tmGet t 11 = I j ∧ (i - 1 ≤ j ∧ j ≤ b - 1) ∧ ∀ k, j < k → k < b → atI ys a ≤ atI ys k) (b - 1) ?_ ?_
  · exact ⟨rfl, sl_, by omega, fun k h1 h2 => by omega⟩
  rintro j t _ hsame ⟨rfl, s11, hj, hhigh⟩
  refine go ?_
  refine WX.cutA [46, 47, 48, 49, 50, 51, 52, 53, 54, 55, 56, 57, 58, 59, 60] (by kernel_rfl) (fun t h' => h1 = h' ∧ tmGet t 60 = .bool (decide (i ≤ j ∧ ¬(atI ys j < atI ys a)))) ?_ ?_
  · refine WX.regionU2 0 rfl rfl ?_
    have srX : SlI (inC (asideN 0 h1)) v ys := (s1.own).sl
    refine goU ?_
    refine WO.sp (fun hd => ?_) (fun hd => ?_) <;> simp only [DB] at hd <;> refine goU ?_
    · refine WO.con (less_ok _ (atI ys j) (atI ys a)) ?_
      rintro _ _ ⟨rfl, rfl⟩
      refine WO.nil ?_
      refine uK2_q ?_
      refine goU ?_
      exact cutK_normal ⟨rfl, by rw [show decide (i ≤ j ∧ ¬(atI ys j < atI ys a)) = !decide (atI ys j < atI ys a) from dec_neg hd]; exact sl_⟩
    · exact cutK_normal ⟨rfl, by rw [show decide (i ≤ j ∧ ¬(atI ys j < atI ys a)) = false from decide_eq_false (fun hh => absurd hh.1 (by omega))]; exact sl_⟩
  rintro t3 _ hs3 ⟨rfl, q3⟩
  refine go ?_
  refine WX.br (fun hf => ?_) (fun hf => ?_) <;> simp only [DB] at hf
  · refine go ?_
    refine loopK_normal (j - 1) (by omega) ⟨rfl, sl_, by omega, fun k h1 h2 => ?_⟩
    by_cases e : k = j
    · rw [e]; omega
    · exact hhigh k (by omega) h2
  refine go ?_
  refine WX.br (fun hg => ?_) (fun hg => ?_) <;> simp only [DB] at hg
  · refine go ?_
    refine WX.regionU2 0 rfl rfl ?_
    have srX : SlI (inC (asideN 0 h1)) v ys := (s1.own).sl
    refine goU ?_
    refine WU2.swA (j) (a) (s1).own (s1).ext (by rw [(s1).ext.mark]; exact hmB) ?_
    intro h3 e3 o3 u3
    have s3 := s1.swp e3 o3 u3 h0 hb (by omega) (by omega)
    refine go ?_
    refine rt ?_
    refine ⟨_, _, _, rfl, s3, by omega, fun k h1 h2 => ?_, fun k h1 h2 => ?_⟩
    · rw [swp_at (by omega) (by omega) (by omega), swp_at (by omega) (by omega) (by omega)]
      by_cases e : k = a
      · rw [if_pos e, if_neg (by omega), if_pos rfl]; have := hlow j (by omega) (by omega); omega
      · rw [if_neg e, if_neg (by omega), if_neg (by omega), if_pos rfl]; have := hlow k (by omega) (by omega); omega
    · rw [swp_at (by omega) (by omega) (by omega), swp_at (by omega) (by omega) (by omega)]
      rw [if_neg (by omega : ¬ k = a), if_neg (by omega : ¬ k = j)]
      have := hhigh k (by omega) (by omega)
      by_cases e : j = a
      · rw [if_pos e, e]; exact this
      · rw [if_neg e, if_pos rfl]; exact this
  refine go ?_
  refine WX.regionU2 0 rfl rfl ?_
  have srX : SlI (inC (asideN 0 h1)) v ys := (s1.own).sl
  refine goU ?_
  refine WU2.swA (i) (j) (s1).own (s1).ext (by rw [(s1).ext.mark]; exact hmB) ?_
  intro h3 e3 o3 u3
  have s3 := s1.swp e3 o3 u3 h0 hb (by omega) (by omega)
  have hi2 : ¬ atI ys i < atI ys a := fun hh => he ⟨by omega, hh⟩
  have hj2 : atI ys j < atI ys a := Int.not_le.1 fun hh => hf ⟨by omega, hh⟩
  have hij : i ≠ j := fun e => by subst e; exact hi2 hj2
  have hP : (a + 1 ≤ i + 1 ∧ i + 1 ≤ j - 1 + 1 ∧ j - 1 ≤ b - 1) ∧ (∀ k, a < k → k < i + 1 → atI (swp ys i j) k < atI (swp ys i j) a) ∧ ∀ k, j - 1 < k → k < b → atI (swp ys i j) a ≤ atI (swp ys i j) k := by
    have ea : atI (swp ys i j) a = atI ys a := by rw [swp_at (by omega) (by omega) (by omega), if_neg (by omega), if_neg (by omega)]
    rw [ea]
    refine ⟨by omega, fun k h1 h2 => ?_, fun k h1 h2 => ?_⟩
    · rw [swp_at (by omega) (by omega) (by omega), if_neg (by omega)]
      by_cases e : k = i
      · rw [if_pos e]; exact hj2
      · rw [if_neg e]; exact hlow k h1 (by omega)
    · rw [swp_at (by omega) (by omega) (by omega)]
      by_cases e : k = j
      · rw [if_pos e]; omega
      · rw [if_neg e, if_neg (by omega)]; exact hhigh k (by omega) h2
  clear o3 e3 u3 hlow hhigh
  generalize swp ys i j = zs at s3 hP
  refine go ?_
  refine WX.loopA [99, 100, 101, 102, 103, 104, 105, 106, 107, 108, 109, 110, 111, 112, 113, 114, 10, 115, 116, 117, 118, 119, 120, 121, 122, 123, 124, 125, 126, 127, 128, 129, 130, 131, 11, 132, 133, 134, 135, 136, 137, 138, 139, 140, 141, 142, 143, 144, 145, 146, 147, 148, 149, 150, 10, 151, 152, 11] (by kernel_rfl) (fun x => (x.2.2 + 1 - x.2.1).toNat) (fun (x : List Int × Int × Int) t h4 => SS hB h v a b xs x.1 h4 ∧ tmGet t 10 = I x.2.1 ∧ tmGet t 11 = I x.2.2 ∧ (a + 1 ≤ x.2.1 ∧ x.2.1 ≤ x.2.2 + 1 ∧ x.2.2 ≤ b - 1) ∧ (∀ k, a < k → k < x.2.1 → atI x.1 k < atI x.1 a) ∧ ∀ k, x.2.2 < k → k < b → atI x.1 a ≤ atI x.1 k) (zs, i + 1, j - 1) ?_ ?_
  · exact ⟨s3, sl_, sl_, hP.1, hP.2.1, hP.2.2⟩
  clear hP s3 s10 s11 he hf hg hi2 hj2 hij q2 q3 hi hj
  rintro ⟨ws, p, q⟩ t h4 hsame ⟨s4, s10, s11, hpq, hlow, hhigh⟩
  simp only at s4 s10 s11 hpq hlow hhigh
  have hl4 := s4.len
  refine go ?_
  refine WX.loopA [99, 100, 101, 102, 103, 104, 105, 106, 107, 108, 109, 110, 111, 112, 113, 114, 10] (by kernel_rfl) (fun i => (b - i).toNat) (fun (i : Int) t h2 => h4 = h2 ∧ tmGet t 10 = I i ∧ (p ≤ i ∧ i ≤ q + 1) ∧ ∀ k, a < k → k < i → atI ws k < atI ws a) p ?_ ?_
  · exact ⟨rfl, sl_, by omega, hlow⟩
  rintro i2 t _ hsame ⟨rfl, s10, hi, hlow2⟩
  refine go ?_
  refine WX.cutA [99, 100, 101, 102, 103, 104, 105, 106, 107, 108, 109, 110, 111, 112] (by kernel_rfl) (fun t h' => h4 = h' ∧ tmGet t 112 = .bool (decide (i2 ≤ q ∧ (atI ws i2 < atI ws a)))) ?_ ?_
  · refine WX.regionU2 0 rfl rfl ?_
    have srX : SlI (inC (asideN 0 h4)) v ws := (s4.own).sl
    refine goU ?_
    refine WO.sp (fun hd => ?_) (fun hd => ?_) <;> simp only [DB] at hd <;> refine goU ?_
    · refine WO.con (less_ok _ (atI ws i2) (atI ws a)) ?_
      rintro _ _ ⟨rfl, rfl⟩
      refine WO.nil ?_
      refine uK2_q ?_
      refine goU ?_
      exact cutK_normal ⟨rfl, by rw [show decide (i2 ≤ q ∧ (atI ws i2 < atI ws a)) = decide (atI ws i2 < atI ws a) from dec_pos hd]; exact sl_⟩
    · exact cutK_normal ⟨rfl, by rw [show decide (i2 ≤ q ∧ (atI ws i2 < atI ws a)) = false from decide_eq_false (fun hh => absurd hh.1 (by omega))]; exact sl_⟩
  rintro t5 _ hs5 ⟨rfl, q5⟩
  refine go ?_
  refine WX.br (fun he => ?_) (fun he => ?_) <;> simp only [DB] at he
  · refine go ?_
    refine loopK_normal (i2 + 1) (by omega) ⟨rfl, sl_, by omega, fun k h1 h2 => ?_⟩
    by_cases e : k = i2
    · rw [e]; exact he.2
    · exact hlow2 k h1 (by omega)
  refine go ?_
  refine WX.loopA [115, 116, 117, 118, 119, 120, 121, 122, 123, 124, 125, 126, 127, 128, 129, 130, 131, 11] (by kernel_rfl) (fun j => (j + 1 - a).toNat) (fun (j : Int) t h2 => h4 = h2 ∧ tmGet t 11 = I j ∧ (i2 - 1 ≤ j ∧ j ≤ q) ∧ ∀ k, j < k → k < b → atI ws a ≤ atI ws k) q ?_ ?_
  · exact ⟨rfl, sl_, by omega, hhigh⟩
  rintro j2 t _ hsame ⟨rfl, s11, hj, hhigh2⟩
  refine go ?_
  refine WX.cutA [115, 116, 117, 118, 119, 120, 121, 122, 123, 124, 125, 126, 127, 128, 129] (by kernel_rfl) (fun t h' => h4 = h' ∧ tmGet t 129 = .bool (decide (i2 ≤ j2 ∧ ¬(atI ws j2 < atI ws a)))) ?_ ?_
  · refine WX.regionU2 0 rfl rfl ?_
    have srX : SlI (inC (asideN 0 h4)) v ws := (s4.own).sl
    refine goU ?_
    refine WO.sp (fun hd => ?_) (fun hd => ?_) <;> simp only [DB] at hd <;> refine goU ?_
    · refine WO.con (less_ok _ (atI ws j2) (atI ws a)) ?_
      rintro _ _ ⟨rfl, rfl⟩
      refine WO.nil ?_
      refine uK2_q ?_
      refine goU ?_
      exact cutK_normal ⟨rfl, by rw [show decide (i2 ≤ j2 ∧ ¬(atI ws j2 < atI ws a)) = !decide (atI ws j2 < atI ws a) from dec_neg hd]; exact sl_⟩
    · exact cutK_normal ⟨rfl, by rw [show decide (i2 ≤ j2 ∧ ¬(atI ws j2 < atI ws a)) = false from decide_eq_false (fun hh => absurd hh.1 (by omega))]; exact sl_⟩
  rintro t6 _ hs6 ⟨rfl, q6⟩
  refine go ?_
  refine WX.br (fun hf => ?_) (fun hf => ?_) <;> simp only [DB] at hf
  · refine go ?_
    refine loopK_normal (j2 - 1) (by omega) ⟨rfl, sl_, by omega, fun k h1 h2 => ?_⟩
    by_cases e : k = j2
    · rw [e]; omega
    · exact hhigh2 k (by omega) h2
  refine go ?_
  refine WX.br (fun hg => ?_) (fun hg => ?_) <;> simp only [DB] at hg
  · refine go ?_
    refine WX.regionU2 0 rfl rfl ?_
    have srX : SlI (inC (asideN 0 h4)) v ws := (s4.own).sl
    refine goU ?_
    refine WU2.swA (j2) (a) (s4).own (s4).ext (by rw [(s4).ext.mark]; exact hmB) ?_
    intro h3 e3 o3 u3
    have s3 := s4.swp e3 o3 u3 h0 hb (by omega) (by omega)
    refine go ?_
    refine rt ?_
    refine ⟨_, _, _, rfl, s3, by omega, fun k h1 h2 => ?_, fun k h1 h2 => ?_⟩
    · rw [swp_at (by omega) (by omega) (by omega), swp_at (by omega) (by omega) (by omega)]
      by_cases e : k = a
      · rw [if_pos e, if_neg (by omega), if_pos rfl]; have := hlow2 j2 (by omega) (by omega); omega
      · rw [if_neg e, if_neg (by omega), if_neg (by omega), if_pos rfl]; have := hlow2 k (by omega) (by omega); omega
    · rw [swp_at (by omega) (by omega) (by omega), swp_at (by omega) (by omega) (by omega)]
      rw [if_neg (by omega : ¬ k = a), if_neg (by omega : ¬ k = j2)]
      have := hhigh2 k (by omega) (by omega)
      by_cases e : j2 = a
      · rw [if_pos e, e]; exact this
      · rw [if_neg e, if_pos rfl]; exact this
  refine go ?_
  refine WX.regionU2 0 rfl rfl ?_
  have srX : SlI (inC (asideN 0 h4)) v ws := (s4.own).sl
  refine goU ?_
  refine WU2.swA (i2) (j2) (s4).own (s4).ext (by rw [(s4).ext.mark]; exact hmB) ?_
  intro h3 e3 o3 u3
  have s3 := s4.swp e3 o3 u3 h0 hb (by omega) (by omega)
  have hi2 : ¬ atI ws i2 < atI ws a := fun hh => he ⟨by omega, hh⟩
  have hj2 : atI ws j2 < atI ws a := Int.not_le.1 fun hh => hf ⟨by omega, hh⟩
  have hij : i2 ≠ j2 := fun e => by subst e; exact hi2 hj2
  have ea : atI (swp ws i2 j2) a = atI ws a := by rw [swp_at (by omega) (by omega) (by omega), if_neg (by omega), if_neg (by omega)]
  refine go ?_
  refine loopK_normal (swp ws i2 j2, i2 + 1, j2 - 1) (by simp only; omega) ⟨s3, sl_, sl_, by simp only; omega, fun k h1 h2 => ?_, fun k h1 h2 => ?_⟩
  · simp only at h2 ⊢
    rw [ea, swp_at (by omega) (by omega) (by omega), if_neg (by omega)]
    by_cases e : k = i2
    · rw [if_pos e]; exact hj2
    · rw [if_neg e]; exact hlow2 k h1 (by omega)
  · simp only at h1 ⊢
    rw [ea, swp_at (by omega) (by omega) (by omega)]
    by_cases e : k = j2
    · rw [if_pos e]; omega
    · rw [if_neg e, if_neg (by omega)]; exact hhigh2 k (by omega) h2
end Go.Proofs.YtbhdfhiecgebnaaDoor
