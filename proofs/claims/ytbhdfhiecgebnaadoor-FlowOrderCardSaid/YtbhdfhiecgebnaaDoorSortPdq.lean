/- Lists of numbers sorted: the library's sort. -/
import Derived.Test.YtbhdfhiecgebnaaDoorSortPivot
namespace Go.Proofs.YtbhdfhiecgebnaaDoor
open Go.Am
set_option linter.unusedVariables false
set_option linter.unusedSimpArgs false
set_option maxHeartbeats 1000000

theorem srt_swp {a b i j : Int} {zs : List Int} (h0 : 0 ≤ a) (hi : b ≤ i ∧ i < zs.length) (hj : b ≤ j ∧ j < zs.length) (s : Srt a b zs) : Srt a b (swp zs i j) := fun p q h1 h2 h3 => by
  rw [swp_at (by omega) (by omega) (by omega), swp_at (by omega) (by omega) (by omega), if_neg (by omega), if_neg (by omega), if_neg (by omega), if_neg (by omega)]
  exact s p q h1 h2 h3

noncomputable def body70_0 : ACode := (.seq (.seq (.regionC [(⟨some 17, none, (.mov (.tmp 7))⟩, []), (⟨some 18, none, (.mov (.tmp 2))⟩, []), (⟨some 19, none, (.bin .lss (.tmp 17) (.tmp 18))⟩, []), (⟨some 20, none, (.mov (.tmp 19))⟩, []), (⟨some 21, some (20, true), (.mov (.tmp 0))⟩, []), (⟨some 22, some (20, true), (.mov (.tmp 7))⟩, []), (⟨some 23, some (20, true), (.idx 1 (.tmp 21) (.tmp 22))⟩, []), (⟨some 24, some (20, true), (.load false 1 (.tmp 23))⟩, []), (⟨some 25, some (20, true), (.mov (.tmp 0))⟩, []), (⟨some 26, some (20, true), (.mov (.tmp 7))⟩, []), (⟨some 27, some (20, true), (.bin .sub (.tmp 26) (.const (.int .i64 1)))⟩, []), (⟨some 28, some (20, true), (.idx 1 (.tmp 25) (.tmp 27))⟩, []), (⟨some 29, some (20, true), (.load false 1 (.tmp 28))⟩, []), (⟨some 30, some (20, true), (.call (.func 71) [(.tmp 24), (.tmp 29)])⟩, []), (⟨some 31, some (20, true), (.un .not (.tmp 30))⟩, []), (⟨some 32, none, (.pick (.tmp 20) (.tmp 31) (.const (.bool false)))⟩, [])]) (.cond (.tmp 32) .skip (.exit 2))) (.block 3 (.region [⟨some 33, none, (.mov (.tmp 7))⟩, ⟨some 34, none, (.bin .add (.tmp 33) (.const (.int .i64 1)))⟩, ⟨some 7, none, (.mov (.tmp 34))⟩])))
noncomputable def body70_1 : ACode := (.seq (.seq (.region [⟨some 64, none, (.mov (.tmp 9))⟩, ⟨some 65, none, (.bin .geq (.tmp 64) (.const (.int .i64 1)))⟩]) (.cond (.tmp 65) .skip (.exit 4))) (.seq (.block 5 (.seq (.seq (.regionC [(⟨some 68, none, (.mov (.tmp 0))⟩, []), (⟨some 69, none, (.mov (.tmp 9))⟩, []), (⟨some 70, none, (.idx 1 (.tmp 68) (.tmp 69))⟩, []), (⟨some 71, none, (.load false 1 (.tmp 70))⟩, []), (⟨some 72, none, (.mov (.tmp 0))⟩, []), (⟨some 73, none, (.mov (.tmp 9))⟩, []), (⟨some 74, none, (.bin .sub (.tmp 73) (.const (.int .i64 1)))⟩, []), (⟨some 75, none, (.idx 1 (.tmp 72) (.tmp 74))⟩, []), (⟨some 76, none, (.load false 1 (.tmp 75))⟩, []), (⟨some 77, none, (.call (.func 71) [(.tmp 71), (.tmp 76)])⟩, []), (⟨some 78, none, (.un .not (.tmp 77))⟩, [])]) (.cond (.tmp 78) (.exit 4) .skip)) (.regionC [(⟨some 79, none, (.mov (.tmp 0))⟩, []), (⟨some 80, none, (.mov (.tmp 9))⟩, []), (⟨some 81, none, (.mov (.tmp 0))⟩, []), (⟨some 82, none, (.mov (.tmp 9))⟩, []), (⟨some 83, none, (.bin .sub (.tmp 82) (.const (.int .i64 1)))⟩, []), (⟨some 84, none, (.mov (.tmp 0))⟩, []), (⟨some 85, none, (.mov (.tmp 9))⟩, []), (⟨some 86, none, (.bin .sub (.tmp 85) (.const (.int .i64 1)))⟩, []), (⟨some 87, none, (.idx 1 (.tmp 84) (.tmp 86))⟩, []), (⟨some 88, none, (.load false 1 (.tmp 87))⟩, []), (⟨some 89, none, (.mov (.tmp 0))⟩, []), (⟨some 90, none, (.mov (.tmp 9))⟩, []), (⟨some 91, none, (.idx 1 (.tmp 89) (.tmp 90))⟩, []), (⟨some 92, none, (.load false 1 (.tmp 91))⟩, []), (⟨some 93, none, (.idx 1 (.tmp 79) (.tmp 80))⟩, []), (⟨none, none, (.store 1 (.tmp 93) (.tmp 88))⟩, []), (⟨some 94, none, (.idx 1 (.tmp 81) (.tmp 83))⟩, []), (⟨none, none, (.store 1 (.tmp 94) (.tmp 92))⟩, [])]))) (.region [⟨some 66, none, (.mov (.tmp 9))⟩, ⟨some 67, none, (.bin .sub (.tmp 66) (.const (.int .i64 1)))⟩, ⟨some 9, none, (.mov (.tmp 67))⟩])))
noncomputable def body70_2 : ACode := (.seq (.seq (.region [⟨some 101, none, (.mov (.tmp 10))⟩, ⟨some 102, none, (.mov (.tmp 2))⟩, ⟨some 103, none, (.bin .lss (.tmp 101) (.tmp 102))⟩]) (.cond (.tmp 103) .skip (.exit 6))) (.seq (.block 7 (.seq (.seq (.regionC [(⟨some 106, none, (.mov (.tmp 0))⟩, []), (⟨some 107, none, (.mov (.tmp 10))⟩, []), (⟨some 108, none, (.idx 1 (.tmp 106) (.tmp 107))⟩, []), (⟨some 109, none, (.load false 1 (.tmp 108))⟩, []), (⟨some 110, none, (.mov (.tmp 0))⟩, []), (⟨some 111, none, (.mov (.tmp 10))⟩, []), (⟨some 112, none, (.bin .sub (.tmp 111) (.const (.int .i64 1)))⟩, []), (⟨some 113, none, (.idx 1 (.tmp 110) (.tmp 112))⟩, []), (⟨some 114, none, (.load false 1 (.tmp 113))⟩, []), (⟨some 115, none, (.call (.func 71) [(.tmp 109), (.tmp 114)])⟩, []), (⟨some 116, none, (.un .not (.tmp 115))⟩, [])]) (.cond (.tmp 116) (.exit 6) .skip)) (.regionC [(⟨some 117, none, (.mov (.tmp 0))⟩, []), (⟨some 118, none, (.mov (.tmp 10))⟩, []), (⟨some 119, none, (.mov (.tmp 0))⟩, []), (⟨some 120, none, (.mov (.tmp 10))⟩, []), (⟨some 121, none, (.bin .sub (.tmp 120) (.const (.int .i64 1)))⟩, []), (⟨some 122, none, (.mov (.tmp 0))⟩, []), (⟨some 123, none, (.mov (.tmp 10))⟩, []), (⟨some 124, none, (.bin .sub (.tmp 123) (.const (.int .i64 1)))⟩, []), (⟨some 125, none, (.idx 1 (.tmp 122) (.tmp 124))⟩, []), (⟨some 126, none, (.load false 1 (.tmp 125))⟩, []), (⟨some 127, none, (.mov (.tmp 0))⟩, []), (⟨some 128, none, (.mov (.tmp 10))⟩, []), (⟨some 129, none, (.idx 1 (.tmp 127) (.tmp 128))⟩, []), (⟨some 130, none, (.load false 1 (.tmp 129))⟩, []), (⟨some 131, none, (.idx 1 (.tmp 117) (.tmp 118))⟩, []), (⟨none, none, (.store 1 (.tmp 131) (.tmp 126))⟩, []), (⟨some 132, none, (.idx 1 (.tmp 119) (.tmp 121))⟩, []), (⟨none, none, (.store 1 (.tmp 132) (.tmp 130))⟩, [])]))) (.region [⟨some 104, none, (.mov (.tmp 10))⟩, ⟨some 105, none, (.bin .add (.tmp 104) (.const (.int .i64 1)))⟩, ⟨some 10, none, (.mov (.tmp 105))⟩])))
noncomputable def body70_3 : ACode := (.seq (.seq (.region [⟨some 13, none, (.mov (.tmp 8))⟩, ⟨some 14, none, (.bin .lss (.tmp 13) (.const (.int .i64 5)))⟩]) (.cond (.tmp 14) .skip (.exit 0))) (.seq (.block 1 (.seq (.block 2 (.loop body70_0)) (.seq (.seq (.region [⟨some 35, none, (.mov (.tmp 7))⟩, ⟨some 36, none, (.mov (.tmp 2))⟩, ⟨some 37, none, (.bin .eql (.tmp 35) (.tmp 36))⟩]) (.cond (.tmp 37) (.seq (.region [⟨some 6, none, (.mov (.const (.bool true)))⟩]) .ret) .skip)) (.seq (.seq (.region [⟨some 38, none, (.mov (.tmp 2))⟩, ⟨some 39, none, (.mov (.tmp 1))⟩, ⟨some 40, none, (.bin .sub (.tmp 38) (.tmp 39))⟩, ⟨some 41, none, (.bin .lss (.tmp 40) (.const (.int .i64 50)))⟩]) (.cond (.tmp 41) (.seq (.region [⟨some 6, none, (.mov (.const (.bool false)))⟩]) .ret) .skip)) (.seq (.regionC [(⟨some 42, none, (.mov (.tmp 0))⟩, []), (⟨some 43, none, (.mov (.tmp 7))⟩, []), (⟨some 44, none, (.mov (.tmp 0))⟩, []), (⟨some 45, none, (.mov (.tmp 7))⟩, []), (⟨some 46, none, (.bin .sub (.tmp 45) (.const (.int .i64 1)))⟩, []), (⟨some 47, none, (.mov (.tmp 0))⟩, []), (⟨some 48, none, (.mov (.tmp 7))⟩, []), (⟨some 49, none, (.bin .sub (.tmp 48) (.const (.int .i64 1)))⟩, []), (⟨some 50, none, (.idx 1 (.tmp 47) (.tmp 49))⟩, []), (⟨some 51, none, (.load false 1 (.tmp 50))⟩, []), (⟨some 52, none, (.mov (.tmp 0))⟩, []), (⟨some 53, none, (.mov (.tmp 7))⟩, []), (⟨some 54, none, (.idx 1 (.tmp 52) (.tmp 53))⟩, []), (⟨some 55, none, (.load false 1 (.tmp 54))⟩, []), (⟨some 56, none, (.idx 1 (.tmp 42) (.tmp 43))⟩, []), (⟨none, none, (.store 1 (.tmp 56) (.tmp 51))⟩, []), (⟨some 57, none, (.idx 1 (.tmp 44) (.tmp 46))⟩, []), (⟨none, none, (.store 1 (.tmp 57) (.tmp 55))⟩, [])]) (.seq (.seq (.region [⟨some 58, none, (.mov (.tmp 7))⟩, ⟨some 59, none, (.mov (.tmp 1))⟩, ⟨some 60, none, (.bin .sub (.tmp 58) (.tmp 59))⟩, ⟨some 61, none, (.bin .geq (.tmp 60) (.const (.int .i64 2)))⟩]) (.cond (.tmp 61) (.seq (.region [⟨some 62, none, (.mov (.tmp 7))⟩, ⟨some 63, none, (.bin .sub (.tmp 62) (.const (.int .i64 1)))⟩, ⟨some 9, none, (.mov (.tmp 63))⟩]) (.block 4 (.loop body70_1))) .skip)) (.seq (.region [⟨some 95, none, (.mov (.tmp 2))⟩, ⟨some 96, none, (.mov (.tmp 7))⟩, ⟨some 97, none, (.bin .sub (.tmp 95) (.tmp 96))⟩, ⟨some 98, none, (.bin .geq (.tmp 97) (.const (.int .i64 2)))⟩]) (.cond (.tmp 98) (.seq (.region [⟨some 99, none, (.mov (.tmp 7))⟩, ⟨some 100, none, (.bin .add (.tmp 99) (.const (.int .i64 1)))⟩, ⟨some 10, none, (.mov (.tmp 100))⟩]) (.block 6 (.loop body70_2))) .skip)))))))) (.region [⟨some 15, none, (.mov (.tmp 8))⟩, ⟨some 16, none, (.bin .add (.tmp 15) (.const (.int .i64 1)))⟩, ⟨some 8, none, (.mov (.tmp 16))⟩])))
noncomputable def body70 : ACode := (.seq (.region [⟨some 6, none, (.mov (.const (.bool false)))⟩]) (.seq (.region [⟨some 11, none, (.mov (.tmp 1))⟩, ⟨some 12, none, (.bin .add (.tmp 11) (.const (.int .i64 1)))⟩, ⟨some 7, none, (.mov (.tmp 12))⟩]) (.seq (.seq (.region [⟨some 8, none, (.mov (.const (.int .i64 0)))⟩]) (.block 0 (.loop body70_3))) (.seq (.region [⟨some 6, none, (.mov (.const (.bool false)))⟩]) .ret))))
set_option maxRecDepth 100000 in
theorem tab70 : tb.code 70 = some ⟨133, [(6, none)], body70⟩ := by kernel_rfl
theorem partial_ok (hB h : AHeap) (v : Value) (xs : List Int) (a b : Int) (e0 : Ext hB h) (hmB : hB.mark ≤ hB.n) (o : OwnI hB h v xs) (h0 : 0 ≤ a) (hab : a < b) (hb : b ≤ xs.length) (hlen : xs.length ≤ 1000000000) (hpre : 0 < a → ∀ k, a ≤ k → k < b → atI xs (a - 1) ≤ atI xs k) :
    WC Tryd.prog tb 70 [v, I a, I b] h fun r h' => ∃ ys w, r = .bool w ∧ SS hB h v a b xs ys h' ∧ (w = true → Srt a b ys) := by
  have s0 := SS.start a b o e0
  have low : Hid (∀ ys, PI a b xs ys → 0 < a → ∀ k, a ≤ k → k < b → atI ys (a - 1) ≤ atI ys k) := Hid.mk fun ys p ha => by
    have e1 : atI ys (a - 1) = atI xs (a - 1) := p.out _ (by omega) (.inl (by omega))
    rw [e1]
    exact p.all (p := fun x => atI xs (a - 1) ≤ x) h0 hb (hpre ha)
  refine WC.of (nostub 70) tab70 ?_; simp only [mkTm, Nat.zero_add, Nat.reduceAdd]
  refine go ?_
  refine WX.loopA [13, 14, 17, 18, 19, 20, 21, 22, 23, 24, 25, 26, 27, 28, 29, 30, 31, 32, 33, 34, 7, 35, 36, 37, 6, 38, 39, 40, 41, 6, 42, 43, 44, 45, 46, 47, 48, 49, 50, 51, 52, 53, 54, 55, 56, 57, 58, 59, 60, 61, 62, 63, 9, 64, 65, 68, 69, 70, 71, 72, 73, 74, 75, 76, 77, 78, 79, 80, 81, 82, 83, 84, 85, 86, 87, 88, 89, 90, 91, 92, 93, 94, 66, 67, 9, 95, 96, 97, 98, 99, 100, 10, 101, 102, 103, 106, 107, 108, 109, 110, 111, 112, 113, 114, 115, 116, 117, 118, 119, 120, 121, 122, 123, 124, 125, 126, 127, 128, 129, 130, 131, 132, 104, 105, 10, 15, 16, 8] (by kernel_rfl) (fun x => (5 - x.2.2).toNat) (fun (x : List Int × Int × Int) t h4 => SS hB h v a b xs x.1 h4 ∧ tmGet t 7 = I x.2.1 ∧ tmGet t 8 = I x.2.2 ∧ (a + 1 ≤ x.2.1 ∧ x.2.1 ≤ b) ∧ (0 ≤ x.2.2 ∧ x.2.2 ≤ 5) ∧ Srt a x.2.1 x.1) (xs, a + 1, 0) ?_ ?_
  · exact ⟨s0, sl_, sl_, by simp only; omega, by simp only; omega, Srt.small (by simp only; omega)⟩
  rintro ⟨ys, i, c⟩ t h4 hsame ⟨s4, s7, s8, hi, hc, hs⟩
  simp only at s4 s7 s8 hi hc hs
  have hl4 := s4.len
  refine go ?_
  refine WX.br (fun hx => ?_) (fun hx => ?_) <;> simp only [DB] at hx
  case refine_2 =>
    refine go ?_
    refine rt ?_
    exact ⟨_, _, rfl, s4, fun h => by cases h⟩
  refine go ?_
  refine WX.loopA [17, 18, 19, 20, 21, 22, 23, 24, 25, 26, 27, 28, 29, 30, 31, 32, 33, 34, 7] (by kernel_rfl) (fun i => (b - i).toNat) (fun (i : Int) t h2 => h4 = h2 ∧ tmGet t 7 = I i ∧ (a + 1 ≤ i ∧ i ≤ b) ∧ Srt a i ys) i ?_ ?_
  · exact ⟨rfl, sl_, hi, hs⟩
  clear hs hi s7
  rintro i t _ hsame2 ⟨rfl, s7, hi, hs⟩
  refine go ?_
  refine WX.cutA [17, 18, 19, 20, 21, 22, 23, 24, 25, 26, 27, 28, 29, 30, 31, 32] (by kernel_rfl) (fun t h' => h4 = h' ∧ tmGet t 32 = .bool (decide (i < b ∧ ¬(atI ys i < atI ys (i - 1))))) ?_ ?_
  · refine WX.regionU2 0 rfl rfl ?_
    have srX : SlI (inC (asideN 0 h4)) v ys := (s4.own).sl
    refine goU ?_
    refine WO.sp (fun hd => ?_) (fun hd => ?_) <;> simp only [DB] at hd <;> refine goU ?_
    · refine WO.con (less_ok _ (atI ys i) (atI ys (i - 1))) ?_
      rintro _ _ ⟨rfl, rfl⟩
      refine WO.nil ?_
      refine uK2_q ?_
      refine goU ?_
      exact cutK_normal ⟨rfl, by rw [show decide (i < b ∧ ¬(atI ys i < atI ys (i - 1))) = !decide (atI ys i < atI ys (i - 1)) from dec_neg hd]; exact sl_⟩
    · exact cutK_normal ⟨rfl, by rw [show decide (i < b ∧ ¬(atI ys i < atI ys (i - 1))) = false from decide_eq_false (fun hh => absurd hh.1 (by omega))]; exact sl_⟩
  rintro t5 _ hs5 ⟨rfl, q5⟩
  refine go ?_
  refine WX.br (fun he => ?_) (fun he => ?_) <;> simp only [DB] at he
  · refine go ?_
    refine loopK_normal (i + 1) (by omega) ⟨rfl, sl_, by omega, fun p q h1 h2 h3 => ?_⟩
    by_cases e : q = i
    · by_cases e2 : p = i
      · rw [e, e2]; exact Int.le_refl _
      · have := hs p (i - 1) h1 (by omega) (by omega)
        rw [e]; omega
    · exact hs p q h1 h2 (by omega)
  refine go ?_
  refine WX.br (fun hf => ?_) (fun hf => ?_) <;> simp only [DB] at hf
  · refine go ?_
    refine rt ?_
    subst hf
    exact ⟨_, _, rfl, s4, fun _ => hs⟩
  refine go ?_
  refine WX.br (fun hg => ?_) (fun hg => ?_) <;> simp only [DB] at hg
  · refine go ?_
    refine rt ?_
    exact ⟨_, _, rfl, s4, fun h => by cases h⟩
  have hlt : atI ys i < atI ys (i - 1) := Int.not_le.1 fun hh => he ⟨by omega, hh⟩
  refine go ?_
  refine WX.regionU2 0 rfl rfl ?_
  have srX : SlI (inC (asideN 0 h4)) v ys := (s4.own).sl
  refine goU ?_
  refine WU2.swA (i) (i - 1) (s4).own (s4).ext (by rw [(s4).ext.mark]; exact hmB) ?_
  intro h6 e6 o6 u6
  have s6 := s4.swp e6 o6 u6 h0 hb (by omega) (by omega)
  have hz : ∀ p q, a ≤ p → p ≤ q → q < i → q ≠ i - 1 → atI (swp ys i (i - 1)) p ≤ atI (swp ys i (i - 1)) q := fun p q h1 h2 h3 h4 => by
    rw [swp_at (by omega) (by omega) (by omega), swp_at (by omega) (by omega) (by omega), if_neg (by omega), if_neg (by omega), if_neg (by omega), if_neg (by omega)]
    exact hs p q h1 h2 h3
  clear o6 e6 u6 s4 hl4 hs he hlt
  generalize swp ys i (i - 1) = zs at s6 hz
  have hl6 := s6.len
  refine go ?_
  refine WX.cutA [62, 63, 9, 64, 65, 68, 69, 70, 71, 72, 73, 74, 75, 76, 77, 78, 79, 80, 81, 82, 83, 84, 85, 86, 87, 88, 89, 90, 91, 92, 93, 94, 66, 67, 9] (by kernel_rfl) (fun t h' => ∃ ws, SS hB h v a b xs ws h' ∧ Srt a i ws) ?_ ?_
  · refine WX.br (fun hj => ?_) (fun hj => ?_) <;> simp only [DB] at hj <;> refine go ?_
    · refine WX.loopA [64, 65, 68, 69, 70, 71, 72, 73, 74, 75, 76, 77, 78, 79, 80, 81, 82, 83, 84, 85, 86, 87, 88, 89, 90, 91, 92, 93, 94, 66, 67, 9] (by kernel_rfl) (fun x => (x.2 + 1).toNat) (fun (x : List Int × Int) t h7 => SS hB h v a b xs x.1 h7 ∧ tmGet t 9 = I x.2 ∧ (a ≤ x.2 ∧ x.2 ≤ i - 1) ∧ ∀ p q, a ≤ p → p ≤ q → q < i → q ≠ x.2 → atI x.1 p ≤ atI x.1 q) (zs, i - 1) ?_ ?_
      · exact ⟨s6, sl_, by simp only; omega, hz⟩
      rintro ⟨ws, j⟩ t h7 hsame3 ⟨s7', s9, hj2, hw⟩
      simp only at s7' s9 hj2 hw
      have hl7 := s7'.len
      have fin : (j < 1 ∨ ¬ atI ws j < atI ws (j - 1)) → Srt a i ws := fun hor p q h1 h2 h3 => by
        by_cases e : q = j
        · by_cases e2 : p = j
          · rw [e, e2]; exact Int.le_refl _
          · have := hw p (j - 1) h1 (by omega) (by omega) (by omega)
            rw [e]
            rcases hor with hh | hh
            · omega
            · omega
        · exact hw p q h1 h2 h3 e
      refine go ?_
      refine WX.br (fun hk => ?_) (fun hk => ?_) <;> simp only [DB] at hk
      case refine_2 =>
        refine go ?_
        exact cutK_normal ⟨ws, s7', fin (.inl (by omega))⟩
      refine go ?_
      refine WX.regionU2 0 rfl rfl ?_
      have srX : SlI (inC (asideN 0 h7)) v ws := (s7'.own).sl
      refine goU ?_
      refine WO.con (less_ok _ (atI ws j) (atI ws (j - 1))) ?_
      rintro _ _ ⟨rfl, rfl⟩
      refine WO.nil ?_
      refine uK2_q ?_
      refine goU ?_
      rw [out_self]
      refine WX.br (fun hm => ?_) (fun hm => ?_) <;> simp only [DB] at hm
      · refine go ?_
        exact cutK_normal ⟨ws, s7', fin (.inr (by omega))⟩
      have hja : a < j := by
        by_cases e : a < j
        · exact e
        · have ej : j = a := by omega
          subst ej
          have := low.out ws s7'.pi (by omega) j (by omega) (by omega)
          omega
      refine go ?_
      refine WX.regionU2 0 rfl rfl ?_
      have srX : SlI (inC (asideN 0 h7)) v ws := (s7'.own).sl
      refine goU ?_
      refine WU2.swA (j) (j - 1) (s7').own (s7').ext (by rw [(s7').ext.mark]; exact hmB) ?_
      intro h8 e8 o8 u8
      have s8' := s7'.swp e8 o8 u8 h0 hb (by omega) (by omega)
      refine go ?_
      refine loopK_normal (swp ws j (j - 1), j - 1) (by simp only; omega) ⟨s8', sl_, by simp only; omega, fun p q h1 h2 h3 h4 => ?_⟩
      exact ins_step (i := i - 1) h0 hja (by omega) (by omega) hm (fun p q h1 h2 h3 h4 => hw p q h1 h2 (by omega) h4) p q h1 h2 (by omega) h4
    · exact cutK_normal ⟨zs, s6, Srt.small (by omega)⟩
  clear s6 hz hl6
  rintro t7 h7 hs7 ⟨zs, s6, hz⟩
  have hl6 := s6.len
  refine go ?_
  refine WX.cutA [99, 100, 10, 101, 102, 103, 106, 107, 108, 109, 110, 111, 112, 113, 114, 115, 116, 117, 118, 119, 120, 121, 122, 123, 124, 125, 126, 127, 128, 129, 130, 131, 132, 104, 105, 10] (by kernel_rfl) (fun t h' => ∃ ws, SS hB h v a b xs ws h' ∧ Srt a i ws) ?_ ?_
  · refine WX.br (fun hj => ?_) (fun hj => ?_) <;> simp only [DB] at hj <;> refine go ?_
    · refine WX.loopA [101, 102, 103, 106, 107, 108, 109, 110, 111, 112, 113, 114, 115, 116, 117, 118, 119, 120, 121, 122, 123, 124, 125, 126, 127, 128, 129, 130, 131, 132, 104, 105, 10] (by kernel_rfl) (fun x => (b - x.2).toNat) (fun (x : List Int × Int) t h7 => SS hB h v a b xs x.1 h7 ∧ tmGet t 10 = I x.2 ∧ (i + 1 ≤ x.2 ∧ x.2 ≤ b) ∧ Srt a i x.1) (zs, i + 1) ?_ ?_
      · exact ⟨s6, sl_, by simp only; omega, hz⟩
      rintro ⟨ws, j⟩ t h7 hsame3 ⟨s7', s10, hj2, hw⟩
      simp only at s7' s10 hj2 hw
      have hl7 := s7'.len
      refine go ?_
      refine WX.br (fun hk => ?_) (fun hk => ?_) <;> simp only [DB] at hk
      case refine_2 =>
        refine go ?_
        exact cutK_normal ⟨ws, s7', hw⟩
      refine go ?_
      refine WX.regionU2 0 rfl rfl ?_
      have srX : SlI (inC (asideN 0 h7)) v ws := (s7'.own).sl
      refine goU ?_
      refine WO.con (less_ok _ (atI ws j) (atI ws (j - 1))) ?_
      rintro _ _ ⟨rfl, rfl⟩
      refine WO.nil ?_
      refine uK2_q ?_
      refine goU ?_
      rw [out_self]
      refine WX.br (fun hm => ?_) (fun hm => ?_) <;> simp only [DB] at hm
      · refine go ?_
        exact cutK_normal ⟨ws, s7', hw⟩
      refine go ?_
      refine WX.regionU2 0 rfl rfl ?_
      have srX : SlI (inC (asideN 0 h7)) v ws := (s7'.own).sl
      refine goU ?_
      refine WU2.swA (j) (j - 1) (s7').own (s7').ext (by rw [(s7').ext.mark]; exact hmB) ?_
      intro h8 e8 o8 u8
      have s8' := s7'.swp e8 o8 u8 h0 hb (by omega) (by omega)
      refine go ?_
      exact loopK_normal (swp ws j (j - 1), j + 1) (by simp only; omega) ⟨s8', sl_, by simp only; omega, srt_swp h0 (by omega) (by omega) hw⟩
    · exact cutK_normal ⟨zs, s6, hz⟩
  clear s6 hz hl6
  rintro t8 h8 hs8 ⟨zs, s6, hz⟩
  refine go ?_
  exact loopK_normal (zs, i, c + 1) (by simp only; omega) ⟨s6, sl_, sl_, hi, by simp only; omega, hz⟩

noncomputable def body58_0 : ACode := (.block 1 (.seq (.region [⟨some 19, none, (.mov (.tmp 2))⟩, ⟨some 20, none, (.mov (.tmp 1))⟩, ⟨some 21, none, (.bin .sub (.tmp 19) (.tmp 20))⟩, ⟨some 10, none, (.mov (.tmp 21))⟩]) (.seq (.seq (.region [⟨some 22, none, (.mov (.tmp 10))⟩, ⟨some 23, none, (.bin .leq (.tmp 22) (.const (.int .i64 12)))⟩]) (.cond (.tmp 23) (.seq (.region [⟨some 24, none, (.mov (.tmp 0))⟩, ⟨some 25, none, (.mov (.tmp 1))⟩, ⟨some 26, none, (.mov (.tmp 2))⟩, ⟨some 27, none, (.call (.func 65) [(.tmp 24), (.tmp 25), (.tmp 26)])⟩]) .ret) .skip)) (.seq (.seq (.region [⟨some 28, none, (.mov (.tmp 3))⟩, ⟨some 29, none, (.bin .eql (.tmp 28) (.const (.int .i64 0)))⟩]) (.cond (.tmp 29) (.seq (.region [⟨some 30, none, (.mov (.tmp 0))⟩, ⟨some 31, none, (.mov (.tmp 1))⟩, ⟨some 32, none, (.mov (.tmp 2))⟩, ⟨some 33, none, (.call (.func 66) [(.tmp 30), (.tmp 31), (.tmp 32)])⟩]) .ret) .skip)) (.seq (.seq (.region [⟨some 34, none, (.mov (.tmp 8))⟩, ⟨some 35, none, (.un .not (.tmp 34))⟩]) (.cond (.tmp 35) (.seq (.region [⟨some 36, none, (.mov (.tmp 0))⟩, ⟨some 37, none, (.mov (.tmp 1))⟩, ⟨some 38, none, (.mov (.tmp 2))⟩, ⟨some 39, none, (.call (.func 67) [(.tmp 36), (.tmp 37), (.tmp 38)])⟩]) (.region [⟨some 40, none, (.mov (.tmp 3))⟩, ⟨some 41, none, (.bin .sub (.tmp 40) (.const (.int .i64 1)))⟩, ⟨some 3, none, (.mov (.tmp 41))⟩])) .skip)) (.seq (.region [⟨some 43, none, (.mov (.tmp 0))⟩, ⟨some 44, none, (.mov (.tmp 1))⟩, ⟨some 45, none, (.mov (.tmp 2))⟩, ⟨some 46, none, (.call (.func 68) [(.tmp 43), (.tmp 44), (.tmp 45)])⟩, ⟨some 42, none, (.mov (.tmp 46))⟩, ⟨some 47, none, (.extract (.tmp 42) 0)⟩, ⟨some 48, none, (.extract (.tmp 42) 1)⟩, ⟨some 11, none, (.mov (.tmp 47))⟩, ⟨some 12, none, (.mov (.tmp 48))⟩]) (.seq (.seq (.region [⟨some 49, none, (.mov (.tmp 12))⟩, ⟨some 50, none, (.bin .eql (.tmp 49) (.const (.int .i64 2)))⟩]) (.cond (.tmp 50) (.seq (.region [⟨some 51, none, (.mov (.tmp 0))⟩, ⟨some 52, none, (.mov (.tmp 1))⟩, ⟨some 53, none, (.mov (.tmp 2))⟩, ⟨some 54, none, (.call (.func 69) [(.tmp 51), (.tmp 52), (.tmp 53)])⟩]) (.seq (.region [⟨some 55, none, (.mov (.tmp 2))⟩, ⟨some 56, none, (.bin .sub (.tmp 55) (.const (.int .i64 1)))⟩, ⟨some 57, none, (.mov (.tmp 11))⟩, ⟨some 58, none, (.mov (.tmp 1))⟩, ⟨some 59, none, (.bin .sub (.tmp 57) (.tmp 58))⟩, ⟨some 60, none, (.bin .sub (.tmp 56) (.tmp 59))⟩, ⟨some 11, none, (.mov (.tmp 60))⟩]) (.region [⟨some 12, none, (.mov (.const (.int .i64 1)))⟩]))) .skip)) (.seq (.seq (.region [⟨some 61, none, (.mov (.tmp 8))⟩, ⟨some 62, none, (.mov (.tmp 61))⟩, ⟨some 63, some (62, true), (.mov (.tmp 9))⟩, ⟨some 64, none, (.pick (.tmp 62) (.tmp 63) (.const (.bool false)))⟩, ⟨some 65, none, (.mov (.tmp 64))⟩, ⟨some 66, some (65, true), (.mov (.tmp 12))⟩, ⟨some 67, some (65, true), (.bin .eql (.tmp 66) (.const (.int .i64 1)))⟩, ⟨some 68, none, (.pick (.tmp 65) (.tmp 67) (.const (.bool false)))⟩]) (.cond (.tmp 68) (.seq (.region [⟨some 69, none, (.mov (.tmp 0))⟩, ⟨some 70, none, (.mov (.tmp 1))⟩, ⟨some 71, none, (.mov (.tmp 2))⟩, ⟨some 72, none, (.call (.func 70) [(.tmp 69), (.tmp 70), (.tmp 71)])⟩]) (.cond (.tmp 72) .ret .skip)) .skip)) (.seq (.seq (.regionC [(⟨some 73, none, (.mov (.tmp 1))⟩, []), (⟨some 74, none, (.bin .gtr (.tmp 73) (.const (.int .i64 0)))⟩, []), (⟨some 75, none, (.mov (.tmp 74))⟩, []), (⟨some 76, some (75, true), (.mov (.tmp 0))⟩, []), (⟨some 77, some (75, true), (.mov (.tmp 1))⟩, []), (⟨some 78, some (75, true), (.bin .sub (.tmp 77) (.const (.int .i64 1)))⟩, []), (⟨some 79, some (75, true), (.idx 1 (.tmp 76) (.tmp 78))⟩, []), (⟨some 80, some (75, true), (.load false 1 (.tmp 79))⟩, []), (⟨some 81, some (75, true), (.mov (.tmp 0))⟩, []), (⟨some 82, some (75, true), (.mov (.tmp 11))⟩, []), (⟨some 83, some (75, true), (.idx 1 (.tmp 81) (.tmp 82))⟩, []), (⟨some 84, some (75, true), (.load false 1 (.tmp 83))⟩, []), (⟨some 85, some (75, true), (.call (.func 71) [(.tmp 80), (.tmp 84)])⟩, []), (⟨some 86, some (75, true), (.un .not (.tmp 85))⟩, []), (⟨some 87, none, (.pick (.tmp 75) (.tmp 86) (.const (.bool false)))⟩, [])]) (.cond (.tmp 87) (.seq (.region [⟨some 88, none, (.mov (.tmp 0))⟩, ⟨some 89, none, (.mov (.tmp 1))⟩, ⟨some 90, none, (.mov (.tmp 2))⟩, ⟨some 91, none, (.mov (.tmp 11))⟩, ⟨some 92, none, (.call (.func 72) [(.tmp 88), (.tmp 89), (.tmp 90), (.tmp 91)])⟩, ⟨some 13, none, (.mov (.tmp 92))⟩]) (.seq (.region [⟨some 93, none, (.mov (.tmp 13))⟩, ⟨some 1, none, (.mov (.tmp 93))⟩]) (.exit 1))) .skip)) (.seq (.region [⟨some 95, none, (.mov (.tmp 0))⟩, ⟨some 96, none, (.mov (.tmp 1))⟩, ⟨some 97, none, (.mov (.tmp 2))⟩, ⟨some 98, none, (.mov (.tmp 11))⟩, ⟨some 99, none, (.call (.func 73) [(.tmp 95), (.tmp 96), (.tmp 97), (.tmp 98)])⟩, ⟨some 94, none, (.mov (.tmp 99))⟩, ⟨some 100, none, (.extract (.tmp 94) 0)⟩, ⟨some 101, none, (.extract (.tmp 94) 1)⟩, ⟨some 14, none, (.mov (.tmp 100))⟩, ⟨some 15, none, (.mov (.tmp 101))⟩]) (.seq (.region [⟨some 102, none, (.mov (.tmp 15))⟩, ⟨some 9, none, (.mov (.tmp 102))⟩]) (.seq (.region [⟨some 103, none, (.mov (.tmp 14))⟩, ⟨some 104, none, (.mov (.tmp 1))⟩, ⟨some 105, none, (.bin .sub (.tmp 103) (.tmp 104))⟩, ⟨some 106, none, (.mov (.tmp 2))⟩, ⟨some 107, none, (.mov (.tmp 14))⟩, ⟨some 108, none, (.bin .sub (.tmp 106) (.tmp 107))⟩, ⟨some 16, none, (.mov (.tmp 105))⟩, ⟨some 17, none, (.mov (.tmp 108))⟩]) (.seq (.region [⟨some 109, none, (.mov (.tmp 10))⟩, ⟨some 110, none, (.bin .quo (.tmp 109) (.const (.int .i64 8)))⟩, ⟨some 18, none, (.mov (.tmp 110))⟩]) (.seq (.region [⟨some 111, none, (.mov (.tmp 16))⟩, ⟨some 112, none, (.mov (.tmp 17))⟩, ⟨some 113, none, (.bin .lss (.tmp 111) (.tmp 112))⟩]) (.cond (.tmp 113) (.seq (.region [⟨some 114, none, (.mov (.tmp 16))⟩, ⟨some 115, none, (.mov (.tmp 18))⟩, ⟨some 116, none, (.bin .geq (.tmp 114) (.tmp 115))⟩, ⟨some 8, none, (.mov (.tmp 116))⟩]) (.seq (.region [⟨some 117, none, (.mov (.tmp 0))⟩, ⟨some 118, none, (.mov (.tmp 1))⟩, ⟨some 119, none, (.mov (.tmp 14))⟩, ⟨some 120, none, (.mov (.tmp 3))⟩, ⟨some 121, none, (.call (.func 58) [(.tmp 117), (.tmp 118), (.tmp 119), (.tmp 120)])⟩]) (.region [⟨some 122, none, (.mov (.tmp 14))⟩, ⟨some 123, none, (.bin .add (.tmp 122) (.const (.int .i64 1)))⟩, ⟨some 1, none, (.mov (.tmp 123))⟩]))) (.seq (.region [⟨some 124, none, (.mov (.tmp 17))⟩, ⟨some 125, none, (.mov (.tmp 18))⟩, ⟨some 126, none, (.bin .geq (.tmp 124) (.tmp 125))⟩, ⟨some 8, none, (.mov (.tmp 126))⟩]) (.seq (.region [⟨some 127, none, (.mov (.tmp 0))⟩, ⟨some 128, none, (.mov (.tmp 14))⟩, ⟨some 129, none, (.bin .add (.tmp 128) (.const (.int .i64 1)))⟩, ⟨some 130, none, (.mov (.tmp 2))⟩, ⟨some 131, none, (.mov (.tmp 3))⟩, ⟨some 132, none, (.call (.func 58) [(.tmp 127), (.tmp 129), (.tmp 130), (.tmp 131)])⟩]) (.region [⟨some 133, none, (.mov (.tmp 14))⟩, ⟨some 2, none, (.mov (.tmp 133))⟩]))))))))))))))))))
noncomputable def body58 : ACode := (.seq (.region [⟨some 8, none, (.mov (.const (.bool true)))⟩]) (.seq (.region [⟨some 9, none, (.mov (.const (.bool true)))⟩]) (.block 0 (.loop body58_0))))
set_option maxRecDepth 100000 in
theorem tab58 : tb.code 58 = some ⟨134, [], body58⟩ := by kernel_rfl
theorem pdq_ok (n : Nat) : ∀ (hB h : AHeap) (v : Value) (xs : List Int) (a b lim : Int) (e0 : Ext hB h) (hmB : hB.mark ≤ hB.n) (o : OwnI hB h v xs) (h0 : 0 ≤ a) (hab : a ≤ b) (hb : b ≤ xs.length) (hn : b - a ≤ n) (hlen : xs.length ≤ 1000000000) (hlim : 0 ≤ lim ∧ lim ≤ 1000) (hpre : 0 < a → ∀ k, a ≤ k → k < b → atI xs (a - 1) ≤ atI xs k),
    WC Tryd.prog tb 58 [v, I a, I b, I lim] h fun r h' => ∃ ys, SS hB h v a b xs ys h' ∧ Srt a b ys := by
  induction n using Nat.strongRecOn with
  | _ n IH =>
  intro hB h v xs a b lim e0 hmB o h0 hab hb hn hlen hlim hpre
  have IH := Hid.mk IH
  have s0 := SS.start a b o e0
  refine WC.of (nostub 58) tab58 ?_; simp only [mkTm, Nat.zero_add, Nat.reduceAdd]
  refine go ?_
  refine WX.loopA [19, 20, 21, 10, 22, 23, 24, 25, 26, 27, 28, 29, 30, 31, 32, 33, 34, 35, 36, 37, 38, 39, 40, 41, 3, 43, 44, 45, 46, 42, 47, 48, 11, 12, 49, 50, 51, 52, 53, 54, 55, 56, 57, 58, 59, 60, 11, 12, 61, 62, 63, 64, 65, 66, 67, 68, 69, 70, 71, 72, 73, 74, 75, 76, 77, 78, 79, 80, 81, 82, 83, 84, 85, 86, 87, 88, 89, 90, 91, 92, 13, 93, 1, 95, 96, 97, 98, 99, 94, 100, 101, 14, 15, 102, 9, 103, 104, 105, 106, 107, 108, 16, 17, 109, 110, 18, 111, 112, 113, 114, 115, 116, 8, 117, 118, 119, 120, 121, 122, 123, 1, 124, 125, 126, 8, 127, 128, 129, 130, 131, 132, 133, 2] (by kernel_rfl) (fun x => (x.2.2.1 - x.2.1).toNat) (fun (x : List Int × Int × Int × Int × Bool × Bool) t h4 => SS hB h v a b xs x.1 h4 ∧ tmGet t 1 = I x.2.1 ∧ tmGet t 2 = I x.2.2.1 ∧ tmGet t 3 = I x.2.2.2.1 ∧ tmGet t 8 = .bool x.2.2.2.2.1 ∧ tmGet t 9 = .bool x.2.2.2.2.2 ∧ (a ≤ x.2.1 ∧ x.2.1 ≤ x.2.2.1 ∧ x.2.2.1 ≤ b) ∧ (0 ≤ x.2.2.2.1 ∧ x.2.2.2.1 ≤ 1000) ∧ Srt a x.2.1 x.1 ∧ Srt x.2.2.1 b x.1 ∧ (∀ p q, a ≤ p → p < x.2.1 → x.2.1 ≤ q → q < b → atI x.1 p ≤ atI x.1 q) ∧ (∀ p q, a ≤ p → p < x.2.2.1 → x.2.2.1 ≤ q → q < b → atI x.1 p ≤ atI x.1 q) ∧ (0 < x.2.1 → ∀ k, x.2.1 ≤ k → k < x.2.2.1 → atI x.1 (x.2.1 - 1) ≤ atI x.1 k)) (xs, a, b, lim, true, true) ?_ ?_
  · exact ⟨s0, sl_, sl_, sl_, sl_, sl_, by simp only; omega, hlim, Srt.small (by simp only; omega), Srt.small (by simp only; omega), fun p q h1 h2 => by simp only at h2; omega, fun p q h1 h2 h3 h4 => by simp only at h3; omega, hpre⟩
  rintro ⟨ys, c, d, lm, wb, wp⟩ t h4 hsame ⟨s4, s1, s2, s3, s8, s9, hcd, hlm, rA, rB, rL, rH, hpr⟩
  simp only at s4 s1 s2 s3 s8 s9 hcd hlm rA rB rL rH hpr
  have hl4 := s4.len
  -- what is sorted in its place is sorted in the whole
  have whole : Hid (∀ zs h5, SS hB h4 v c d ys zs h5 → Srt c d zs → SS hB h v a b xs zs h5 ∧ Srt a b zs) := Hid.mk fun zs h5 s5 r5 => by
    refine ⟨s4.call s5 hcd.1 hcd.2.2, fun p q h1 h2 h3 => ?_⟩
    have p5 := s5.pi
    have o5 := p5.out
    by_cases hq : q < c
    · rw [o5 p (by omega) (.inl (by omega)), o5 q (by omega) (.inl hq)]; exact rA p q h1 h2 hq
    by_cases hp : d ≤ p
    · rw [o5 p (by omega) (.inr hp), o5 q (by omega) (.inr (by omega))]; exact rB p q hp h2 h3
    by_cases hp2 : p < c
    · rw [o5 p (by omega) (.inl hp2)]
      by_cases hq2 : d ≤ q
      · rw [o5 q (by omega) (.inr hq2)]; exact rL p q h1 hp2 (by omega) h3
      · exact p5.all (p := fun x => atI ys p ≤ x) (by omega) (by omega) (fun k hk1 hk2 => rL p k h1 hp2 hk1 (by omega)) q (by omega) (by omega)
    · by_cases hq2 : d ≤ q
      · rw [o5 q (by omega) (.inr hq2)]
        exact p5.all (p := fun x => x ≤ atI ys q) (by omega) (by omega) (fun k hk1 hk2 => rH k q (by omega) hk2 hq2 h3) p (by omega) (by omega)
      · exact r5 p q (by omega) h2 (by omega)
  refine go ?_
  refine WX.br (fun hx => ?_) (fun hx => ?_) <;> simp only [DB] at hx
  · refine go ?_
    refine WO.con (insertion_ok hB h4 v ys c d s4.ext hmB s4.own (by omega) (by omega) (by omega) (by omega)) ?_
    rintro _ h5 ⟨zs, o5, p5, r5, e5, u5⟩
    refine go ?_
    refine rt ?_
    exact ⟨zs, whole.out zs h5 ⟨o5, e5, u5, p5⟩ r5⟩
  refine go ?_
  refine WX.br (fun hy => ?_) (fun hy => ?_) <;> simp only [DB] at hy
  · refine go ?_
    refine WO.con (heap_ok hB h4 v ys c d s4.ext hmB s4.own (by omega) (by omega) (by omega) (by omega)) ?_
    rintro _ h5 ⟨zs, s5, r5⟩
    refine go ?_
    refine rt ?_
    exact ⟨zs, whole.out zs h5 s5 r5⟩
  refine go ?_
  refine WX.cutA [36, 37, 38, 39, 40, 41, 3] (by kernel_rfl) (fun t h' => ∃ zs l2, SS hB h4 v c d ys zs h' ∧ tmGet t 3 = I l2 ∧ 0 ≤ l2 ∧ l2 ≤ 1000) ?_ ?_
  · refine WX.br (fun hz => ?_) (fun hz => ?_) <;> simp only [DB] at hz <;> refine go ?_
    · refine WO.con (break_ok hB h4 v ys c d s4.ext hmB s4.own (by omega) (by omega) (by omega) (by omega)) ?_
      rintro _ h5 ⟨zs, s5⟩
      refine go ?_
      exact cutK_normal ⟨zs, lm - 1, s5, sl_, by omega, by omega⟩
    · exact cutK_normal ⟨ys, lm, SS.start c d s4.own s4.ext, sl_, hlm.1, hlm.2⟩
  rintro t5 h5 hs5 ⟨zs, l2, s5, q3, hl2⟩
  have hl5 := s5.len
  refine go ?_
  refine WO.con (pivot_ok h5 v zs c d s5.own.sl (by omega) (by omega) (by omega) (by omega)) ?_
  rintro _ h6 ⟨⟨pv, hint, rfl, hpv⟩, e6⟩
  have s6 := s5.extd e6
  refine go ?_
  refine WX.cutA [51, 52, 53, 54, 55, 56, 57, 58, 59, 60, 11, 12] (by kernel_rfl) (fun t h' => ∃ ws p2 hi2, SS hB h4 v c d ys ws h' ∧ tmGet t 11 = I p2 ∧ tmGet t 12 = I hi2 ∧ c ≤ p2 ∧ p2 < d) ?_ ?_
  · refine WX.br (fun hz => ?_) (fun hz => ?_) <;> simp only [DB] at hz <;> refine go ?_
    · refine WO.con (reverse_ok hB h6 v zs c d s6.ext hmB s6.own (by omega) (by omega) (by omega) (by omega)) ?_
      rintro _ h7 ⟨ws, s7⟩
      refine go ?_
      exact cutK_normal ⟨ws, _, 1, s6.call s7 (by omega) (by omega), sl_, sl_, by omega, by omega⟩
    · exact cutK_normal ⟨zs, pv, hint, s6, sl_, sl_, hpv.1, hpv.2⟩
  clear s5 s6 hl5
  rintro t7 h7 hs7 ⟨ws, p2, hi2, s7, q11, q12, hp2⟩
  have hl7 := s7.len
  have low7 : Hid (∀ us, PI c d ys us → 0 < c → ∀ k, c ≤ k → k < d → atI us (c - 1) ≤ atI us k) := Hid.mk fun us p hc => by
    rw [p.out (c - 1) (by omega) (.inl (by omega))]
    exact p.all (p := fun x => atI ys (c - 1) ≤ x) (by omega) (by omega) (hpr hc)
  have env : Hid (∀ us, PI c d ys us → Srt a c us ∧ Srt d b us ∧ (∀ p q, a ≤ p → p < c → c ≤ q → q < b → atI us p ≤ atI us q) ∧ (∀ p q, a ≤ p → p < d → d ≤ q → q < b → atI us p ≤ atI us q)) := Hid.mk fun us p5 => by
    have o5 := p5.out
    refine ⟨fun p q h1 h2 h3 => ?_, fun p q h1 h2 h3 => ?_, fun p q h1 h2 h3 h4 => ?_, fun p q h1 h2 h3 h4 => ?_⟩
    · rw [o5 p (by omega) (.inl (by omega)), o5 q (by omega) (.inl h3)]; exact rA p q h1 h2 h3
    · rw [o5 p (by omega) (.inr (by omega)), o5 q (by omega) (.inr (by omega))]; exact rB p q h1 h2 h3
    · rw [o5 p (by omega) (.inl (by omega))]
      by_cases hq2 : d ≤ q
      · rw [o5 q (by omega) (.inr hq2)]; exact rL p q h1 h2 h3 h4
      · exact p5.all (p := fun x => atI ys p ≤ x) (by omega) (by omega) (fun k hk1 hk2 => rL p k h1 h2 hk1 (by omega)) q h3 (by omega)
    · rw [o5 q (by omega) (.inr (by omega))]
      by_cases hp : p < c
      · rw [o5 p (by omega) (.inl hp)]; exact rH p q h1 h2 h3 h4
      · exact p5.all (p := fun x => x ≤ atI ys q) (by omega) (by omega) (fun k hk1 hk2 => rH k q (by omega) hk2 h3 h4) p (by omega) h2
  clear rA rB rL rH hpr
  refine go ?_
  refine WO.mid 6 (fun t' h' => h7 = h' ∧ ∃ bb, tmGet t' 68 = .bool bb) ?_ ?_ <;> simp only [List.take_succ_cons, List.take_zero, List.drop_succ_cons, List.drop_zero]
  · cases wb <;> cases wp <;> refine go ?_ <;> exact ⟨rfl, rfl, rfl, _, sl_⟩
  rintro t8 _ hs8 ⟨rfl, bb, q68⟩
  refine go ?_
  refine WX.cutA [69, 70, 71, 72] (by kernel_rfl) (fun t h' => ∃ us, SS hB h4 v c d ys us h') ?_ ?_
  · refine WX.br (fun hz => ?_) (fun hz => ?_) <;> refine go ?_
    · refine WO.con (partial_ok hB h7 v ws c d s7.ext hmB s7.own (by omega) (by omega) (by omega) (by omega) (low7.out ws s7.pi)) ?_
      rintro _ h9 ⟨us, w, rfl, s9', r9⟩
      have r9 := Hid.mk r9
      refine WO.nil ?_
      refine thenK_normal ?_
      refine WX.br (fun hw => ?_) (fun hw => ?_)
      · refine WX.ret ?_
        refine cutK_ret ?_
        refine go ?_
        refine rt ?_
        exact ⟨us, whole.out us h9 (s7.call s9' (by omega) (by omega)) (r9.out hw)⟩
      · refine WX.skip ?_
        exact cutK_normal ⟨us, s7.call s9' (by omega) (by omega)⟩
    · exact cutK_normal ⟨ws, s7⟩
  clear s7 hl7
  rintro t9 h9 hs9 ⟨us, s9'⟩
  have hl9 := s9'.len
  refine go ?_
  refine WX.cutA [73, 74, 75, 76, 77, 78, 79, 80, 81, 82, 83, 84, 85, 86, 87] (by kernel_rfl) (fun t h' => h9 = h' ∧ tmGet t 87 = .bool (decide (0 < c ∧ ¬(atI us (c - 1) < atI us p2)))) ?_ ?_
  · refine WX.regionU2 0 rfl rfl ?_
    have srX : SlI (inC (asideN 0 h9)) v us := (s9'.own).sl
    refine goU ?_
    refine WO.sp (fun hd => ?_) (fun hd => ?_) <;> simp only [DB] at hd <;> refine goU ?_
    · refine WO.con (less_ok _ (atI us (c - 1)) (atI us p2)) ?_
      rintro _ _ ⟨rfl, rfl⟩
      refine WO.nil ?_
      refine uK2_q ?_
      refine goU ?_
      exact cutK_normal ⟨rfl, by rw [show decide (0 < c ∧ ¬(atI us (c - 1) < atI us p2)) = !decide (atI us (c - 1) < atI us p2) from dec_neg hd]; exact sl_⟩
    · exact cutK_normal ⟨rfl, by rw [show decide (0 < c ∧ ¬(atI us (c - 1) < atI us p2)) = false from decide_eq_false (fun hh => absurd hh.1 (by omega))]; exact sl_⟩
  rintro t10 _ hs10 ⟨rfl, q10⟩
  refine go ?_
  refine WX.br (fun hz => ?_) (fun hz => ?_) <;> simp only [DB] at hz <;> refine go ?_
  · refine WO.con (partEqual_ok hB h9 v us c d p2 s9'.ext hmB s9'.own (by omega) (by omega) (by omega) (by omega)) ?_
    rintro _ h11 ⟨zs, m, rfl, s11, hm, lo, hi⟩
    have sw := s9'.call s11 (Int.le_refl _) (Int.le_refl _)
    obtain ⟨eA, eB, eL, eH⟩ := env.out zs sw.pi
    have lz := low7.out zs sw.pi hz.1
    have hP : atI us p2 ≤ atI zs (c - 1) := by
      rw [s11.pi.out (c - 1) (by omega) (.inl (by omega))]; omega
    refine go ?_
    refine loopK_normal (zs, m, d, l2, wb, wp) (by simp only; omega) ⟨s4.call sw hcd.1 hcd.2.2, sl_, sl_, sl_, sl_, sl_, by simp only; omega, hl2, fun p q h1 h2 h3 => ?_, eB, fun p q h1 h2 h3 h4 => ?_, eH, fun h1 k h2 h3 => ?_⟩
    · simp only at h3 ⊢
      by_cases hq : q < c
      · exact eA p q h1 h2 hq
      by_cases hp : p < c
      · exact eL p q h1 hp (by omega) (by omega)
      · have x1 := lo p (by omega) (by omega); have x2 := lz q (by omega) (by omega); omega
    · simp only at h2 h3 ⊢
      by_cases hp : p < c
      · exact eL p q h1 hp (by omega) h4
      by_cases hq : d ≤ q
      · exact eH p q h1 (by omega) hq h4
      · have x1 := lo p (by omega) (by omega); have x2 := hi q (by omega) (by omega); omega
    · simp only at h1 h2 h3 ⊢
      have x1 := lo (m - 1) (by omega) (by omega); have x2 := hi k (by omega) (by omega); omega
  · refine WO.con (partition_ok hB h9 v us c d p2 s9'.ext hmB s9'.own (by omega) (by omega) (by omega) (by omega)) ?_
    rintro _ h11 ⟨zs, m, w, rfl, s11, hm, lo, hi⟩
    have sw := s9'.call s11 (Int.le_refl _) (Int.le_refl _)
    have hlw := sw.len
    refine go ?_
    refine WO.quo (a := d - c) (c := 8) (by decide) (by rw [Int.tdiv_eq_ediv_of_nonneg (by omega)]; omega) (by rw [Int.tdiv_eq_ediv_of_nonneg (by omega)]; omega) ?_
    refine go ?_
    refine WX.br (fun hy2 => ?_) (fun hy2 => ?_) <;> simp only [DB] at hy2 <;> refine go ?_
    · refine WO.con (IH.out (m - c).toNat (by omega) hB h11 v zs c m l2 sw.ext hmB sw.own (by omega) (by omega) (by omega) (by omega) (by omega) hl2 (fun h1 k h2 h3 => low7.out zs sw.pi h1 k h2 (by omega))) ?_
      rintro _ h12 ⟨vs, s12, r12⟩
      have st := sw.call s12 (Int.le_refl _) (by omega)
      obtain ⟨eA, eB, eL, eH⟩ := env.out vs st.pi
      have same : ∀ k, m ≤ k → atI vs k = atI zs k := fun k hk => s12.pi.out k (by omega) (.inr hk)
      have left : ∀ k, c ≤ k → k < m → atI vs k ≤ atI zs m := s12.pi.all (p := fun x => x ≤ atI zs m) (by omega) (by omega) (fun k h1 h2 => lo k h1 h2)
      refine go ?_
      refine loopK_normal (vs, m + 1, d, l2, decide ((d - c).tdiv 8 ≤ m - c), w) (by simp only; omega) ⟨s4.call st hcd.1 hcd.2.2, sl_, sl_, sl_, sl_, sl_, by simp only; omega, hl2, fun p q h1 h2 h3 => ?_, eB, fun p q h1 h2 h3 h4 => ?_, eH, fun h1 k h2 h3 => ?_⟩
      · simp only at h3 ⊢
        by_cases hq : q < c
        · exact eA p q h1 h2 hq
        by_cases hp : p < c
        · exact eL p q h1 hp (by omega) (by omega)
        by_cases hqm : q = m
        · by_cases hpm : p = m
          · rw [hqm, hpm]; exact Int.le_refl _
          · rw [hqm, same m (Int.le_refl _)]; exact left p (by omega) (by omega)
        · exact r12 p q (by omega) h2 (by omega)
      · simp only at h2 h3 ⊢
        by_cases hp : p < c
        · exact eL p q h1 hp (by omega) h4
        by_cases hq : d ≤ q
        · exact eH p q h1 (by omega) hq h4
        · rw [same q (by omega)]
          have x2 := hi q (by omega) (by omega)
          by_cases hpm : p = m
          · rw [hpm, same m (Int.le_refl _)]; exact x2
          · have x1 := left p (by omega) (by omega); omega
      · simp only at h1 h2 h3 ⊢
        rw [show m + 1 - 1 = m by omega, same m (Int.le_refl _), same k (by omega)]
        exact hi k (by omega) h3
    · refine WO.con (IH.out (d - (m + 1)).toNat (by omega) hB h11 v zs (m + 1) d l2 sw.ext hmB sw.own (by omega) (by omega) (by omega) (by omega) (by omega) hl2 (fun h1 k h2 h3 => by rw [show m + 1 - 1 = m by omega]; exact hi k (by omega) h3)) ?_
      rintro _ h12 ⟨vs, s12, r12⟩
      have st := sw.call s12 (by omega) (Int.le_refl _)
      obtain ⟨eA, eB, eL, eH⟩ := env.out vs st.pi
      have same : ∀ k, 0 ≤ k → k ≤ m → atI vs k = atI zs k := fun k h0 hk => s12.pi.out k h0 (.inl (by omega))
      have right : ∀ k, m + 1 ≤ k → k < d → atI zs m ≤ atI vs k := s12.pi.all (p := fun x => atI zs m ≤ x) (by omega) (by omega) (fun k h1 h2 => hi k (by omega) h2)
      refine go ?_
      refine loopK_normal (vs, c, m, l2, decide ((d - c).tdiv 8 ≤ d - m), w) (by simp only; omega) ⟨s4.call st hcd.1 hcd.2.2, sl_, sl_, sl_, sl_, sl_, by simp only; omega, hl2, eA, fun p q h1 h2 h3 => ?_, eL, fun p q h1 h2 h3 h4 => ?_, fun h1 k h2 h3 => ?_⟩
      · simp only at h1 ⊢
        by_cases hp : d ≤ p
        · exact eB p q hp h2 h3
        by_cases hq : d ≤ q
        · exact eH p q (by omega) (by omega) hq h3
        by_cases hpm : p = m
        · by_cases hqm : q = m
          · rw [hqm, hpm]; exact Int.le_refl _
          · rw [hpm, same m (by omega) (Int.le_refl _)]; exact right q (by omega) (by omega)
        · exact r12 p q (by omega) h2 (by omega)
      · simp only at h2 h3 ⊢
        by_cases hp : p < c
        · exact eL p q h1 hp (by omega) h4
        by_cases hq : d ≤ q
        · exact eH p q h1 (by omega) hq h4
        · have x1 := lo p (by omega) h2
          rw [same p (by omega) (by omega)]
          by_cases hqm : q = m
          · rw [hqm, same m (by omega) (Int.le_refl _)]; exact x1
          · have x2 := right q (by omega) (by omega); omega
      · simp only at h1 h2 h3 ⊢
        exact low7.out vs st.pi h1 k h2 (by omega)

theorem insertion_nil (h : AHeap) : WC Tryd.prog tb 65 [.slice none 0 0, I 0, I 0] h fun r h' => h = h' := by
  refine WC.of (nostub 65) tab65 ?_; simp only [mkTm, Nat.zero_add, Nat.reduceAdd]
  refine go ?_
  refine WX.loopA [10, 11, 12, 15, 7, 16, 17, 18, 19, 20, 21, 22, 23, 24, 25, 26, 27, 28, 29, 30, 33, 34, 35, 36, 37, 38, 39, 40, 41, 42, 43, 44, 45, 46, 47, 48, 31, 32, 7, 13, 14, 6] (by kernel_rfl) (fun _ => 0) (fun (_ : Unit) t h1 => h = h1 ∧ tmGet t 6 = I 1) () ?_ ?_
  · exact ⟨rfl, sl_⟩
  rintro _ t _ hsame ⟨rfl, s6⟩
  refine go ?_
  refine rtN ?_
  rfl
theorem pdq_nil (h : AHeap) (k : Int) : WC Tryd.prog tb 58 [.slice none 0 0, I 0, I 0, I k] h fun r h' => h = h' := by
  refine WC.of (nostub 58) tab58 ?_; simp only [mkTm, Nat.zero_add, Nat.reduceAdd]
  refine go ?_
  refine WX.loopA [19, 20, 21, 10, 22, 23, 24, 25, 26, 27, 28, 29, 30, 31, 32, 33, 34, 35, 36, 37, 38, 39, 40, 41, 3, 43, 44, 45, 46, 42, 47, 48, 11, 12, 49, 50, 51, 52, 53, 54, 55, 56, 57, 58, 59, 60, 11, 12, 61, 62, 63, 64, 65, 66, 67, 68, 69, 70, 71, 72, 73, 74, 75, 76, 77, 78, 79, 80, 81, 82, 83, 84, 85, 86, 87, 88, 89, 90, 91, 92, 13, 93, 1, 95, 96, 97, 98, 99, 94, 100, 101, 14, 15, 102, 9, 103, 104, 105, 106, 107, 108, 16, 17, 109, 110, 18, 111, 112, 113, 114, 115, 116, 8, 117, 118, 119, 120, 121, 122, 123, 1, 124, 125, 126, 8, 127, 128, 129, 130, 131, 132, 133, 2] (by kernel_rfl) (fun _ => 0) (fun (_ : Unit) t h1 => h = h1 ∧ tmGet t 1 = I 0 ∧ tmGet t 2 = I 0) () ?_ ?_
  · exact ⟨rfl, sl_, sl_⟩
  rintro _ t _ hsame ⟨rfl, s1, s2⟩
  refine go ?_
  refine WO.con (insertion_nil h) ?_
  rintro _ _ rfl
  refine go ?_
  refine rt ?_
  rfl

/-- A list of numbers, rising. -/
def sortL (xs : List Int) : List Int := xs.mergeSort (fun a b => decide (a ≤ b))
noncomputable def body50 : ACode := (.seq (.region [⟨some 3, none, (.mov (.tmp 0))⟩, ⟨some 4, none, (.len (.tmp 3))⟩, ⟨some 2, none, (.mov (.tmp 4))⟩]) (.region [⟨some 5, none, (.mov (.tmp 0))⟩, ⟨some 6, none, (.mov (.tmp 2))⟩, ⟨some 7, none, (.mov (.tmp 2))⟩, ⟨some 8, none, (.conv .u64 (.tmp 7))⟩, ⟨some 9, none, (.call (.func 59) [(.tmp 8)])⟩, ⟨some 10, none, (.call (.func 58) [(.tmp 5), (.const (.int .i64 0)), (.tmp 6), (.tmp 9)])⟩]))
set_option maxRecDepth 100000 in
theorem tab50 : tb.code 50 = some ⟨11, [], body50⟩ := by kernel_rfl
theorem sort_ok (hB h : AHeap) (v : Value) (xs : List Int) (e0 : Ext hB h) (hmB : hB.mark ≤ hB.n) (o : OwnN hB h v xs) (hlen : xs.length ≤ 1000000000) :
    WC Tryd.prog tb 50 [v] h fun r h' => OwnN hB h' v (sortL xs) ∧ Ext hB h' ∧ Upd v h h' := by
  have s : SlI h v xs := o.sl
  refine WC.of (nostub 50) tab50 ?_; simp only [mkTm, Nat.zero_add, Nat.reduceAdd]
  refine go ?_
  rw [wrapU64 (by omega) (by omega)]
  refine WO.con (len_ok h xs.length (by omega) (by omega)) ?_
  rintro _ _ ⟨⟨k, rfl, hk, hk2⟩, rfl⟩
  refine go ?_
  rcases o with ⟨rfl, rfl⟩ | o
  · rw [show ((([] : List Int).length : Nat) : Int) = 0 from rfl]
    refine WO.con (pdq_nil h k) ?_
    rintro _ _ rfl
    refine go ?_
    refine rtN ?_
    exact ⟨.inl ⟨rfl, by simp [sortL]⟩, e0, Upd.refl _ _⟩
  refine WO.con (pdq_ok xs.length hB h v xs 0 xs.length k e0 hmB o (by omega) (by omega) (by omega) (by omega) hlen (by omega) (fun h => by omega)) ?_
  rintro _ h2 ⟨ys, s2, r2⟩
  refine go ?_
  refine rtN ?_
  have : ys = sortL xs := srt_unique s2.pi.perm (by rw [s2.len]; exact r2)
  exact ⟨.inr (this ▸ s2.own), s2.ext, s2.upd⟩
end Go.Proofs.YtbhdfhiecgebnaaDoor
