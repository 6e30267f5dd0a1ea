/- Lists of numbers sorted: what the library's functions come to in the abstract machine. -/
import Derived.Test.YtbhdfhiecgebnaaDoorTab
import Derived.Test.YtbhdfhiecgebnaaDoorAmU
namespace Go.Proofs.YtbhdfhiecgebnaaDoor
open Go.Am
set_option linter.unusedVariables false
set_option linter.unusedSimpArgs false
set_option maxHeartbeats 400000

noncomputable def body87 : ACode := (.seq (.region [⟨some 2, none, (.mov (.const (.bool false)))⟩]) (.seq (.region [⟨some 3, none, (.mov (.tmp 0))⟩, ⟨some 4, none, (.mov (.tmp 0))⟩, ⟨some 5, none, (.bin .neq (.tmp 3) (.tmp 4))⟩, ⟨some 2, none, (.mov (.tmp 5))⟩]) .ret))
set_option maxRecDepth 100000 in
theorem tab87 : tb.code 87 = some ⟨6, [(2, none)], body87⟩ := by kernel_rfl
theorem isNaN_ok (h : AHeap) (n : Int) : WC Tryd.prog tb 87 [I n] h fun r h' => r = .bool false ∧ h = h' := by
  refine WC.of (nostub 87) tab87 ?_; simp only [mkTm, Nat.zero_add, Nat.reduceAdd]
  refine go ?_
  refine rt ?_
  exact ⟨by simp [one], rfl⟩

noncomputable def body71 : ACode := (.seq (.region [⟨some 4, none, (.mov (.const (.bool false)))⟩]) (.seq (.region [⟨some 5, none, (.mov (.tmp 0))⟩, ⟨some 6, none, (.call (.func 87) [(.tmp 5)])⟩, ⟨some 7, none, (.mov (.tmp 6))⟩, ⟨some 8, some (7, true), (.mov (.tmp 1))⟩, ⟨some 9, some (7, true), (.call (.func 87) [(.tmp 8)])⟩, ⟨some 10, some (7, true), (.un .not (.tmp 9))⟩, ⟨some 11, none, (.pick (.tmp 7) (.tmp 10) (.const (.bool false)))⟩, ⟨some 12, none, (.mov (.tmp 11))⟩, ⟨some 13, some (12, false), (.mov (.tmp 0))⟩, ⟨some 14, some (12, false), (.mov (.tmp 1))⟩, ⟨some 15, some (12, false), (.bin .lss (.tmp 13) (.tmp 14))⟩, ⟨some 16, none, (.pick (.tmp 12) (.const (.bool true)) (.tmp 15))⟩, ⟨some 4, none, (.mov (.tmp 16))⟩]) .ret))
set_option maxRecDepth 100000 in
theorem tab71 : tb.code 71 = some ⟨17, [(4, none)], body71⟩ := by kernel_rfl
theorem less_ok (h : AHeap) (a b : Int) : WC Tryd.prog tb 71 [I a, I b] h fun r h' => r = .bool (decide (a < b)) ∧ h = h' := by
  refine WC.of (nostub 71) tab71 ?_; simp only [mkTm, Nat.zero_add, Nat.reduceAdd]
  refine go ?_
  refine WO.con (isNaN_ok h a) ?_
  rintro _ _ ⟨rfl, rfl⟩
  refine go ?_
  refine rt ?_
  exact ⟨by simp [one], rfl⟩

noncomputable def body65_0 : ACode := (.seq (.seq (.regionC [(⟨some 16, none, (.mov (.tmp 7))⟩, []), (⟨some 17, none, (.mov (.tmp 1))⟩, []), (⟨some 18, none, (.bin .gtr (.tmp 16) (.tmp 17))⟩, []), (⟨some 19, none, (.mov (.tmp 18))⟩, []), (⟨some 20, some (19, true), (.mov (.tmp 0))⟩, []), (⟨some 21, some (19, true), (.mov (.tmp 7))⟩, []), (⟨some 22, some (19, true), (.idx 1 (.tmp 20) (.tmp 21))⟩, []), (⟨some 23, some (19, true), (.load false 1 (.tmp 22))⟩, []), (⟨some 24, some (19, true), (.mov (.tmp 0))⟩, []), (⟨some 25, some (19, true), (.mov (.tmp 7))⟩, []), (⟨some 26, some (19, true), (.bin .sub (.tmp 25) (.const (.int .i64 1)))⟩, []), (⟨some 27, some (19, true), (.idx 1 (.tmp 24) (.tmp 26))⟩, []), (⟨some 28, some (19, true), (.load false 1 (.tmp 27))⟩, []), (⟨some 29, some (19, true), (.call (.func 71) [(.tmp 23), (.tmp 28)])⟩, []), (⟨some 30, none, (.pick (.tmp 19) (.tmp 29) (.const (.bool false)))⟩, [])]) (.cond (.tmp 30) .skip (.exit 2))) (.seq (.block 3 (.regionC [(⟨some 33, none, (.mov (.tmp 0))⟩, []), (⟨some 34, none, (.mov (.tmp 7))⟩, []), (⟨some 35, none, (.mov (.tmp 0))⟩, []), (⟨some 36, none, (.mov (.tmp 7))⟩, []), (⟨some 37, none, (.bin .sub (.tmp 36) (.const (.int .i64 1)))⟩, []), (⟨some 38, none, (.mov (.tmp 0))⟩, []), (⟨some 39, none, (.mov (.tmp 7))⟩, []), (⟨some 40, none, (.bin .sub (.tmp 39) (.const (.int .i64 1)))⟩, []), (⟨some 41, none, (.idx 1 (.tmp 38) (.tmp 40))⟩, []), (⟨some 42, none, (.load false 1 (.tmp 41))⟩, []), (⟨some 43, none, (.mov (.tmp 0))⟩, []), (⟨some 44, none, (.mov (.tmp 7))⟩, []), (⟨some 45, none, (.idx 1 (.tmp 43) (.tmp 44))⟩, []), (⟨some 46, none, (.load false 1 (.tmp 45))⟩, []), (⟨some 47, none, (.idx 1 (.tmp 33) (.tmp 34))⟩, []), (⟨none, none, (.store 1 (.tmp 47) (.tmp 42))⟩, []), (⟨some 48, none, (.idx 1 (.tmp 35) (.tmp 37))⟩, []), (⟨none, none, (.store 1 (.tmp 48) (.tmp 46))⟩, [])])) (.region [⟨some 31, none, (.mov (.tmp 7))⟩, ⟨some 32, none, (.bin .sub (.tmp 31) (.const (.int .i64 1)))⟩, ⟨some 7, none, (.mov (.tmp 32))⟩])))
noncomputable def body65_1 : ACode := (.seq (.seq (.region [⟨some 10, none, (.mov (.tmp 6))⟩, ⟨some 11, none, (.mov (.tmp 2))⟩, ⟨some 12, none, (.bin .lss (.tmp 10) (.tmp 11))⟩]) (.cond (.tmp 12) .skip (.exit 0))) (.seq (.block 1 (.seq (.region [⟨some 15, none, (.mov (.tmp 6))⟩, ⟨some 7, none, (.mov (.tmp 15))⟩]) (.block 2 (.loop body65_0)))) (.region [⟨some 13, none, (.mov (.tmp 6))⟩, ⟨some 14, none, (.bin .add (.tmp 13) (.const (.int .i64 1)))⟩, ⟨some 6, none, (.mov (.tmp 14))⟩])))
noncomputable def body65 : ACode := (.seq (.region [⟨some 8, none, (.mov (.tmp 1))⟩, ⟨some 9, none, (.bin .add (.tmp 8) (.const (.int .i64 1)))⟩, ⟨some 6, none, (.mov (.tmp 9))⟩]) (.block 0 (.loop body65_1)))
set_option maxRecDepth 100000 in
theorem tab65 : tb.code 65 = some ⟨49, [], body65⟩ := by kernel_rfl
theorem insertion_ok (hB h : AHeap) (v : Value) (xs : List Int) (a b : Int) (e0 : Ext hB h) (hmB : hB.mark ≤ hB.n) (o : OwnI hB h v xs) (h0 : 0 ≤ a) (hab : a ≤ b) (hb : b ≤ xs.length) (hlen : xs.length ≤ 1000000000) :
    WC Tryd.prog tb 65 [v, I a, I b] h fun r h' => ∃ ys, OwnI hB h' v ys ∧ PI a b xs ys ∧ Srt a b ys ∧ Ext hB h' ∧ Upd v h h' := by
  refine WC.of (nostub 65) tab65 ?_; simp only [mkTm, Nat.zero_add, Nat.reduceAdd]
  refine go ?_
  refine WX.loopA [10, 11, 12, 15, 7, 16, 17, 18, 19, 20, 21, 22, 23, 24, 25, 26, 27, 28, 29, 30, 33, 34, 35, 36, 37, 38, 39, 40, 41, 42, 43, 44, 45, 46, 47, 48, 31, 32, 7, 13, 14, 6] (by kernel_rfl) (fun x => (b - x.2).toNat) (fun (x : List Int × Int) t h1 => tmGet t 6 = I x.2 ∧ a + 1 ≤ x.2 ∧ (x.2 ≤ b ∨ x.2 = a + 1) ∧ OwnI hB h1 v x.1 ∧ Ext hB h1 ∧ Upd v h h1 ∧ PI a b xs x.1 ∧ Srt a x.2 x.1) (xs, a + 1) ?_ ?_
  · exact ⟨sl_, by simp only; omega, .inr rfl, o, e0, ⟨Nat.le_refl _, fun _ _ _ => rfl⟩, PI.refl .., Srt.small (by simp only; omega)⟩
  rintro ⟨ys, i⟩ t h1 hsame ⟨s6, hi1, hi2, o1, e1, u1, p1, r1⟩
  simp only at s6 hi1 hi2 o1 e1 u1 p1 r1
  have hyl := p1.len
  refine go ?_
  refine WX.br (fun hc => ?_) (fun hc => ?_) <;> simp only [DB] at hc
  · refine go ?_
    refine WX.loopA [16, 17, 18, 19, 20, 21, 22, 23, 24, 25, 26, 27, 28, 29, 30, 33, 34, 35, 36, 37, 38, 39, 40, 41, 42, 43, 44, 45, 46, 47, 48, 31, 32, 7] (by kernel_rfl) (fun x => (x.2 - a).toNat) (fun (x : List Int × Int) t h2 => tmGet t 7 = I x.2 ∧ a ≤ x.2 ∧ x.2 ≤ i ∧ OwnI hB h2 v x.1 ∧ Ext hB h2 ∧ Upd v h h2 ∧ PI a b xs x.1 ∧ ∀ p q, a ≤ p → p ≤ q → q ≤ i → q ≠ x.2 → atI x.1 p ≤ atI x.1 q) (ys, i) ?_ ?_
    · exact ⟨sl_, by simp only; omega, by simp only; omega, o1, e1, u1, p1, fun p q h1 h2 h3 h4 => r1 p q h1 h2 (by simp only at h4; omega)⟩
    rintro ⟨zs, j⟩ t2 h2 hsame2 ⟨s7, hj1, hj2, o2, e2, u2, p2, r2⟩
    simp only at s7 hj1 hj2 o2 e2 u2 p2 r2
    have hzl := p2.len
    refine goC ?_
    refine WX.regionU2 0 rfl rfl ?_
    have sr : SlI (inC (asideN 0 h2)) v zs := o2.sl
    refine goU ?_
    refine WO.sp (fun hd => ?_) (fun hd => ?_) <;> simp only [DB] at hd <;> refine goU ?_
    · refine WO.con (less_ok _ (atI zs j) (atI zs (j - 1))) ?_
      rintro _ _ ⟨rfl, rfl⟩
      refine WO.nil ?_
      refine uK2_q ?_
      refine goU ?_
      rw [out_self]
      refine WX.br (fun he => ?_) (fun he => ?_) <;> simp only [DB] at he <;> refine goC ?_
      · refine WX.regionU2 0 rfl rfl ?_
        have sr2 : SlI (inC (asideN 0 h2)) v zs := o2.sl
        refine goU ?_
        refine WU2.swA j (j - 1) o2 e2 (by rw [e2.mark]; exact hmB) ?_
        intro h3 e3 o3 u3
        refine go ?_
        exact loopK_normal (swp zs j (j - 1), j - 1) (by simp only; omega) ⟨sl_, by simp only; omega, by simp only; omega, o3, e3, u2.trans u3, p2.trans (PI.swp (by omega) (by omega) (by omega) (by omega)), ins_step h0 hd hj2 (by omega) he r2⟩
      · refine go ?_
        refine loopK_normal (zs, i + 1) (by simp only; omega) ⟨sl_, by simp only; omega, by simp only; omega, o2, e2, u2, p2, fun p q h1 h2 h3 => ?_⟩
        by_cases hq : q = j
        · subst hq
          by_cases hp : p = q
          · subst hp; exact Int.le_refl _
          · have := r2 p (q - 1) h1 (by omega) (by omega) (by omega)
            simp only; omega
        · exact r2 p q h1 h2 (by simp only at h3; omega) hq
    · rw [out_self]
      refine goC ?_
      refine loopK_normal (zs, i + 1) (by simp only; omega) ⟨sl_, by simp only; omega, by simp only; omega, o2, e2, u2, p2, fun p q h1 h2 h3 => ?_⟩
      by_cases hq : q = j
      · have hp : p = q := by omega
        subst hp; exact Int.le_refl _
      · exact r2 p q h1 h2 (by simp only at h3; omega) hq
  · refine go ?_
    refine rtN ?_
    exact ⟨ys, o1, p1, fun p q h1 h2 h3 => r1 p q h1 h2 (by omega), e1, u1⟩
end Go.Proofs.YtbhdfhiecgebnaaDoor
