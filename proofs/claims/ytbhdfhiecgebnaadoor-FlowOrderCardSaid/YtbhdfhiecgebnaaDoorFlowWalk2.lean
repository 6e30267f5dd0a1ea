/- Lists of numbers: is one among some? what the functions come to in the abstract machine. -/
import Derived.Test.YtbhdfhiecgebnaaDoorFlowWalk
namespace Go.Proofs.YtbhdfhiecgebnaaDoor
open Go.Am
set_option linter.unusedVariables false
set_option linter.unusedSimpArgs false
set_option maxHeartbeats 4000000

theorem mem_of {l : List Int} {n : Int} {i : Nat} (h : i < l.length) (e : l.getD i 0 = n) : n ∈ l := e ▸ getD_mem h
theorem not_mem_of {l : List Int} {n : Int} (h : ∀ i, i < l.length → l.getD i 0 ≠ n) : n ∉ l := fun hn => by
  obtain ⟨i, hi, e⟩ := mem_getD hn
  exact h i hi e

noncomputable def body23_0 : ACode := (.seq (.seq (.region [⟨some 6, none, (.mov (.tmp 5))⟩, ⟨some 7, none, (.mov (.tmp 0))⟩, ⟨some 8, none, (.len (.tmp 7))⟩, ⟨some 9, none, (.bin .lss (.tmp 6) (.tmp 8))⟩]) (.cond (.tmp 9) .skip (.exit 0))) (.seq (.block 1 (.seq (.region [⟨some 12, none, (.mov (.tmp 0))⟩, ⟨some 13, none, (.mov (.tmp 5))⟩, ⟨some 14, none, (.idx 1 (.tmp 12) (.tmp 13))⟩, ⟨some 15, none, (.load false 1 (.tmp 14))⟩, ⟨some 16, none, (.mov (.tmp 1))⟩, ⟨some 17, none, (.bin .eql (.tmp 15) (.tmp 16))⟩]) (.cond (.tmp 17) (.seq (.region [⟨some 4, none, (.mov (.const (.bool true)))⟩]) .ret) .skip))) (.region [⟨some 10, none, (.mov (.tmp 5))⟩, ⟨some 11, none, (.bin .add (.tmp 10) (.const (.int .i64 1)))⟩, ⟨some 5, none, (.mov (.tmp 11))⟩])))
noncomputable def body23 : ACode := (.seq (.region [⟨some 4, none, (.mov (.const (.bool false)))⟩]) (.seq (.seq (.region [⟨some 5, none, (.mov (.const (.int .i64 0)))⟩]) (.block 0 (.loop body23_0))) (.seq (.region [⟨some 4, none, (.mov (.const (.bool false)))⟩]) .ret)))
set_option maxRecDepth 100000 in
theorem tab23 : tb.code 23 = some ⟨18, [(4, none)], body23⟩ := by kernel_rfl
theorem among_ok (h : AHeap) (v : Value) (l : List Int) (n : Int) (s : SlI h v l) (hl : (l.length : Int) ≤ 9223372036854775807) :
    WC Tryd.prog tb 23 [v, I n] h fun r h' => r = .bool (decide (n ∈ l)) ∧ h = h' := by
  refine WC.of (nostub 23) tab23 ?_; simp only [mkTm, Nat.zero_add, Nat.reduceAdd]
  refine go ?_
  refine WX.loopA [6, 7, 8, 9, 12, 13, 14, 15, 16, 17, 4, 10, 11, 5] (by kernel_rfl) (fun i => l.length - i) (fun i t h1 => h = h1 ∧ tmGet t 5 = I i ∧ i ≤ l.length ∧ ∀ j, j < i → l.getD j 0 ≠ n) 0 ?_ ?_
  · exact ⟨rfl, sl_, Nat.zero_le _, fun j hj => absurd hj (Nat.not_lt_zero _)⟩
  rintro i t _ hsame ⟨rfl, s5, hi, hm⟩
  refine go ?_
  refine WX.br (fun hb => ?_) (fun hb => ?_) <;> simp only [DB] at hb
  · have hi' : i < l.length := by omega
    refine go ?_
    refine WX.br (fun hc => ?_) (fun hc => ?_) <;> simp only [DB] at hc <;> refine go ?_
    · refine rt ?_
      exact ⟨by rw [decide_eq_true (mem_of hi' hc)]; rfl, rfl⟩
    · refine loopK_normal (i + 1) (by omega) ⟨rfl, sln, by omega, fun j hj => ?_⟩
      by_cases e : j = i
      · subst e; exact hc
      · exact hm j (by omega)
  · refine go ?_
    refine rt ?_
    exact ⟨by rw [decide_eq_false (not_mem_of fun j hj => hm j (by omega))]; rfl, rfl⟩

noncomputable def body43_0 : ACode := (.seq (.region [⟨some 9, none, (.bin .lss (.tmp 8) (.tmp 7))⟩]) (.seq (.cond (.tmp 9) .skip (.exit 0)) (.seq (.block 1 (.seq (.region [⟨some 10, none, (.mov (.tmp 8))⟩, ⟨some 5, none, (.mov (.tmp 10))⟩]) (.seq (.region [⟨some 11, none, (.mov (.tmp 1))⟩, ⟨some 12, none, (.mov (.tmp 0))⟩, ⟨some 13, none, (.mov (.tmp 5))⟩, ⟨some 14, none, (.idx 1 (.tmp 12) (.tmp 13))⟩, ⟨some 15, none, (.load false 1 (.tmp 14))⟩, ⟨some 16, none, (.bin .eql (.tmp 11) (.tmp 15))⟩]) (.cond (.tmp 16) (.seq (.region [⟨some 17, none, (.mov (.tmp 5))⟩, ⟨some 4, none, (.mov (.tmp 17))⟩]) .ret) .skip)))) (.region [⟨some 18, none, (.bin .add (.tmp 8) (.const (.int .i64 1)))⟩, ⟨some 8, none, (.mov (.tmp 18))⟩]))))
noncomputable def body43 : ACode := (.seq (.region [⟨some 4, none, (.mov (.const (.int .i64 0)))⟩]) (.seq (.seq (.region [⟨some 6, none, (.mov (.tmp 0))⟩, ⟨some 7, none, (.len (.tmp 6))⟩, ⟨some 8, none, (.mov (.const (.int .i64 0)))⟩]) (.block 0 (.loop body43_0))) (.seq (.region [⟨some 4, none, (.mov (.const (.int .i64 (-1))))⟩]) .ret)))
set_option maxRecDepth 100000 in
theorem tab43 : tb.code 43 = some ⟨19, [(4, none)], body43⟩ := by kernel_rfl
theorem index_ok (h : AHeap) (v : Value) (l : List Int) (n : Int) (s : SlI h v l) (hl : (l.length : Int) ≤ 9223372036854775807) :
    WC Tryd.prog tb 43 [v, I n] h fun r h' => (∃ k : Int, r = I k ∧ decide (0 ≤ k) = decide (n ∈ l)) ∧ h = h' := by
  refine WC.of (nostub 43) tab43 ?_; simp only [mkTm, Nat.zero_add, Nat.reduceAdd]
  refine go ?_
  refine WX.loopA [9, 10, 5, 11, 12, 13, 14, 15, 16, 17, 4, 18, 8] (by kernel_rfl) (fun i => l.length - i) (fun i t h1 => h = h1 ∧ tmGet t 8 = I i ∧ i ≤ l.length ∧ ∀ j, j < i → l.getD j 0 ≠ n) 0 ?_ ?_
  · exact ⟨rfl, sl_, Nat.zero_le _, fun j hj => absurd hj (Nat.not_lt_zero _)⟩
  rintro i t _ hsame ⟨rfl, s8, hi, hm⟩
  refine go ?_
  refine WX.br (fun hb => ?_) (fun hb => ?_) <;> simp only [DB] at hb
  · have hi' : i < l.length := by omega
    refine go ?_
    refine WX.br (fun hc => ?_) (fun hc => ?_) <;> simp only [DB] at hc <;> refine go ?_
    · refine rt ?_
      exact ⟨⟨i, rfl, by rw [decide_eq_true (mem_of hi' hc.symm)]; simp⟩, rfl⟩
    · refine loopK_normal (i + 1) (by omega) ⟨rfl, sln, by omega, fun j hj => ?_⟩
      by_cases e : j = i
      · subst e; exact fun h => hc h.symm
      · exact hm j (by omega)
  · refine go ?_
    refine rt ?_
    exact ⟨⟨-1, rfl, by rw [decide_eq_false (not_mem_of fun j hj => hm j (by omega))]; rfl⟩, rfl⟩

noncomputable def body31 : ACode := (.seq (.region [⟨some 4, none, (.mov (.const (.bool false)))⟩]) (.seq (.region [⟨some 5, none, (.mov (.tmp 0))⟩, ⟨some 6, none, (.mov (.tmp 1))⟩, ⟨some 7, none, (.call (.func 43) [(.tmp 5), (.tmp 6)])⟩, ⟨some 8, none, (.bin .geq (.tmp 7) (.const (.int .i64 0)))⟩, ⟨some 4, none, (.mov (.tmp 8))⟩]) .ret))
set_option maxRecDepth 100000 in
theorem tab31 : tb.code 31 = some ⟨9, [(4, none)], body31⟩ := by kernel_rfl
theorem contains_ok (h : AHeap) (v : Value) (l : List Int) (n : Int) (s : SlI h v l) (hl : (l.length : Int) ≤ 9223372036854775807) :
    WC Tryd.prog tb 31 [v, I n] h fun r h' => r = .bool (decide (n ∈ l)) ∧ h = h' := by
  refine WC.of (nostub 31) tab31 ?_; simp only [mkTm, Nat.zero_add, Nat.reduceAdd]
  refine go ?_
  refine WO.con (index_ok h v l n s hl) ?_
  rintro _ _ ⟨⟨k, rfl, e⟩, rfl⟩
  refine go ?_
  refine rt ?_
  exact ⟨by rw [← e]; rfl, rfl⟩
end Go.Proofs.YtbhdfhiecgebnaaDoor
