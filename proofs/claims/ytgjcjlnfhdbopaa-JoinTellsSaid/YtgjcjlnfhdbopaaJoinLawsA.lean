/- The statements of chapter 21, in the abstract machine: each yields true. -/
import Derived.Test.YtgjcjlnfhdbopaaJoinWalk
namespace Go.Proofs.Ytgjcjlnfhdbopaa
open Go.Am
set_option linter.unusedVariables false
set_option linter.unusedSimpArgs false

theorem newOf_len (n : Nat) : (newOf n).length = n := by simp [newOf]
noncomputable def body3 : ACode := (.seq (.region [⟨some 2, none, (.mov (.const (.bool false)))⟩]) (.seq (.seq (.region [⟨some 7, none, (.mov (.tmp 0))⟩, ⟨some 8, none, (.bin .gtr (.tmp 7) (.const (.int .i64 300)))⟩, ⟨some 9, none, (.mov (.tmp 8))⟩, ⟨some 10, some (9, true), (.mov (.tmp 0))⟩, ⟨some 11, some (9, true), (.bin .leq (.tmp 10) (.const (.int .i64 100000)))⟩, ⟨some 12, none, (.pick (.tmp 9) (.tmp 11) (.const (.bool false)))⟩]) (.cond (.tmp 12) (.seq (.region [⟨some 2, none, (.mov (.const (.bool true)))⟩]) .ret) .skip)) (.seq (.region [⟨some 14, none, (.mov (.tmp 0))⟩, ⟨some 15, none, (.call (.func 9) [(.tmp 14)])⟩, ⟨some 13, none, (.mov (.tmp 15))⟩, ⟨some 16, none, (.extract (.tmp 13) 0)⟩, ⟨some 17, none, (.extract (.tmp 13) 1)⟩, ⟨some 3, none, (.mov (.tmp 16))⟩, ⟨some 4, none, (.mov (.tmp 17))⟩]) (.seq (.region [⟨some 19, none, (.mov (.tmp 0))⟩, ⟨some 20, none, (.call (.func 10) [(.tmp 19)])⟩, ⟨some 18, none, (.mov (.tmp 20))⟩, ⟨some 21, none, (.extract (.tmp 18) 0)⟩, ⟨some 22, none, (.extract (.tmp 18) 1)⟩, ⟨some 5, none, (.mov (.tmp 21))⟩, ⟨some 6, none, (.mov (.tmp 22))⟩]) (.seq (.region [⟨some 23, none, (.mov (.tmp 3))⟩, ⟨some 24, none, (.mov (.tmp 5))⟩, ⟨some 25, none, (.call (.func 11) [(.tmp 23), (.tmp 24)])⟩, ⟨some 26, none, (.mov (.tmp 25))⟩, ⟨some 27, some (26, true), (.mov (.tmp 4))⟩, ⟨some 28, some (26, true), (.mov (.tmp 6))⟩, ⟨some 29, some (26, true), (.bin .eql (.tmp 27) (.tmp 28))⟩, ⟨some 30, none, (.pick (.tmp 26) (.tmp 29) (.const (.bool false)))⟩, ⟨some 2, none, (.mov (.tmp 30))⟩]) .ret)))))
set_option maxRecDepth 100000 in
theorem tab3 : tb.code 3 = some ⟨31, [(2, none)], body3⟩ := by kernel_rfl
theorem law_new (h : AHeap) (n : Int) : WC Try.prog tb 3 [I n] h fun r h' => r = .bool true := by
  refine WC.of (nostub _ rfl) tab3 ?_
  refine WX.seq ?_
  refine WX.region ?_
  refine WO.o (by simp only [aop, S0, Nat.reduceEqDiff, reduceIte]; first | done | with_reducible rfl) ?_
  refine WO.nil ?_
  refine thenK_normal ?_
  refine WX.seq ?_
  refine WX.seq ?_
  refine WX.region ?_
  refine WO.o (by simp only [aop, S0, Nat.reduceEqDiff, reduceIte]; first | done | with_reducible rfl) ?_
  refine WO.o (by simp only [aop, binV_gtr, Option.map_some, S0, Nat.reduceEqDiff, reduceIte]; first | done | with_reducible rfl) ?_
  refine WO.o (by simp only [aop, S0, Nat.reduceEqDiff, reduceIte]; first | done | with_reducible rfl) ?_
  first | (refine WO.guard _ _ rfl (by simp only [S0, Nat.reduceEqDiff, reduceIte]; first | done | with_reducible rfl) (fun hb => (by simp only [aop, S0, Nat.reduceEqDiff, reduceIte, hb]; first | done | with_reducible rfl)) ?_) | (refine WO.guardT (by simp only [S0, S1, decide_true, decide_false, Nat.reduceEqDiff, reduceIte, Int.reduceEq, Int.reduceLT, Int.reduceLE, *]; first | done | with_reducible rfl) ?_; refine WO.o (by simp only [aop, S0, Nat.reduceEqDiff, reduceIte]; first | done | with_reducible rfl) ?_) | (refine WO.guardF (by simp only [S0, S1, decide_true, decide_false, Nat.reduceEqDiff, reduceIte, Int.reduceEq, Int.reduceLT, Int.reduceLE, *]; first | done | with_reducible rfl) ?_) | (refine WO.guardU (by simp only [S0, S1, decide_true, decide_false, Nat.reduceEqDiff, reduceIte, Int.reduceEq, Int.reduceLT, Int.reduceLE, *]; first | done | with_reducible rfl) ?_)
  first | (refine WO.guard _ _ rfl (by simp only [S0, Nat.reduceEqDiff, reduceIte]; first | done | with_reducible rfl) (fun hb => (by simp only [aop, binV_leq, Option.map_some, S0, Nat.reduceEqDiff, reduceIte, hb]; first | done | with_reducible rfl)) ?_) | (refine WO.guardT (by simp only [S0, S1, decide_true, decide_false, Nat.reduceEqDiff, reduceIte, Int.reduceEq, Int.reduceLT, Int.reduceLE, *]; first | done | with_reducible rfl) ?_; refine WO.o (by simp only [aop, binV_leq, Option.map_some, S0, Nat.reduceEqDiff, reduceIte]; first | done | with_reducible rfl) ?_) | (refine WO.guardF (by simp only [S0, S1, decide_true, decide_false, Nat.reduceEqDiff, reduceIte, Int.reduceEq, Int.reduceLT, Int.reduceLE, *]; first | done | with_reducible rfl) ?_) | (refine WO.guardU (by simp only [S0, S1, decide_true, decide_false, Nat.reduceEqDiff, reduceIte, Int.reduceEq, Int.reduceLT, Int.reduceLE, *]; first | done | with_reducible rfl) ?_)
  refine WO.o (by simp only [aop, pick_or, pick_and, S0, Nat.reduceEqDiff, reduceIte]; first | done | with_reducible rfl) ?_
  refine WO.nil ?_
  refine thenK_normal ?_
  refine WX.cond _ (by simp only [S0, Nat.reduceEqDiff, reduceIte]; first | done | with_reducible rfl) (fun hb => ?_) (fun hb => ?_) <;> (try simp only [Bool.or_eq_true, Bool.and_eq_true, Bool.or_eq_false_iff, Bool.and_eq_false_iff, Bool.not_eq_true', Bool.not_eq_false', decide_eq_true_eq, decide_eq_false_iff_not, Int.not_lt, Int.not_le] at hb)
  · refine WX.seq ?_
    refine WX.region ?_
    refine WO.o (by simp only [aop, S0, Nat.reduceEqDiff, reduceIte]; first | done | with_reducible rfl) ?_
    refine WO.nil ?_
    refine thenK_normal ?_
    refine WX.ret ?_
    refine thenK_ret ?_
    first | (refine retK_ret (by simp only [resultsA, resultA, S0, Nat.reduceEqDiff, reduceIte]; rfl) ?_) | (refine retK_ret (by simp only [resultsA, resultA, S0, S1, decide_true, decide_false, Nat.reduceEqDiff, reduceIte, Int.reduceEq, Int.reduceLT, Int.reduceLE, *]; rfl) ?_)
    rfl
  refine WX.skip ?_
  refine thenK_normal ?_
  refine WX.seq ?_
  refine WX.region ?_
  refine WO.o (by simp only [aop, S0, Nat.reduceEqDiff, reduceIte]; first | done | with_reducible rfl) ?_
  by_cases c : n < 0 ∨ 100000 < n
  · first | (refine WO.call (by simp only [List.map, S0, Nat.reduceEqDiff, reduceIte]; first | done | with_reducible rfl) ?_) | (refine WO.call (by simp only [List.map, S0, S1, decide_true, decide_false, Nat.reduceEqDiff, reduceIte, Int.reduceEq, Int.reduceLT, Int.reduceLE, *]; first | done | with_reducible rfl) ?_)
    refine (new_bad h n c).mono ?_
    rintro _ _ ⟨rfl, rfl⟩
    refine WO.o (by simp only [aop, S0, Nat.reduceEqDiff, reduceIte]; first | done | with_reducible rfl) ?_
    refine WO.o (by simp only [aop, List.getElem?_toArray, List.getElem?_cons_zero, List.getElem?_cons_succ, Option.some.injEq, S0, Nat.reduceEqDiff, reduceIte]; first | done | with_reducible rfl) ?_
    refine WO.o (by simp only [aop, List.getElem?_toArray, List.getElem?_cons_zero, List.getElem?_cons_succ, Option.some.injEq, S0, Nat.reduceEqDiff, reduceIte]; first | done | with_reducible rfl) ?_
    refine WO.o (by simp only [aop, S0, Nat.reduceEqDiff, reduceIte]; first | done | with_reducible rfl) ?_
    refine WO.o (by simp only [aop, S0, Nat.reduceEqDiff, reduceIte]; first | done | with_reducible rfl) ?_
    refine WO.nil ?_
    refine thenK_normal ?_
    refine WX.seq ?_
    refine WX.region ?_
    refine WO.o (by simp only [aop, S0, Nat.reduceEqDiff, reduceIte]; first | done | with_reducible rfl) ?_
    first | (refine WO.call (by simp only [List.map, S0, Nat.reduceEqDiff, reduceIte]; first | done | with_reducible rfl) ?_) | (refine WO.call (by simp only [List.map, S0, S1, decide_true, decide_false, Nat.reduceEqDiff, reduceIte, Int.reduceEq, Int.reduceLT, Int.reduceLE, *]; first | done | with_reducible rfl) ?_)
    refine (rnew_bad h n c).mono ?_
    rintro _ _ ⟨rfl, rfl⟩
    refine WO.o (by simp only [aop, S0, Nat.reduceEqDiff, reduceIte]; first | done | with_reducible rfl) ?_
    refine WO.o (by simp only [aop, List.getElem?_toArray, List.getElem?_cons_zero, List.getElem?_cons_succ, Option.some.injEq, S0, Nat.reduceEqDiff, reduceIte]; first | done | with_reducible rfl) ?_
    refine WO.o (by simp only [aop, List.getElem?_toArray, List.getElem?_cons_zero, List.getElem?_cons_succ, Option.some.injEq, S0, Nat.reduceEqDiff, reduceIte]; first | done | with_reducible rfl) ?_
    refine WO.o (by simp only [aop, S0, Nat.reduceEqDiff, reduceIte]; first | done | with_reducible rfl) ?_
    refine WO.o (by simp only [aop, S0, Nat.reduceEqDiff, reduceIte]; first | done | with_reducible rfl) ?_
    refine WO.nil ?_
    refine thenK_normal ?_
    refine WX.seq ?_
    refine WX.region ?_
    refine WO.o (by simp only [aop, S0, Nat.reduceEqDiff, reduceIte]; first | done | with_reducible rfl) ?_
    refine WO.o (by simp only [aop, S0, Nat.reduceEqDiff, reduceIte]; first | done | with_reducible rfl) ?_
    first | (refine WO.call (by simp only [List.map, S0, Nat.reduceEqDiff, reduceIte]; first | done | with_reducible rfl) ?_) | (refine WO.call (by simp only [List.map, S0, S1, decide_true, decide_false, Nat.reduceEqDiff, reduceIte, Int.reduceEq, Int.reduceLT, Int.reduceLE, *]; first | done | with_reducible rfl) ?_)
    refine (same_ok h _ _ [] [] (SlI.nil h) (SlI.nil h) (by simp)).mono ?_
    rintro _ _ ⟨rfl, rfl⟩
    refine WO.abs fun t1_ ht1_ => ?_
    have q1_4 := (ht1_ 4).trans (by simp only [S0, Nat.reduceEqDiff, reduceIte]; first | done | with_reducible rfl)
    have q1_6 := (ht1_ 6).trans (by simp only [S0, Nat.reduceEqDiff, reduceIte]; first | done | with_reducible rfl)
    have q1_25 := (ht1_ 25).trans (by simp only [S0, Nat.reduceEqDiff, reduceIte]; first | done | with_reducible rfl)
    clear ht1_
    refine WO.o (by simp only [aop, S0, Nat.reduceEqDiff, reduceIte, q1_25]; first | done | with_reducible rfl) ?_
    first | (refine WO.guardT (by simp only [S0, S1, decide_true, decide_false, Nat.reduceEqDiff, reduceIte, Int.reduceEq, Int.reduceLT, Int.reduceLE, *]; first | done | with_reducible rfl) ?_; refine WO.o (by simp only [aop, S0, Nat.reduceEqDiff, reduceIte, q1_4]; first | done | with_reducible rfl) ?_) | (refine WO.guardF (by simp only [S0, S1, decide_true, decide_false, Nat.reduceEqDiff, reduceIte, Int.reduceEq, Int.reduceLT, Int.reduceLE, *]; first | done | with_reducible rfl) ?_) | (refine WO.guardU (by simp only [S0, S1, decide_true, decide_false, Nat.reduceEqDiff, reduceIte, Int.reduceEq, Int.reduceLT, Int.reduceLE, *]; first | done | with_reducible rfl) ?_)
    first | (refine WO.guardT (by simp only [S0, S1, decide_true, decide_false, Nat.reduceEqDiff, reduceIte, Int.reduceEq, Int.reduceLT, Int.reduceLE, *]; first | done | with_reducible rfl) ?_; refine WO.o (by simp only [aop, S0, Nat.reduceEqDiff, reduceIte, q1_6]; first | done | with_reducible rfl) ?_) | (refine WO.guardF (by simp only [S0, S1, decide_true, decide_false, Nat.reduceEqDiff, reduceIte, Int.reduceEq, Int.reduceLT, Int.reduceLE, *]; first | done | with_reducible rfl) ?_) | (refine WO.guardU (by simp only [S0, S1, decide_true, decide_false, Nat.reduceEqDiff, reduceIte, Int.reduceEq, Int.reduceLT, Int.reduceLE, *]; first | done | with_reducible rfl) ?_)
    first | (refine WO.guardT (by simp only [S0, S1, decide_true, decide_false, Nat.reduceEqDiff, reduceIte, Int.reduceEq, Int.reduceLT, Int.reduceLE, *]; first | done | with_reducible rfl) ?_; refine WO.o (by simp only [aop, binV_eql, Option.map_some, S0, S1, decide_true, decide_false, Nat.reduceEqDiff, reduceIte, Int.reduceEq, Int.reduceLT, Int.reduceLE, *]; first | done | with_reducible rfl) ?_) | (refine WO.guardF (by simp only [S0, S1, decide_true, decide_false, Nat.reduceEqDiff, reduceIte, Int.reduceEq, Int.reduceLT, Int.reduceLE, *]; first | done | with_reducible rfl) ?_) | (refine WO.guardU (by simp only [S0, S1, decide_true, decide_false, Nat.reduceEqDiff, reduceIte, Int.reduceEq, Int.reduceLT, Int.reduceLE, *]; first | done | with_reducible rfl) ?_)
    refine WO.o (by simp only [aop, pick_or, pick_and, S0, S1, decide_true, decide_false, Nat.reduceEqDiff, reduceIte, Int.reduceEq, Int.reduceLT, Int.reduceLE, *]; first | done | with_reducible rfl) ?_
    refine WO.o (by simp only [aop, S0, Nat.reduceEqDiff, reduceIte]; first | done | with_reducible rfl) ?_
    refine WO.nil ?_
    refine thenK_normal ?_
    refine WX.ret ?_
    first | (refine retK_ret (by simp only [resultsA, resultA, S0, Nat.reduceEqDiff, reduceIte, q1_4, q1_6, q1_25]; rfl) ?_) | (refine retK_ret (by simp only [resultsA, resultA, S0, S1, decide_true, decide_false, Nat.reduceEqDiff, reduceIte, Int.reduceEq, Int.reduceLT, Int.reduceLE, *]; rfl) ?_)
    rfl
  · obtain ⟨k, rfl⟩ := Int.eq_ofNat_of_zero_le (a := n) (by omega)
    first | (refine WO.call (by simp only [List.map, S0, Nat.reduceEqDiff, reduceIte]; first | done | with_reducible rfl) ?_) | (refine WO.call (by simp only [List.map, S0, S1, decide_true, decide_false, Nat.reduceEqDiff, reduceIte, Int.reduceEq, Int.reduceLT, Int.reduceLE, *]; first | done | with_reducible rfl) ?_)
    refine (new_ok h k (by omega)).mono ?_
    rintro _ h1 ⟨v, rfl, e1, o1⟩
    refine WO.o (by simp only [aop, S0, Nat.reduceEqDiff, reduceIte]; first | done | with_reducible rfl) ?_
    refine WO.o (by simp only [aop, List.getElem?_toArray, List.getElem?_cons_zero, List.getElem?_cons_succ, Option.some.injEq, S0, Nat.reduceEqDiff, reduceIte]; first | done | with_reducible rfl) ?_
    refine WO.o (by simp only [aop, List.getElem?_toArray, List.getElem?_cons_zero, List.getElem?_cons_succ, Option.some.injEq, S0, Nat.reduceEqDiff, reduceIte]; first | done | with_reducible rfl) ?_
    refine WO.o (by simp only [aop, S0, Nat.reduceEqDiff, reduceIte]; first | done | with_reducible rfl) ?_
    refine WO.o (by simp only [aop, S0, Nat.reduceEqDiff, reduceIte]; first | done | with_reducible rfl) ?_
    refine WO.nil ?_
    refine thenK_normal ?_
    refine WX.seq ?_
    refine WX.region ?_
    refine WO.o (by simp only [aop, S0, Nat.reduceEqDiff, reduceIte]; first | done | with_reducible rfl) ?_
    first | (refine WO.call (by simp only [List.map, S0, Nat.reduceEqDiff, reduceIte]; first | done | with_reducible rfl) ?_) | (refine WO.call (by simp only [List.map, S0, S1, decide_true, decide_false, Nat.reduceEqDiff, reduceIte, Int.reduceEq, Int.reduceLT, Int.reduceLE, *]; first | done | with_reducible rfl) ?_)
    refine (rnew_ok h1 k (by omega)).mono ?_
    rintro _ h2 ⟨w, rfl, e2, o2⟩
    refine WO.o (by simp only [aop, S0, Nat.reduceEqDiff, reduceIte]; first | done | with_reducible rfl) ?_
    refine WO.o (by simp only [aop, List.getElem?_toArray, List.getElem?_cons_zero, List.getElem?_cons_succ, Option.some.injEq, S0, Nat.reduceEqDiff, reduceIte]; first | done | with_reducible rfl) ?_
    refine WO.o (by simp only [aop, List.getElem?_toArray, List.getElem?_cons_zero, List.getElem?_cons_succ, Option.some.injEq, S0, Nat.reduceEqDiff, reduceIte]; first | done | with_reducible rfl) ?_
    refine WO.o (by simp only [aop, S0, Nat.reduceEqDiff, reduceIte]; first | done | with_reducible rfl) ?_
    refine WO.o (by simp only [aop, S0, Nat.reduceEqDiff, reduceIte]; first | done | with_reducible rfl) ?_
    refine WO.nil ?_
    refine thenK_normal ?_
    refine WX.seq ?_
    refine WX.region ?_
    refine WO.o (by simp only [aop, S0, Nat.reduceEqDiff, reduceIte]; first | done | with_reducible rfl) ?_
    refine WO.o (by simp only [aop, S0, Nat.reduceEqDiff, reduceIte]; first | done | with_reducible rfl) ?_
    first | (refine WO.call (by simp only [List.map, S0, Nat.reduceEqDiff, reduceIte]; first | done | with_reducible rfl) ?_) | (refine WO.call (by simp only [List.map, S0, S1, decide_true, decide_false, Nat.reduceEqDiff, reduceIte, Int.reduceEq, Int.reduceLT, Int.reduceLE, *]; first | done | with_reducible rfl) ?_)
    refine (same_ok h2 v w _ _ (o1.sl.ext e2) o2.sl (by rw [newOf_len]; omega)).mono ?_
    rintro _ _ ⟨rfl, rfl⟩
    refine WO.abs fun t2_ ht2_ => ?_
    have q2_4 := (ht2_ 4).trans (by simp only [S0, Nat.reduceEqDiff, reduceIte]; first | done | with_reducible rfl)
    have q2_6 := (ht2_ 6).trans (by simp only [S0, Nat.reduceEqDiff, reduceIte]; first | done | with_reducible rfl)
    have q2_25 := (ht2_ 25).trans (by simp only [S0, Nat.reduceEqDiff, reduceIte]; first | done | with_reducible rfl)
    clear ht2_
    refine WO.o (by simp only [aop, S0, Nat.reduceEqDiff, reduceIte, q2_25]; first | done | with_reducible rfl) ?_
    first | (refine WO.guardT (by simp only [S0, S1, decide_true, decide_false, Nat.reduceEqDiff, reduceIte, Int.reduceEq, Int.reduceLT, Int.reduceLE, *]; first | done | with_reducible rfl) ?_; refine WO.o (by simp only [aop, S0, Nat.reduceEqDiff, reduceIte, q2_4]; first | done | with_reducible rfl) ?_) | (refine WO.guardF (by simp only [S0, S1, decide_true, decide_false, Nat.reduceEqDiff, reduceIte, Int.reduceEq, Int.reduceLT, Int.reduceLE, *]; first | done | with_reducible rfl) ?_) | (refine WO.guardU (by simp only [S0, S1, decide_true, decide_false, Nat.reduceEqDiff, reduceIte, Int.reduceEq, Int.reduceLT, Int.reduceLE, *]; first | done | with_reducible rfl) ?_)
    first | (refine WO.guardT (by simp only [S0, S1, decide_true, decide_false, Nat.reduceEqDiff, reduceIte, Int.reduceEq, Int.reduceLT, Int.reduceLE, *]; first | done | with_reducible rfl) ?_; refine WO.o (by simp only [aop, S0, Nat.reduceEqDiff, reduceIte, q2_6]; first | done | with_reducible rfl) ?_) | (refine WO.guardF (by simp only [S0, S1, decide_true, decide_false, Nat.reduceEqDiff, reduceIte, Int.reduceEq, Int.reduceLT, Int.reduceLE, *]; first | done | with_reducible rfl) ?_) | (refine WO.guardU (by simp only [S0, S1, decide_true, decide_false, Nat.reduceEqDiff, reduceIte, Int.reduceEq, Int.reduceLT, Int.reduceLE, *]; first | done | with_reducible rfl) ?_)
    first | (refine WO.guardT (by simp only [S0, S1, decide_true, decide_false, Nat.reduceEqDiff, reduceIte, Int.reduceEq, Int.reduceLT, Int.reduceLE, *]; first | done | with_reducible rfl) ?_; refine WO.o (by simp only [aop, binV_eql, Option.map_some, S0, S1, decide_true, decide_false, Nat.reduceEqDiff, reduceIte, Int.reduceEq, Int.reduceLT, Int.reduceLE, *]; first | done | with_reducible rfl) ?_) | (refine WO.guardF (by simp only [S0, S1, decide_true, decide_false, Nat.reduceEqDiff, reduceIte, Int.reduceEq, Int.reduceLT, Int.reduceLE, *]; first | done | with_reducible rfl) ?_) | (refine WO.guardU (by simp only [S0, S1, decide_true, decide_false, Nat.reduceEqDiff, reduceIte, Int.reduceEq, Int.reduceLT, Int.reduceLE, *]; first | done | with_reducible rfl) ?_)
    refine WO.o (by simp only [aop, pick_or, pick_and, S0, S1, decide_true, decide_false, Nat.reduceEqDiff, reduceIte, Int.reduceEq, Int.reduceLT, Int.reduceLE, *]; first | done | with_reducible rfl) ?_
    refine WO.o (by simp only [aop, S0, Nat.reduceEqDiff, reduceIte]; first | done | with_reducible rfl) ?_
    refine WO.nil ?_
    refine thenK_normal ?_
    refine WX.ret ?_
    first | (refine retK_ret (by simp only [resultsA, resultA, S0, Nat.reduceEqDiff, reduceIte, q2_4, q2_6, q2_25]; rfl) ?_) | (refine retK_ret (by simp only [resultsA, resultA, S0, S1, decide_true, decide_false, Nat.reduceEqDiff, reduceIte, Int.reduceEq, Int.reduceLT, Int.reduceLE, *]; rfl) ?_)
    rfl

theorem joinS_len (l : List Int) (a b : Int) : (joinS l a b).length ≤ l.length := by
  unfold joinS; split
  · rw [jn_len]; exact Nat.le_refl _
  · simp
theorem flatS_len (l : List Int) : (flatS l).length ≤ l.length := by
  unfold flatS; split
  · rw [flatOf_length]; exact Nat.le_refl _
  · simp
noncomputable def body4_0 : ACode := (.seq (.seq (.region [⟨some 124, none, (.mov (.tmp 25))⟩, ⟨some 125, none, (.mov (.tmp 12))⟩, ⟨some 126, none, (.len (.tmp 125))⟩, ⟨some 127, none, (.bin .lss (.tmp 124) (.tmp 126))⟩]) (.cond (.tmp 127) .skip (.exit 0))) (.seq (.block 1 (.region [⟨some 130, none, (.mov (.tmp 12))⟩, ⟨some 131, none, (.mov (.tmp 25))⟩, ⟨some 132, none, (.idx 1 (.tmp 130) (.tmp 131))⟩, ⟨none, none, (.store 1 (.tmp 132) (.const (.int .i64 (-7))))⟩])) (.region [⟨some 128, none, (.mov (.tmp 25))⟩, ⟨some 129, none, (.bin .add (.tmp 128) (.const (.int .i64 1)))⟩, ⟨some 25, none, (.mov (.tmp 129))⟩])))
noncomputable def body4_1 : ACode := (.seq (.seq (.region [⟨some 133, none, (.mov (.tmp 26))⟩, ⟨some 134, none, (.mov (.tmp 16))⟩, ⟨some 135, none, (.len (.tmp 134))⟩, ⟨some 136, none, (.bin .lss (.tmp 133) (.tmp 135))⟩]) (.cond (.tmp 136) .skip (.exit 2))) (.seq (.block 3 (.region [⟨some 139, none, (.mov (.tmp 16))⟩, ⟨some 140, none, (.mov (.tmp 26))⟩, ⟨some 141, none, (.idx 1 (.tmp 139) (.tmp 140))⟩, ⟨none, none, (.store 1 (.tmp 141) (.const (.int .i64 (-7))))⟩])) (.region [⟨some 137, none, (.mov (.tmp 26))⟩, ⟨some 138, none, (.bin .add (.tmp 137) (.const (.int .i64 1)))⟩, ⟨some 26, none, (.mov (.tmp 138))⟩])))
noncomputable def body4 : ACode := (.seq (.region [⟨some 6, none, (.mov (.const (.bool false)))⟩]) (.seq (.seq (.region [⟨some 27, none, (.mov (.tmp 0))⟩, ⟨some 28, none, (.len (.tmp 27))⟩, ⟨some 29, none, (.bin .gtr (.tmp 28) (.const (.int .i64 200)))⟩]) (.cond (.tmp 29) (.seq (.region [⟨some 6, none, (.mov (.const (.bool true)))⟩]) .ret) .skip)) (.seq (.region [⟨some 30, none, (.buildSlice 0 1 [(.int .i64 0)] [])⟩, ⟨some 31, none, (.mov (.tmp 0))⟩, ⟨some 32, none, (.append 1 (.tmp 30) (.tmp 31))⟩, ⟨some 7, none, (.mov (.tmp 32))⟩]) (.seq (.region [⟨some 34, none, (.mov (.tmp 7))⟩, ⟨some 35, none, (.mov (.tmp 1))⟩, ⟨some 36, none, (.call (.func 12) [(.tmp 34), (.tmp 35)])⟩, ⟨some 33, none, (.mov (.tmp 36))⟩, ⟨some 37, none, (.extract (.tmp 33) 0)⟩, ⟨some 38, none, (.extract (.tmp 33) 1)⟩, ⟨some 8, none, (.mov (.tmp 37))⟩, ⟨some 9, none, (.mov (.tmp 38))⟩]) (.seq (.region [⟨some 40, none, (.mov (.tmp 0))⟩, ⟨some 41, none, (.mov (.tmp 1))⟩, ⟨some 42, none, (.call (.func 13) [(.tmp 40), (.tmp 41)])⟩, ⟨some 39, none, (.mov (.tmp 42))⟩, ⟨some 43, none, (.extract (.tmp 39) 0)⟩, ⟨some 44, none, (.extract (.tmp 39) 1)⟩, ⟨some 10, none, (.mov (.tmp 43))⟩, ⟨some 11, none, (.mov (.tmp 44))⟩]) (.seq (.region [⟨some 46, none, (.mov (.tmp 7))⟩, ⟨some 47, none, (.call (.func 14) [(.tmp 46)])⟩, ⟨some 45, none, (.mov (.tmp 47))⟩, ⟨some 48, none, (.extract (.tmp 45) 0)⟩, ⟨some 49, none, (.extract (.tmp 45) 1)⟩, ⟨some 12, none, (.mov (.tmp 48))⟩, ⟨some 13, none, (.mov (.tmp 49))⟩]) (.seq (.region [⟨some 51, none, (.mov (.tmp 0))⟩, ⟨some 52, none, (.call (.func 15) [(.tmp 51)])⟩, ⟨some 50, none, (.mov (.tmp 52))⟩, ⟨some 53, none, (.extract (.tmp 50) 0)⟩, ⟨some 54, none, (.extract (.tmp 50) 1)⟩, ⟨some 14, none, (.mov (.tmp 53))⟩, ⟨some 15, none, (.mov (.tmp 54))⟩]) (.seq (.region [⟨some 56, none, (.mov (.tmp 7))⟩, ⟨some 57, none, (.mov (.tmp 1))⟩, ⟨some 58, none, (.mov (.tmp 2))⟩, ⟨some 59, none, (.call (.func 16) [(.tmp 56), (.tmp 57), (.tmp 58)])⟩, ⟨some 55, none, (.mov (.tmp 59))⟩, ⟨some 60, none, (.extract (.tmp 55) 0)⟩, ⟨some 61, none, (.extract (.tmp 55) 1)⟩, ⟨some 16, none, (.mov (.tmp 60))⟩, ⟨some 17, none, (.mov (.tmp 61))⟩]) (.seq (.region [⟨some 63, none, (.mov (.tmp 0))⟩, ⟨some 64, none, (.mov (.tmp 1))⟩, ⟨some 65, none, (.mov (.tmp 2))⟩, ⟨some 66, none, (.call (.func 17) [(.tmp 63), (.tmp 64), (.tmp 65)])⟩, ⟨some 62, none, (.mov (.tmp 66))⟩, ⟨some 67, none, (.extract (.tmp 62) 0)⟩, ⟨some 68, none, (.extract (.tmp 62) 1)⟩, ⟨some 18, none, (.mov (.tmp 67))⟩, ⟨some 19, none, (.mov (.tmp 68))⟩]) (.seq (.region [⟨some 70, none, (.mov (.tmp 7))⟩, ⟨some 71, none, (.call (.func 18) [(.tmp 70)])⟩, ⟨some 69, none, (.mov (.tmp 71))⟩, ⟨some 72, none, (.extract (.tmp 69) 0)⟩, ⟨some 73, none, (.extract (.tmp 69) 1)⟩, ⟨some 20, none, (.mov (.tmp 72))⟩, ⟨some 21, none, (.mov (.tmp 73))⟩]) (.seq (.region [⟨some 75, none, (.mov (.tmp 0))⟩, ⟨some 76, none, (.call (.func 19) [(.tmp 75)])⟩, ⟨some 74, none, (.mov (.tmp 76))⟩, ⟨some 77, none, (.extract (.tmp 74) 0)⟩, ⟨some 78, none, (.extract (.tmp 74) 1)⟩, ⟨some 22, none, (.mov (.tmp 77))⟩, ⟨some 23, none, (.mov (.tmp 78))⟩]) (.seq (.region [⟨some 79, none, (.mov (.tmp 7))⟩, ⟨some 80, none, (.call (.func 20) [(.tmp 79)])⟩, ⟨some 81, none, (.mov (.tmp 0))⟩, ⟨some 82, none, (.call (.func 21) [(.tmp 81)])⟩, ⟨some 83, none, (.bin .eql (.tmp 80) (.tmp 82))⟩, ⟨some 84, none, (.mov (.tmp 83))⟩, ⟨some 85, some (84, true), (.mov (.tmp 8))⟩, ⟨some 86, some (84, true), (.mov (.tmp 10))⟩, ⟨some 87, some (84, true), (.bin .eql (.tmp 85) (.tmp 86))⟩, ⟨some 88, none, (.pick (.tmp 84) (.tmp 87) (.const (.bool false)))⟩, ⟨some 89, none, (.mov (.tmp 88))⟩, ⟨some 90, some (89, true), (.mov (.tmp 9))⟩, ⟨some 91, some (89, true), (.mov (.tmp 11))⟩, ⟨some 92, some (89, true), (.bin .eql (.tmp 90) (.tmp 91))⟩, ⟨some 93, none, (.pick (.tmp 89) (.tmp 92) (.const (.bool false)))⟩, ⟨some 94, none, (.mov (.tmp 93))⟩, ⟨some 95, some (94, true), (.mov (.tmp 12))⟩, ⟨some 96, some (94, true), (.mov (.tmp 14))⟩, ⟨some 97, some (94, true), (.call (.func 11) [(.tmp 95), (.tmp 96)])⟩, ⟨some 98, none, (.pick (.tmp 94) (.tmp 97) (.const (.bool false)))⟩, ⟨some 99, none, (.mov (.tmp 98))⟩, ⟨some 100, some (99, true), (.mov (.tmp 13))⟩, ⟨some 101, some (99, true), (.mov (.tmp 15))⟩, ⟨some 102, some (99, true), (.bin .eql (.tmp 100) (.tmp 101))⟩, ⟨some 103, none, (.pick (.tmp 99) (.tmp 102) (.const (.bool false)))⟩, ⟨some 104, none, (.mov (.tmp 103))⟩, ⟨some 105, some (104, true), (.mov (.tmp 16))⟩, ⟨some 106, some (104, true), (.mov (.tmp 18))⟩, ⟨some 107, some (104, true), (.call (.func 11) [(.tmp 105), (.tmp 106)])⟩, ⟨some 108, none, (.pick (.tmp 104) (.tmp 107) (.const (.bool false)))⟩, ⟨some 109, none, (.mov (.tmp 108))⟩, ⟨some 110, some (109, true), (.mov (.tmp 17))⟩, ⟨some 111, some (109, true), (.mov (.tmp 19))⟩, ⟨some 112, some (109, true), (.bin .eql (.tmp 110) (.tmp 111))⟩, ⟨some 113, none, (.pick (.tmp 109) (.tmp 112) (.const (.bool false)))⟩, ⟨some 114, none, (.mov (.tmp 113))⟩, ⟨some 115, some (114, true), (.mov (.tmp 20))⟩, ⟨some 116, some (114, true), (.mov (.tmp 22))⟩, ⟨some 117, some (114, true), (.bin .eql (.tmp 115) (.tmp 116))⟩, ⟨some 118, none, (.pick (.tmp 114) (.tmp 117) (.const (.bool false)))⟩, ⟨some 119, none, (.mov (.tmp 118))⟩, ⟨some 120, some (119, true), (.mov (.tmp 21))⟩, ⟨some 121, some (119, true), (.mov (.tmp 23))⟩, ⟨some 122, some (119, true), (.bin .eql (.tmp 120) (.tmp 121))⟩, ⟨some 123, none, (.pick (.tmp 119) (.tmp 122) (.const (.bool false)))⟩, ⟨some 24, none, (.mov (.tmp 123))⟩]) (.seq (.seq (.region [⟨some 25, none, (.mov (.const (.int .i64 0)))⟩]) (.block 0 (.loop body4_0))) (.seq (.seq (.region [⟨some 26, none, (.mov (.const (.int .i64 0)))⟩]) (.block 2 (.loop body4_1))) (.seq (.region [⟨some 142, none, (.mov (.tmp 24))⟩, ⟨some 143, none, (.mov (.tmp 142))⟩, ⟨some 144, some (143, true), (.mov (.tmp 7))⟩, ⟨some 145, some (143, true), (.mov (.tmp 0))⟩, ⟨some 146, some (143, true), (.call (.func 11) [(.tmp 144), (.tmp 145)])⟩, ⟨some 147, none, (.pick (.tmp 143) (.tmp 146) (.const (.bool false)))⟩, ⟨some 6, none, (.mov (.tmp 147))⟩]) .ret)))))))))))))))
set_option maxRecDepth 100000 in
theorem tab4 : tb.code 4 = some ⟨148, [(6, none)], body4⟩ := by kernel_rfl
set_option maxHeartbeats 1000000 in
theorem law_tells (h : AHeap) (v : Value) (l : List Int) (hs : SlI h v l) (hl0 : (l.length : Int) ≤ 9223372036854775807) (a b : Int) : WC Try.prog tb 4 [v, I a, I b] h fun r h' => r = .bool true := by
  refine WC.of (nostub _ rfl) tab4 ?_
  refine WX.seq ?_
  refine WX.region ?_
  refine WO.o (by simp only [aop, S0, Nat.reduceEqDiff, reduceIte]; first | done | with_reducible rfl) ?_
  refine WO.nil ?_
  refine thenK_normal ?_
  refine WX.seq ?_
  refine WX.seq ?_
  refine WX.region ?_
  refine WO.o (by simp only [aop, S0, Nat.reduceEqDiff, reduceIte]; first | done | with_reducible rfl) ?_
  refine WO.o (SlI.len' (by first | (simp only [S0, Nat.reduceEqDiff, reduceIte]; first | done | with_reducible rfl) | (simp only [S0, S1, decide_true, decide_false, Nat.reduceEqDiff, reduceIte, Int.reduceEq, Int.reduceLT, Int.reduceLE, *]; first | done | with_reducible rfl)) (by first | assumption | exact SlI.ext (by assumption) (by assumption) | exact OwnI.sl (by assumption) | exact OwnN.sl (by assumption))) ?_
  refine WO.o (by simp only [aop, binV_gtr, Option.map_some, S0, Nat.reduceEqDiff, reduceIte]; first | done | with_reducible rfl) ?_
  refine WO.nil ?_
  refine thenK_normal ?_
  refine WX.cond _ (by simp only [S0, Nat.reduceEqDiff, reduceIte]; first | done | with_reducible rfl) (fun hb => ?_) (fun hb => ?_) <;> (try simp only [Bool.or_eq_true, Bool.and_eq_true, Bool.or_eq_false_iff, Bool.and_eq_false_iff, Bool.not_eq_true', Bool.not_eq_false', decide_eq_true_eq, decide_eq_false_iff_not, Int.not_lt, Int.not_le] at hb)
  · refine WX.seq ?_
    refine WX.region ?_
    refine WO.o (by simp only [aop, S0, Nat.reduceEqDiff, reduceIte]; first | done | with_reducible rfl) ?_
    refine WO.nil ?_
    refine thenK_normal ?_
    refine WX.ret ?_
    refine thenK_ret ?_
    first | (refine retK_ret (by simp only [resultsA, resultA, S0, Nat.reduceEqDiff, reduceIte]; rfl) ?_) | (refine retK_ret (by simp only [resultsA, resultA, S0, S1, decide_true, decide_false, Nat.reduceEqDiff, reduceIte, Int.reduceEq, Int.reduceLT, Int.reduceLE, *]; rfl) ?_)
    rfl
  have hl : l.length ≤ 1000 := by omega
  refine WX.skip ?_
  refine thenK_normal ?_
  refine WX.seq ?_
  refine WX.region ?_
  refine WO.buildI [] rfl (by first | rfl | (simp only [evParts, fillA, repl, putAt, List.map, S0, Nat.reduceEqDiff, reduceIte]; rfl)) ?_
  intro v30 h30 e30 o30
  have s30 := hs.ext e30
  refine WO.o (by simp only [aop, S0, Nat.reduceEqDiff, reduceIte]; first | done | with_reducible rfl) ?_
  refine WO.appendN (by first | (simp only [S0, Nat.reduceEqDiff, reduceIte]; first | done | with_reducible rfl) | (simp only [S0, S1, decide_true, decide_false, Nat.reduceEqDiff, reduceIte, Int.reduceEq, Int.reduceLT, Int.reduceLE, *]; first | done | with_reducible rfl)) (by first | (simp only [S0, Nat.reduceEqDiff, reduceIte]; first | done | with_reducible rfl) | (simp only [S0, S1, decide_true, decide_false, Nat.reduceEqDiff, reduceIte, Int.reduceEq, Int.reduceLT, Int.reduceLE, *]; first | done | with_reducible rfl)) (.inr o30) s30 e30 (by simp; omega) ?_
  intro own h1 e1 oo _
  rw [List.nil_append] at oo
  have s1 := hs.ext e1
  refine WO.o (by simp only [aop, S0, Nat.reduceEqDiff, reduceIte]; first | done | with_reducible rfl) ?_
  refine WO.nil ?_
  refine thenK_normal ?_
  refine WX.seq ?_
  refine WX.region ?_
  refine WO.o (by simp only [aop, S0, Nat.reduceEqDiff, reduceIte]; first | done | with_reducible rfl) ?_
  refine WO.o (by simp only [aop, S0, Nat.reduceEqDiff, reduceIte]; first | done | with_reducible rfl) ?_
  first | (refine WO.call (by simp only [List.map, S0, Nat.reduceEqDiff, reduceIte]; first | done | with_reducible rfl) ?_) | (refine WO.call (by simp only [List.map, S0, S1, decide_true, decide_false, Nat.reduceEqDiff, reduceIte, Int.reduceEq, Int.reduceLT, Int.reduceLE, *]; first | done | with_reducible rfl) ?_)
  refine (Head_ok h1 own l oo.sl hl a).mono ?_
  rintro _ h2 ⟨rfl, e2⟩
  have oo2 := oo.ext e2
  have s2 := s1.ext e2
  refine WO.o (by simp only [aop, S0, Nat.reduceEqDiff, reduceIte]; first | done | with_reducible rfl) ?_
  refine WO.o (by simp only [aop, List.getElem?_toArray, List.getElem?_cons_zero, List.getElem?_cons_succ, Option.some.injEq, S0, Nat.reduceEqDiff, reduceIte]; first | done | with_reducible rfl) ?_
  refine WO.o (by simp only [aop, List.getElem?_toArray, List.getElem?_cons_zero, List.getElem?_cons_succ, Option.some.injEq, S0, Nat.reduceEqDiff, reduceIte]; first | done | with_reducible rfl) ?_
  refine WO.o (by simp only [aop, S0, Nat.reduceEqDiff, reduceIte]; first | done | with_reducible rfl) ?_
  refine WO.o (by simp only [aop, S0, Nat.reduceEqDiff, reduceIte]; first | done | with_reducible rfl) ?_
  refine WO.nil ?_
  refine thenK_normal ?_
  refine WX.seq ?_
  refine WX.region ?_
  refine WO.o (by simp only [aop, S0, Nat.reduceEqDiff, reduceIte]; first | done | with_reducible rfl) ?_
  refine WO.o (by simp only [aop, S0, Nat.reduceEqDiff, reduceIte]; first | done | with_reducible rfl) ?_
  first | (refine WO.call (by simp only [List.map, S0, Nat.reduceEqDiff, reduceIte]; first | done | with_reducible rfl) ?_) | (refine WO.call (by simp only [List.map, S0, S1, decide_true, decide_false, Nat.reduceEqDiff, reduceIte, Int.reduceEq, Int.reduceLT, Int.reduceLE, *]; first | done | with_reducible rfl) ?_)
  refine (rHead_ok h2 v l s2 hl a).mono ?_
  rintro _ _ ⟨rfl, rfl⟩
  refine WO.o (by simp only [aop, S0, Nat.reduceEqDiff, reduceIte]; first | done | with_reducible rfl) ?_
  refine WO.o (by simp only [aop, List.getElem?_toArray, List.getElem?_cons_zero, List.getElem?_cons_succ, Option.some.injEq, S0, Nat.reduceEqDiff, reduceIte]; first | done | with_reducible rfl) ?_
  refine WO.o (by simp only [aop, List.getElem?_toArray, List.getElem?_cons_zero, List.getElem?_cons_succ, Option.some.injEq, S0, Nat.reduceEqDiff, reduceIte]; first | done | with_reducible rfl) ?_
  refine WO.o (by simp only [aop, S0, Nat.reduceEqDiff, reduceIte]; first | done | with_reducible rfl) ?_
  refine WO.o (by simp only [aop, S0, Nat.reduceEqDiff, reduceIte]; first | done | with_reducible rfl) ?_
  refine WO.nil ?_
  refine thenK_normal ?_
  refine WX.seq ?_
  refine WX.region ?_
  refine WO.abs fun t3_ ht3_ => ?_
  have q3_0 := (ht3_ 0).trans (by simp only [S0, Nat.reduceEqDiff, reduceIte]; first | done | with_reducible rfl)
  have q3_1 := (ht3_ 1).trans (by simp only [S0, Nat.reduceEqDiff, reduceIte]; first | done | with_reducible rfl)
  have q3_2 := (ht3_ 2).trans (by simp only [S0, Nat.reduceEqDiff, reduceIte]; first | done | with_reducible rfl)
  have q3_7 := (ht3_ 7).trans (by simp only [S0, Nat.reduceEqDiff, reduceIte]; first | done | with_reducible rfl)
  have q3_8 := (ht3_ 8).trans (by simp only [S0, Nat.reduceEqDiff, reduceIte]; first | done | with_reducible rfl)
  have q3_9 := (ht3_ 9).trans (by simp only [S0, Nat.reduceEqDiff, reduceIte]; first | done | with_reducible rfl)
  have q3_10 := (ht3_ 10).trans (by simp only [S0, Nat.reduceEqDiff, reduceIte]; first | done | with_reducible rfl)
  have q3_11 := (ht3_ 11).trans (by simp only [S0, Nat.reduceEqDiff, reduceIte]; first | done | with_reducible rfl)
  clear ht3_
  refine WO.o (by simp only [aop, S0, Nat.reduceEqDiff, reduceIte, q3_7]; first | done | with_reducible rfl) ?_
  first | (refine WO.call (by simp only [List.map, S0, Nat.reduceEqDiff, reduceIte]; first | done | with_reducible rfl) ?_) | (refine WO.call (by simp only [List.map, S0, S1, decide_true, decide_false, Nat.reduceEqDiff, reduceIte, Int.reduceEq, Int.reduceLT, Int.reduceLE, *]; first | done | with_reducible rfl) ?_)
  refine (Flat_ok h2 own l oo2.sl hl).mono ?_
  rintro _ h3 ⟨g, rfl, e3, og⟩
  have oo3 := oo2.ext e3
  have s3 := s2.ext e3
  refine WO.o (by simp only [aop, S0, Nat.reduceEqDiff, reduceIte]; first | done | with_reducible rfl) ?_
  refine WO.o (by simp only [aop, List.getElem?_toArray, List.getElem?_cons_zero, List.getElem?_cons_succ, Option.some.injEq, S0, Nat.reduceEqDiff, reduceIte]; first | done | with_reducible rfl) ?_
  refine WO.o (by simp only [aop, List.getElem?_toArray, List.getElem?_cons_zero, List.getElem?_cons_succ, Option.some.injEq, S0, Nat.reduceEqDiff, reduceIte]; first | done | with_reducible rfl) ?_
  refine WO.o (by simp only [aop, S0, Nat.reduceEqDiff, reduceIte]; first | done | with_reducible rfl) ?_
  refine WO.o (by simp only [aop, S0, Nat.reduceEqDiff, reduceIte]; first | done | with_reducible rfl) ?_
  refine WO.nil ?_
  refine thenK_normal ?_
  refine WX.seq ?_
  refine WX.region ?_
  refine WO.o (by simp only [aop, S0, Nat.reduceEqDiff, reduceIte, q3_0]; first | done | with_reducible rfl) ?_
  first | (refine WO.call (by simp only [List.map, S0, Nat.reduceEqDiff, reduceIte]; first | done | with_reducible rfl) ?_) | (refine WO.call (by simp only [List.map, S0, S1, decide_true, decide_false, Nat.reduceEqDiff, reduceIte, Int.reduceEq, Int.reduceLT, Int.reduceLE, *]; first | done | with_reducible rfl) ?_)
  refine (rflat_ok h3 v l s3 hl).mono ?_
  rintro _ h4 ⟨g', rfl, e4, og'⟩
  change OwnN h3 h4 g' (flatS l) at og'
  have oo4 := oo3.ext e4
  have s4 := s3.ext e4
  have og4 := og.ext e4
  refine WO.o (by simp only [aop, S0, Nat.reduceEqDiff, reduceIte]; first | done | with_reducible rfl) ?_
  refine WO.o (by simp only [aop, List.getElem?_toArray, List.getElem?_cons_zero, List.getElem?_cons_succ, Option.some.injEq, S0, Nat.reduceEqDiff, reduceIte]; first | done | with_reducible rfl) ?_
  refine WO.o (by simp only [aop, List.getElem?_toArray, List.getElem?_cons_zero, List.getElem?_cons_succ, Option.some.injEq, S0, Nat.reduceEqDiff, reduceIte]; first | done | with_reducible rfl) ?_
  refine WO.o (by simp only [aop, S0, Nat.reduceEqDiff, reduceIte]; first | done | with_reducible rfl) ?_
  refine WO.o (by simp only [aop, S0, Nat.reduceEqDiff, reduceIte]; first | done | with_reducible rfl) ?_
  refine WO.nil ?_
  refine thenK_normal ?_
  refine WX.seq ?_
  refine WX.region ?_
  refine WO.o (by simp only [aop, S0, Nat.reduceEqDiff, reduceIte, q3_7]; first | done | with_reducible rfl) ?_
  refine WO.o (by simp only [aop, S0, Nat.reduceEqDiff, reduceIte, q3_1]; first | done | with_reducible rfl) ?_
  refine WO.o (by simp only [aop, S0, Nat.reduceEqDiff, reduceIte, q3_2]; first | done | with_reducible rfl) ?_
  first | (refine WO.call (by simp only [List.map, S0, Nat.reduceEqDiff, reduceIte]; first | done | with_reducible rfl) ?_) | (refine WO.call (by simp only [List.map, S0, S1, decide_true, decide_false, Nat.reduceEqDiff, reduceIte, Int.reduceEq, Int.reduceLT, Int.reduceLE, *]; first | done | with_reducible rfl) ?_)
  refine (Join_ok h4 own l oo4.sl hl a b).mono ?_
  rintro _ h5 ⟨i, rfl, e5, oi⟩
  have oo5 := oo4.ext e5
  have s5 := s4.ext e5
  have og5 := og4.ext e5
  have og5' := og'.ext e5
  refine WO.o (by simp only [aop, S0, Nat.reduceEqDiff, reduceIte]; first | done | with_reducible rfl) ?_
  refine WO.o (by simp only [aop, List.getElem?_toArray, List.getElem?_cons_zero, List.getElem?_cons_succ, Option.some.injEq, S0, Nat.reduceEqDiff, reduceIte]; first | done | with_reducible rfl) ?_
  refine WO.o (by simp only [aop, List.getElem?_toArray, List.getElem?_cons_zero, List.getElem?_cons_succ, Option.some.injEq, S0, Nat.reduceEqDiff, reduceIte]; first | done | with_reducible rfl) ?_
  refine WO.o (by simp only [aop, S0, Nat.reduceEqDiff, reduceIte]; first | done | with_reducible rfl) ?_
  refine WO.o (by simp only [aop, S0, Nat.reduceEqDiff, reduceIte]; first | done | with_reducible rfl) ?_
  refine WO.nil ?_
  refine thenK_normal ?_
  refine WX.seq ?_
  refine WX.region ?_
  refine WO.o (by simp only [aop, S0, Nat.reduceEqDiff, reduceIte, q3_0]; first | done | with_reducible rfl) ?_
  refine WO.abs fun t4_ ht4_ => ?_
  have q4_0 := (ht4_ 0).trans (by simp only [S0, Nat.reduceEqDiff, reduceIte, q3_0]; first | done | with_reducible rfl)
  have q4_1 := (ht4_ 1).trans (by simp only [S0, Nat.reduceEqDiff, reduceIte, q3_1]; first | done | with_reducible rfl)
  have q4_2 := (ht4_ 2).trans (by simp only [S0, Nat.reduceEqDiff, reduceIte, q3_2]; first | done | with_reducible rfl)
  have q4_7 := (ht4_ 7).trans (by simp only [S0, Nat.reduceEqDiff, reduceIte, q3_7]; first | done | with_reducible rfl)
  have q4_8 := (ht4_ 8).trans (by simp only [S0, Nat.reduceEqDiff, reduceIte, q3_8]; first | done | with_reducible rfl)
  have q4_9 := (ht4_ 9).trans (by simp only [S0, Nat.reduceEqDiff, reduceIte, q3_9]; first | done | with_reducible rfl)
  have q4_10 := (ht4_ 10).trans (by simp only [S0, Nat.reduceEqDiff, reduceIte, q3_10]; first | done | with_reducible rfl)
  have q4_11 := (ht4_ 11).trans (by simp only [S0, Nat.reduceEqDiff, reduceIte, q3_11]; first | done | with_reducible rfl)
  have q4_12 := (ht4_ 12).trans (by simp only [S0, Nat.reduceEqDiff, reduceIte]; first | done | with_reducible rfl)
  have q4_13 := (ht4_ 13).trans (by simp only [S0, Nat.reduceEqDiff, reduceIte]; first | done | with_reducible rfl)
  have q4_14 := (ht4_ 14).trans (by simp only [S0, Nat.reduceEqDiff, reduceIte]; first | done | with_reducible rfl)
  have q4_15 := (ht4_ 15).trans (by simp only [S0, Nat.reduceEqDiff, reduceIte]; first | done | with_reducible rfl)
  have q4_16 := (ht4_ 16).trans (by simp only [S0, Nat.reduceEqDiff, reduceIte]; first | done | with_reducible rfl)
  have q4_17 := (ht4_ 17).trans (by simp only [S0, Nat.reduceEqDiff, reduceIte]; first | done | with_reducible rfl)
  have q4_63 := (ht4_ 63).trans (by simp only [S0, Nat.reduceEqDiff, reduceIte]; first | done | with_reducible rfl)
  clear ht4_
  clear q3_0 q3_1 q3_2 q3_7 q3_8 q3_9 q3_10 q3_11
  refine WO.o (by simp only [aop, S0, Nat.reduceEqDiff, reduceIte, q4_1]; first | done | with_reducible rfl) ?_
  refine WO.o (by simp only [aop, S0, Nat.reduceEqDiff, reduceIte, q4_2]; first | done | with_reducible rfl) ?_
  first | (refine WO.call (by simp only [List.map, S0, Nat.reduceEqDiff, reduceIte, q4_63]; first | done | with_reducible rfl) ?_) | (refine WO.call (by simp only [List.map, S0, S1, decide_true, decide_false, Nat.reduceEqDiff, reduceIte, Int.reduceEq, Int.reduceLT, Int.reduceLE, *]; first | done | with_reducible rfl) ?_)
  refine (rJoin_ok h5 v l s5 hl a b).mono ?_
  rintro _ h6 ⟨i', rfl, e6, oi'⟩
  have oo6 := oo5.ext e6
  have s6 := s5.ext e6
  have og6 := og5.ext e6
  have og6' := og5'.ext e6
  have oi6 := oi.ext e6
  refine WO.o (by simp only [aop, S0, Nat.reduceEqDiff, reduceIte]; first | done | with_reducible rfl) ?_
  refine WO.o (by simp only [aop, List.getElem?_toArray, List.getElem?_cons_zero, List.getElem?_cons_succ, Option.some.injEq, S0, Nat.reduceEqDiff, reduceIte]; first | done | with_reducible rfl) ?_
  refine WO.o (by simp only [aop, List.getElem?_toArray, List.getElem?_cons_zero, List.getElem?_cons_succ, Option.some.injEq, S0, Nat.reduceEqDiff, reduceIte]; first | done | with_reducible rfl) ?_
  refine WO.o (by simp only [aop, S0, Nat.reduceEqDiff, reduceIte]; first | done | with_reducible rfl) ?_
  refine WO.o (by simp only [aop, S0, Nat.reduceEqDiff, reduceIte]; first | done | with_reducible rfl) ?_
  refine WO.nil ?_
  refine thenK_normal ?_
  refine WX.seq ?_
  refine WX.region ?_
  refine WO.o (by simp only [aop, S0, Nat.reduceEqDiff, reduceIte, q4_7]; first | done | with_reducible rfl) ?_
  first | (refine WO.call (by simp only [List.map, S0, Nat.reduceEqDiff, reduceIte]; first | done | with_reducible rfl) ?_) | (refine WO.call (by simp only [List.map, S0, S1, decide_true, decide_false, Nat.reduceEqDiff, reduceIte, Int.reduceEq, Int.reduceLT, Int.reduceLE, *]; first | done | with_reducible rfl) ?_)
  refine (Count_ok h6 own l oo6.sl hl).mono ?_
  rintro _ _ ⟨rfl, rfl⟩
  refine WO.o (by simp only [aop, S0, Nat.reduceEqDiff, reduceIte]; first | done | with_reducible rfl) ?_
  refine WO.o (by simp only [aop, List.getElem?_toArray, List.getElem?_cons_zero, List.getElem?_cons_succ, Option.some.injEq, S0, Nat.reduceEqDiff, reduceIte]; first | done | with_reducible rfl) ?_
  refine WO.o (by simp only [aop, List.getElem?_toArray, List.getElem?_cons_zero, List.getElem?_cons_succ, Option.some.injEq, S0, Nat.reduceEqDiff, reduceIte]; first | done | with_reducible rfl) ?_
  refine WO.o (by simp only [aop, S0, Nat.reduceEqDiff, reduceIte]; first | done | with_reducible rfl) ?_
  refine WO.o (by simp only [aop, S0, Nat.reduceEqDiff, reduceIte]; first | done | with_reducible rfl) ?_
  refine WO.nil ?_
  refine thenK_normal ?_
  refine WX.seq ?_
  refine WX.region ?_
  refine WO.o (by simp only [aop, S0, Nat.reduceEqDiff, reduceIte, q4_0]; first | done | with_reducible rfl) ?_
  first | (refine WO.call (by simp only [List.map, S0, Nat.reduceEqDiff, reduceIte]; first | done | with_reducible rfl) ?_) | (refine WO.call (by simp only [List.map, S0, S1, decide_true, decide_false, Nat.reduceEqDiff, reduceIte, Int.reduceEq, Int.reduceLT, Int.reduceLE, *]; first | done | with_reducible rfl) ?_)
  refine (rCount_ok h6 v l s6 hl).mono ?_
  rintro _ _ ⟨rfl, rfl⟩
  refine WO.o (by simp only [aop, S0, Nat.reduceEqDiff, reduceIte]; first | done | with_reducible rfl) ?_
  refine WO.o (by simp only [aop, List.getElem?_toArray, List.getElem?_cons_zero, List.getElem?_cons_succ, Option.some.injEq, S0, Nat.reduceEqDiff, reduceIte]; first | done | with_reducible rfl) ?_
  refine WO.o (by simp only [aop, List.getElem?_toArray, List.getElem?_cons_zero, List.getElem?_cons_succ, Option.some.injEq, S0, Nat.reduceEqDiff, reduceIte]; first | done | with_reducible rfl) ?_
  refine WO.o (by simp only [aop, S0, Nat.reduceEqDiff, reduceIte]; first | done | with_reducible rfl) ?_
  refine WO.o (by simp only [aop, S0, Nat.reduceEqDiff, reduceIte]; first | done | with_reducible rfl) ?_
  refine WO.nil ?_
  refine thenK_normal ?_
  refine WX.seq ?_
  refine WX.region ?_
  refine WO.o (by simp only [aop, S0, Nat.reduceEqDiff, reduceIte, q4_7]; first | done | with_reducible rfl) ?_
  first | (refine WO.call (by simp only [List.map, S0, Nat.reduceEqDiff, reduceIte]; first | done | with_reducible rfl) ?_) | (refine WO.call (by simp only [List.map, S0, S1, decide_true, decide_false, Nat.reduceEqDiff, reduceIte, Int.reduceEq, Int.reduceLT, Int.reduceLE, *]; first | done | with_reducible rfl) ?_)
  refine (check_ok h6 own l oo6.sl (by omega)).mono ?_
  rintro _ _ ⟨rfl, rfl⟩
  refine WO.abs fun t5_ ht5_ => ?_
  have q5_0 := (ht5_ 0).trans (by simp only [S0, Nat.reduceEqDiff, reduceIte, q4_0]; first | done | with_reducible rfl)
  have q5_7 := (ht5_ 7).trans (by simp only [S0, Nat.reduceEqDiff, reduceIte, q4_7]; first | done | with_reducible rfl)
  have q5_8 := (ht5_ 8).trans (by simp only [S0, Nat.reduceEqDiff, reduceIte, q4_8]; first | done | with_reducible rfl)
  have q5_9 := (ht5_ 9).trans (by simp only [S0, Nat.reduceEqDiff, reduceIte, q4_9]; first | done | with_reducible rfl)
  have q5_10 := (ht5_ 10).trans (by simp only [S0, Nat.reduceEqDiff, reduceIte, q4_10]; first | done | with_reducible rfl)
  have q5_11 := (ht5_ 11).trans (by simp only [S0, Nat.reduceEqDiff, reduceIte, q4_11]; first | done | with_reducible rfl)
  have q5_12 := (ht5_ 12).trans (by simp only [S0, Nat.reduceEqDiff, reduceIte, q4_12]; first | done | with_reducible rfl)
  have q5_13 := (ht5_ 13).trans (by simp only [S0, Nat.reduceEqDiff, reduceIte, q4_13]; first | done | with_reducible rfl)
  have q5_14 := (ht5_ 14).trans (by simp only [S0, Nat.reduceEqDiff, reduceIte, q4_14]; first | done | with_reducible rfl)
  have q5_15 := (ht5_ 15).trans (by simp only [S0, Nat.reduceEqDiff, reduceIte, q4_15]; first | done | with_reducible rfl)
  have q5_16 := (ht5_ 16).trans (by simp only [S0, Nat.reduceEqDiff, reduceIte, q4_16]; first | done | with_reducible rfl)
  have q5_17 := (ht5_ 17).trans (by simp only [S0, Nat.reduceEqDiff, reduceIte, q4_17]; first | done | with_reducible rfl)
  have q5_18 := (ht5_ 18).trans (by simp only [S0, Nat.reduceEqDiff, reduceIte]; first | done | with_reducible rfl)
  have q5_19 := (ht5_ 19).trans (by simp only [S0, Nat.reduceEqDiff, reduceIte]; first | done | with_reducible rfl)
  have q5_20 := (ht5_ 20).trans (by simp only [S0, Nat.reduceEqDiff, reduceIte]; first | done | with_reducible rfl)
  have q5_21 := (ht5_ 21).trans (by simp only [S0, Nat.reduceEqDiff, reduceIte]; first | done | with_reducible rfl)
  have q5_22 := (ht5_ 22).trans (by simp only [S0, Nat.reduceEqDiff, reduceIte]; first | done | with_reducible rfl)
  have q5_23 := (ht5_ 23).trans (by simp only [S0, Nat.reduceEqDiff, reduceIte]; first | done | with_reducible rfl)
  have q5_80 := (ht5_ 80).trans (by simp only [S0, Nat.reduceEqDiff, reduceIte]; first | done | with_reducible rfl)
  clear ht5_
  clear q4_0 q4_1 q4_2 q4_7 q4_8 q4_9 q4_10 q4_11 q4_12 q4_13 q4_14 q4_15 q4_16 q4_17 q4_63
  refine WO.o (by simp only [aop, S0, Nat.reduceEqDiff, reduceIte, q5_0]; first | done | with_reducible rfl) ?_
  first | (refine WO.call (by simp only [List.map, S0, Nat.reduceEqDiff, reduceIte]; first | done | with_reducible rfl) ?_) | (refine WO.call (by simp only [List.map, S0, S1, decide_true, decide_false, Nat.reduceEqDiff, reduceIte, Int.reduceEq, Int.reduceLT, Int.reduceLE, *]; first | done | with_reducible rfl) ?_)
  refine (rcheck_ok h6 v l s6 (by omega)).mono ?_
  rintro _ _ ⟨rfl, rfl⟩
  refine WO.o (by simp only [aop, binV_eql, Option.map_some, S0, S1, decide_true, decide_false, Nat.reduceEqDiff, reduceIte, Int.reduceEq, Int.reduceLT, Int.reduceLE, *]; first | done | with_reducible rfl) ?_
  refine WO.o (by simp only [aop, S0, Nat.reduceEqDiff, reduceIte]; first | done | with_reducible rfl) ?_
  first | (refine WO.guardT (by simp only [S0, S1, decide_true, decide_false, Nat.reduceEqDiff, reduceIte, Int.reduceEq, Int.reduceLT, Int.reduceLE, *]; first | done | with_reducible rfl) ?_; refine WO.o (by simp only [aop, S0, Nat.reduceEqDiff, reduceIte, q5_8]; first | done | with_reducible rfl) ?_) | (refine WO.guardF (by simp only [S0, S1, decide_true, decide_false, Nat.reduceEqDiff, reduceIte, Int.reduceEq, Int.reduceLT, Int.reduceLE, *]; first | done | with_reducible rfl) ?_) | (refine WO.guardU (by simp only [S0, S1, decide_true, decide_false, Nat.reduceEqDiff, reduceIte, Int.reduceEq, Int.reduceLT, Int.reduceLE, *]; first | done | with_reducible rfl) ?_)
  first | (refine WO.guardT (by simp only [S0, S1, decide_true, decide_false, Nat.reduceEqDiff, reduceIte, Int.reduceEq, Int.reduceLT, Int.reduceLE, *]; first | done | with_reducible rfl) ?_; refine WO.o (by simp only [aop, S0, Nat.reduceEqDiff, reduceIte, q5_10]; first | done | with_reducible rfl) ?_) | (refine WO.guardF (by simp only [S0, S1, decide_true, decide_false, Nat.reduceEqDiff, reduceIte, Int.reduceEq, Int.reduceLT, Int.reduceLE, *]; first | done | with_reducible rfl) ?_) | (refine WO.guardU (by simp only [S0, S1, decide_true, decide_false, Nat.reduceEqDiff, reduceIte, Int.reduceEq, Int.reduceLT, Int.reduceLE, *]; first | done | with_reducible rfl) ?_)
  first | (refine WO.guardT (by simp only [S0, S1, decide_true, decide_false, Nat.reduceEqDiff, reduceIte, Int.reduceEq, Int.reduceLT, Int.reduceLE, *]; first | done | with_reducible rfl) ?_; refine WO.o (by simp only [aop, binV_eql, Option.map_some, S0, S1, decide_true, decide_false, Nat.reduceEqDiff, reduceIte, Int.reduceEq, Int.reduceLT, Int.reduceLE, *]; first | done | with_reducible rfl) ?_) | (refine WO.guardF (by simp only [S0, S1, decide_true, decide_false, Nat.reduceEqDiff, reduceIte, Int.reduceEq, Int.reduceLT, Int.reduceLE, *]; first | done | with_reducible rfl) ?_) | (refine WO.guardU (by simp only [S0, S1, decide_true, decide_false, Nat.reduceEqDiff, reduceIte, Int.reduceEq, Int.reduceLT, Int.reduceLE, *]; first | done | with_reducible rfl) ?_)
  refine WO.o (by simp only [aop, pick_or, pick_and, S0, S1, decide_true, decide_false, Nat.reduceEqDiff, reduceIte, Int.reduceEq, Int.reduceLT, Int.reduceLE, *]; first | done | with_reducible rfl) ?_
  refine WO.o (by simp only [aop, S0, Nat.reduceEqDiff, reduceIte]; first | done | with_reducible rfl) ?_
  first | (refine WO.guardT (by simp only [S0, S1, decide_true, decide_false, Nat.reduceEqDiff, reduceIte, Int.reduceEq, Int.reduceLT, Int.reduceLE, *]; first | done | with_reducible rfl) ?_; refine WO.o (by simp only [aop, S0, Nat.reduceEqDiff, reduceIte, q5_9]; first | done | with_reducible rfl) ?_) | (refine WO.guardF (by simp only [S0, S1, decide_true, decide_false, Nat.reduceEqDiff, reduceIte, Int.reduceEq, Int.reduceLT, Int.reduceLE, *]; first | done | with_reducible rfl) ?_) | (refine WO.guardU (by simp only [S0, S1, decide_true, decide_false, Nat.reduceEqDiff, reduceIte, Int.reduceEq, Int.reduceLT, Int.reduceLE, *]; first | done | with_reducible rfl) ?_)
  first | (refine WO.guardT (by simp only [S0, S1, decide_true, decide_false, Nat.reduceEqDiff, reduceIte, Int.reduceEq, Int.reduceLT, Int.reduceLE, *]; first | done | with_reducible rfl) ?_; refine WO.o (by simp only [aop, S0, Nat.reduceEqDiff, reduceIte, q5_11]; first | done | with_reducible rfl) ?_) | (refine WO.guardF (by simp only [S0, S1, decide_true, decide_false, Nat.reduceEqDiff, reduceIte, Int.reduceEq, Int.reduceLT, Int.reduceLE, *]; first | done | with_reducible rfl) ?_) | (refine WO.guardU (by simp only [S0, S1, decide_true, decide_false, Nat.reduceEqDiff, reduceIte, Int.reduceEq, Int.reduceLT, Int.reduceLE, *]; first | done | with_reducible rfl) ?_)
  first | (refine WO.guardT (by simp only [S0, S1, decide_true, decide_false, Nat.reduceEqDiff, reduceIte, Int.reduceEq, Int.reduceLT, Int.reduceLE, *]; first | done | with_reducible rfl) ?_; refine WO.o (by simp only [aop, binV_eql, Option.map_some, S0, S1, decide_true, decide_false, Nat.reduceEqDiff, reduceIte, Int.reduceEq, Int.reduceLT, Int.reduceLE, *]; first | done | with_reducible rfl) ?_) | (refine WO.guardF (by simp only [S0, S1, decide_true, decide_false, Nat.reduceEqDiff, reduceIte, Int.reduceEq, Int.reduceLT, Int.reduceLE, *]; first | done | with_reducible rfl) ?_) | (refine WO.guardU (by simp only [S0, S1, decide_true, decide_false, Nat.reduceEqDiff, reduceIte, Int.reduceEq, Int.reduceLT, Int.reduceLE, *]; first | done | with_reducible rfl) ?_)
  refine WO.o (by simp only [aop, pick_or, pick_and, S0, S1, decide_true, decide_false, Nat.reduceEqDiff, reduceIte, Int.reduceEq, Int.reduceLT, Int.reduceLE, *]; first | done | with_reducible rfl) ?_
  refine WO.o (by simp only [aop, S0, Nat.reduceEqDiff, reduceIte]; first | done | with_reducible rfl) ?_
  first | (refine WO.guardT (by simp only [S0, S1, decide_true, decide_false, Nat.reduceEqDiff, reduceIte, Int.reduceEq, Int.reduceLT, Int.reduceLE, *]; first | done | with_reducible rfl) ?_; refine WO.o (by simp only [aop, S0, Nat.reduceEqDiff, reduceIte, q5_12]; first | done | with_reducible rfl) ?_) | (refine WO.guardF (by simp only [S0, S1, decide_true, decide_false, Nat.reduceEqDiff, reduceIte, Int.reduceEq, Int.reduceLT, Int.reduceLE, *]; first | done | with_reducible rfl) ?_) | (refine WO.guardU (by simp only [S0, S1, decide_true, decide_false, Nat.reduceEqDiff, reduceIte, Int.reduceEq, Int.reduceLT, Int.reduceLE, *]; first | done | with_reducible rfl) ?_)
  first | (refine WO.guardT (by simp only [S0, S1, decide_true, decide_false, Nat.reduceEqDiff, reduceIte, Int.reduceEq, Int.reduceLT, Int.reduceLE, *]; first | done | with_reducible rfl) ?_; refine WO.o (by simp only [aop, S0, Nat.reduceEqDiff, reduceIte, q5_14]; first | done | with_reducible rfl) ?_) | (refine WO.guardF (by simp only [S0, S1, decide_true, decide_false, Nat.reduceEqDiff, reduceIte, Int.reduceEq, Int.reduceLT, Int.reduceLE, *]; first | done | with_reducible rfl) ?_) | (refine WO.guardU (by simp only [S0, S1, decide_true, decide_false, Nat.reduceEqDiff, reduceIte, Int.reduceEq, Int.reduceLT, Int.reduceLE, *]; first | done | with_reducible rfl) ?_)
  first | (refine WO.guardT (by simp only [S0, Nat.reduceEqDiff, reduceIte, q5_0, q5_7, q5_8, q5_9, q5_10, q5_11, q5_12, q5_13, q5_14, q5_15, q5_16, q5_17, q5_18, q5_19, q5_20, q5_21, q5_22, q5_23, q5_80]; first | done | with_reducible rfl) ?_) | (refine WO.guardT (by simp only [S0, S1, decide_true, decide_false, Nat.reduceEqDiff, reduceIte, Int.reduceEq, Int.reduceLT, Int.reduceLE, *]; first | done | with_reducible rfl) ?_)
  first | (refine WO.call (by simp only [List.map, S0, Nat.reduceEqDiff, reduceIte]; first | done | with_reducible rfl) ?_) | (refine WO.call (by simp only [List.map, S0, S1, decide_true, decide_false, Nat.reduceEqDiff, reduceIte, Int.reduceEq, Int.reduceLT, Int.reduceLE, *]; first | done | with_reducible rfl) ?_)
  refine (same_ok h6 g g' _ _ og6.sl og6'.sl (by have := flatS_len l; omega)).mono ?_
  rintro _ _ ⟨rfl, rfl⟩
  refine WO.o (by simp only [aop, pick_or, pick_and, S0, S1, decide_true, decide_false, Nat.reduceEqDiff, reduceIte, Int.reduceEq, Int.reduceLT, Int.reduceLE, *]; first | done | with_reducible rfl) ?_
  refine WO.o (by simp only [aop, S0, Nat.reduceEqDiff, reduceIte]; first | done | with_reducible rfl) ?_
  first | (refine WO.guardT (by simp only [S0, S1, decide_true, decide_false, Nat.reduceEqDiff, reduceIte, Int.reduceEq, Int.reduceLT, Int.reduceLE, *]; first | done | with_reducible rfl) ?_; refine WO.o (by simp only [aop, S0, Nat.reduceEqDiff, reduceIte, q5_13]; first | done | with_reducible rfl) ?_) | (refine WO.guardF (by simp only [S0, S1, decide_true, decide_false, Nat.reduceEqDiff, reduceIte, Int.reduceEq, Int.reduceLT, Int.reduceLE, *]; first | done | with_reducible rfl) ?_) | (refine WO.guardU (by simp only [S0, S1, decide_true, decide_false, Nat.reduceEqDiff, reduceIte, Int.reduceEq, Int.reduceLT, Int.reduceLE, *]; first | done | with_reducible rfl) ?_)
  first | (refine WO.guardT (by simp only [S0, S1, decide_true, decide_false, Nat.reduceEqDiff, reduceIte, Int.reduceEq, Int.reduceLT, Int.reduceLE, *]; first | done | with_reducible rfl) ?_; refine WO.o (by simp only [aop, S0, Nat.reduceEqDiff, reduceIte, q5_15]; first | done | with_reducible rfl) ?_) | (refine WO.guardF (by simp only [S0, S1, decide_true, decide_false, Nat.reduceEqDiff, reduceIte, Int.reduceEq, Int.reduceLT, Int.reduceLE, *]; first | done | with_reducible rfl) ?_) | (refine WO.guardU (by simp only [S0, S1, decide_true, decide_false, Nat.reduceEqDiff, reduceIte, Int.reduceEq, Int.reduceLT, Int.reduceLE, *]; first | done | with_reducible rfl) ?_)
  first | (refine WO.guardT (by simp only [S0, S1, decide_true, decide_false, Nat.reduceEqDiff, reduceIte, Int.reduceEq, Int.reduceLT, Int.reduceLE, *]; first | done | with_reducible rfl) ?_; refine WO.o (by simp only [aop, binV_eql, Option.map_some, S0, S1, decide_true, decide_false, Nat.reduceEqDiff, reduceIte, Int.reduceEq, Int.reduceLT, Int.reduceLE, *]; first | done | with_reducible rfl) ?_) | (refine WO.guardF (by simp only [S0, S1, decide_true, decide_false, Nat.reduceEqDiff, reduceIte, Int.reduceEq, Int.reduceLT, Int.reduceLE, *]; first | done | with_reducible rfl) ?_) | (refine WO.guardU (by simp only [S0, S1, decide_true, decide_false, Nat.reduceEqDiff, reduceIte, Int.reduceEq, Int.reduceLT, Int.reduceLE, *]; first | done | with_reducible rfl) ?_)
  refine WO.o (by simp only [aop, pick_or, pick_and, S0, S1, decide_true, decide_false, Nat.reduceEqDiff, reduceIte, Int.reduceEq, Int.reduceLT, Int.reduceLE, *]; first | done | with_reducible rfl) ?_
  refine WO.o (by simp only [aop, S0, Nat.reduceEqDiff, reduceIte]; first | done | with_reducible rfl) ?_
  refine WO.abs fun t6_ ht6_ => ?_
  have q6_0 := (ht6_ 0).trans (by simp only [S0, Nat.reduceEqDiff, reduceIte, q5_0]; first | done | with_reducible rfl)
  have q6_7 := (ht6_ 7).trans (by simp only [S0, Nat.reduceEqDiff, reduceIte, q5_7]; first | done | with_reducible rfl)
  have q6_12 := (ht6_ 12).trans (by simp only [S0, Nat.reduceEqDiff, reduceIte, q5_12]; first | done | with_reducible rfl)
  have q6_16 := (ht6_ 16).trans (by simp only [S0, Nat.reduceEqDiff, reduceIte, q5_16]; first | done | with_reducible rfl)
  have q6_17 := (ht6_ 17).trans (by simp only [S0, Nat.reduceEqDiff, reduceIte, q5_17]; first | done | with_reducible rfl)
  have q6_18 := (ht6_ 18).trans (by simp only [S0, Nat.reduceEqDiff, reduceIte, q5_18]; first | done | with_reducible rfl)
  have q6_19 := (ht6_ 19).trans (by simp only [S0, Nat.reduceEqDiff, reduceIte, q5_19]; first | done | with_reducible rfl)
  have q6_20 := (ht6_ 20).trans (by simp only [S0, Nat.reduceEqDiff, reduceIte, q5_20]; first | done | with_reducible rfl)
  have q6_21 := (ht6_ 21).trans (by simp only [S0, Nat.reduceEqDiff, reduceIte, q5_21]; first | done | with_reducible rfl)
  have q6_22 := (ht6_ 22).trans (by simp only [S0, Nat.reduceEqDiff, reduceIte, q5_22]; first | done | with_reducible rfl)
  have q6_23 := (ht6_ 23).trans (by simp only [S0, Nat.reduceEqDiff, reduceIte, q5_23]; first | done | with_reducible rfl)
  have q6_104 := (ht6_ 104).trans (by simp only [S0, Nat.reduceEqDiff, reduceIte]; first | done | with_reducible rfl)
  clear ht6_
  clear q5_0 q5_7 q5_8 q5_9 q5_10 q5_11 q5_12 q5_13 q5_14 q5_15 q5_16 q5_17 q5_18 q5_19 q5_20 q5_21 q5_22 q5_23 q5_80
  first | (refine WO.guardT (by simp only [S0, S1, decide_true, decide_false, Nat.reduceEqDiff, reduceIte, Int.reduceEq, Int.reduceLT, Int.reduceLE, *]; first | done | with_reducible rfl) ?_; refine WO.o (by simp only [aop, S0, Nat.reduceEqDiff, reduceIte, q6_16, q6_104]; first | done | with_reducible rfl) ?_) | (refine WO.guardF (by simp only [S0, S1, decide_true, decide_false, Nat.reduceEqDiff, reduceIte, Int.reduceEq, Int.reduceLT, Int.reduceLE, *]; first | done | with_reducible rfl) ?_) | (refine WO.guardU (by simp only [S0, S1, decide_true, decide_false, Nat.reduceEqDiff, reduceIte, Int.reduceEq, Int.reduceLT, Int.reduceLE, *]; first | done | with_reducible rfl) ?_)
  first | (refine WO.guardT (by simp only [S0, S1, decide_true, decide_false, Nat.reduceEqDiff, reduceIte, Int.reduceEq, Int.reduceLT, Int.reduceLE, *]; first | done | with_reducible rfl) ?_; refine WO.o (by simp only [aop, S0, Nat.reduceEqDiff, reduceIte, q6_18, q6_104]; first | done | with_reducible rfl) ?_) | (refine WO.guardF (by simp only [S0, S1, decide_true, decide_false, Nat.reduceEqDiff, reduceIte, Int.reduceEq, Int.reduceLT, Int.reduceLE, *]; first | done | with_reducible rfl) ?_) | (refine WO.guardU (by simp only [S0, S1, decide_true, decide_false, Nat.reduceEqDiff, reduceIte, Int.reduceEq, Int.reduceLT, Int.reduceLE, *]; first | done | with_reducible rfl) ?_)
  first | (refine WO.guardT (by simp only [S0, Nat.reduceEqDiff, reduceIte, q6_0, q6_7, q6_12, q6_16, q6_17, q6_18, q6_19, q6_20, q6_21, q6_22, q6_23, q6_104]; first | done | with_reducible rfl) ?_) | (refine WO.guardT (by simp only [S0, S1, decide_true, decide_false, Nat.reduceEqDiff, reduceIte, Int.reduceEq, Int.reduceLT, Int.reduceLE, *]; first | done | with_reducible rfl) ?_)
  first | (refine WO.call (by simp only [List.map, S0, Nat.reduceEqDiff, reduceIte, q6_104]; first | done | with_reducible rfl) ?_) | (refine WO.call (by simp only [List.map, S0, S1, decide_true, decide_false, Nat.reduceEqDiff, reduceIte, Int.reduceEq, Int.reduceLT, Int.reduceLE, *]; first | done | with_reducible rfl) ?_)
  refine (same_ok h6 i i' _ _ oi6.sl oi'.sl (by have := joinS_len l a b; omega)).mono ?_
  rintro _ _ ⟨rfl, rfl⟩
  refine WO.o (by simp only [aop, pick_or, pick_and, S0, S1, decide_true, decide_false, Nat.reduceEqDiff, reduceIte, Int.reduceEq, Int.reduceLT, Int.reduceLE, *]; first | done | with_reducible rfl) ?_
  refine WO.o (by simp only [aop, S0, Nat.reduceEqDiff, reduceIte]; first | done | with_reducible rfl) ?_
  first | (refine WO.guardT (by simp only [S0, S1, decide_true, decide_false, Nat.reduceEqDiff, reduceIte, Int.reduceEq, Int.reduceLT, Int.reduceLE, *]; first | done | with_reducible rfl) ?_; refine WO.o (by simp only [aop, S0, Nat.reduceEqDiff, reduceIte, q6_17]; first | done | with_reducible rfl) ?_) | (refine WO.guardF (by simp only [S0, S1, decide_true, decide_false, Nat.reduceEqDiff, reduceIte, Int.reduceEq, Int.reduceLT, Int.reduceLE, *]; first | done | with_reducible rfl) ?_) | (refine WO.guardU (by simp only [S0, S1, decide_true, decide_false, Nat.reduceEqDiff, reduceIte, Int.reduceEq, Int.reduceLT, Int.reduceLE, *]; first | done | with_reducible rfl) ?_)
  first | (refine WO.guardT (by simp only [S0, S1, decide_true, decide_false, Nat.reduceEqDiff, reduceIte, Int.reduceEq, Int.reduceLT, Int.reduceLE, *]; first | done | with_reducible rfl) ?_; refine WO.o (by simp only [aop, S0, Nat.reduceEqDiff, reduceIte, q6_19]; first | done | with_reducible rfl) ?_) | (refine WO.guardF (by simp only [S0, S1, decide_true, decide_false, Nat.reduceEqDiff, reduceIte, Int.reduceEq, Int.reduceLT, Int.reduceLE, *]; first | done | with_reducible rfl) ?_) | (refine WO.guardU (by simp only [S0, S1, decide_true, decide_false, Nat.reduceEqDiff, reduceIte, Int.reduceEq, Int.reduceLT, Int.reduceLE, *]; first | done | with_reducible rfl) ?_)
  first | (refine WO.guardT (by simp only [S0, S1, decide_true, decide_false, Nat.reduceEqDiff, reduceIte, Int.reduceEq, Int.reduceLT, Int.reduceLE, *]; first | done | with_reducible rfl) ?_; refine WO.o (by simp only [aop, binV_eql, Option.map_some, S0, S1, decide_true, decide_false, Nat.reduceEqDiff, reduceIte, Int.reduceEq, Int.reduceLT, Int.reduceLE, *]; first | done | with_reducible rfl) ?_) | (refine WO.guardF (by simp only [S0, S1, decide_true, decide_false, Nat.reduceEqDiff, reduceIte, Int.reduceEq, Int.reduceLT, Int.reduceLE, *]; first | done | with_reducible rfl) ?_) | (refine WO.guardU (by simp only [S0, S1, decide_true, decide_false, Nat.reduceEqDiff, reduceIte, Int.reduceEq, Int.reduceLT, Int.reduceLE, *]; first | done | with_reducible rfl) ?_)
  refine WO.o (by simp only [aop, pick_or, pick_and, S0, S1, decide_true, decide_false, Nat.reduceEqDiff, reduceIte, Int.reduceEq, Int.reduceLT, Int.reduceLE, *]; first | done | with_reducible rfl) ?_
  refine WO.o (by simp only [aop, S0, Nat.reduceEqDiff, reduceIte]; first | done | with_reducible rfl) ?_
  first | (refine WO.guardT (by simp only [S0, S1, decide_true, decide_false, Nat.reduceEqDiff, reduceIte, Int.reduceEq, Int.reduceLT, Int.reduceLE, *]; first | done | with_reducible rfl) ?_; refine WO.o (by simp only [aop, S0, Nat.reduceEqDiff, reduceIte, q6_20]; first | done | with_reducible rfl) ?_) | (refine WO.guardF (by simp only [S0, S1, decide_true, decide_false, Nat.reduceEqDiff, reduceIte, Int.reduceEq, Int.reduceLT, Int.reduceLE, *]; first | done | with_reducible rfl) ?_) | (refine WO.guardU (by simp only [S0, S1, decide_true, decide_false, Nat.reduceEqDiff, reduceIte, Int.reduceEq, Int.reduceLT, Int.reduceLE, *]; first | done | with_reducible rfl) ?_)
  first | (refine WO.guardT (by simp only [S0, S1, decide_true, decide_false, Nat.reduceEqDiff, reduceIte, Int.reduceEq, Int.reduceLT, Int.reduceLE, *]; first | done | with_reducible rfl) ?_; refine WO.o (by simp only [aop, S0, Nat.reduceEqDiff, reduceIte, q6_22]; first | done | with_reducible rfl) ?_) | (refine WO.guardF (by simp only [S0, S1, decide_true, decide_false, Nat.reduceEqDiff, reduceIte, Int.reduceEq, Int.reduceLT, Int.reduceLE, *]; first | done | with_reducible rfl) ?_) | (refine WO.guardU (by simp only [S0, S1, decide_true, decide_false, Nat.reduceEqDiff, reduceIte, Int.reduceEq, Int.reduceLT, Int.reduceLE, *]; first | done | with_reducible rfl) ?_)
  first | (refine WO.guardT (by simp only [S0, S1, decide_true, decide_false, Nat.reduceEqDiff, reduceIte, Int.reduceEq, Int.reduceLT, Int.reduceLE, *]; first | done | with_reducible rfl) ?_; refine WO.o (by simp only [aop, binV_eql, Option.map_some, S0, S1, decide_true, decide_false, Nat.reduceEqDiff, reduceIte, Int.reduceEq, Int.reduceLT, Int.reduceLE, *]; first | done | with_reducible rfl) ?_) | (refine WO.guardF (by simp only [S0, S1, decide_true, decide_false, Nat.reduceEqDiff, reduceIte, Int.reduceEq, Int.reduceLT, Int.reduceLE, *]; first | done | with_reducible rfl) ?_) | (refine WO.guardU (by simp only [S0, S1, decide_true, decide_false, Nat.reduceEqDiff, reduceIte, Int.reduceEq, Int.reduceLT, Int.reduceLE, *]; first | done | with_reducible rfl) ?_)
  refine WO.o (by simp only [aop, pick_or, pick_and, S0, S1, decide_true, decide_false, Nat.reduceEqDiff, reduceIte, Int.reduceEq, Int.reduceLT, Int.reduceLE, *]; first | done | with_reducible rfl) ?_
  refine WO.o (by simp only [aop, S0, Nat.reduceEqDiff, reduceIte]; first | done | with_reducible rfl) ?_
  first | (refine WO.guardT (by simp only [S0, S1, decide_true, decide_false, Nat.reduceEqDiff, reduceIte, Int.reduceEq, Int.reduceLT, Int.reduceLE, *]; first | done | with_reducible rfl) ?_; refine WO.o (by simp only [aop, S0, Nat.reduceEqDiff, reduceIte, q6_21]; first | done | with_reducible rfl) ?_) | (refine WO.guardF (by simp only [S0, S1, decide_true, decide_false, Nat.reduceEqDiff, reduceIte, Int.reduceEq, Int.reduceLT, Int.reduceLE, *]; first | done | with_reducible rfl) ?_) | (refine WO.guardU (by simp only [S0, S1, decide_true, decide_false, Nat.reduceEqDiff, reduceIte, Int.reduceEq, Int.reduceLT, Int.reduceLE, *]; first | done | with_reducible rfl) ?_)
  first | (refine WO.guardT (by simp only [S0, S1, decide_true, decide_false, Nat.reduceEqDiff, reduceIte, Int.reduceEq, Int.reduceLT, Int.reduceLE, *]; first | done | with_reducible rfl) ?_; refine WO.o (by simp only [aop, S0, Nat.reduceEqDiff, reduceIte, q6_23]; first | done | with_reducible rfl) ?_) | (refine WO.guardF (by simp only [S0, S1, decide_true, decide_false, Nat.reduceEqDiff, reduceIte, Int.reduceEq, Int.reduceLT, Int.reduceLE, *]; first | done | with_reducible rfl) ?_) | (refine WO.guardU (by simp only [S0, S1, decide_true, decide_false, Nat.reduceEqDiff, reduceIte, Int.reduceEq, Int.reduceLT, Int.reduceLE, *]; first | done | with_reducible rfl) ?_)
  first | (refine WO.guardT (by simp only [S0, S1, decide_true, decide_false, Nat.reduceEqDiff, reduceIte, Int.reduceEq, Int.reduceLT, Int.reduceLE, *]; first | done | with_reducible rfl) ?_; refine WO.o (by simp only [aop, binV_eql, Option.map_some, S0, S1, decide_true, decide_false, Nat.reduceEqDiff, reduceIte, Int.reduceEq, Int.reduceLT, Int.reduceLE, *]; first | done | with_reducible rfl) ?_) | (refine WO.guardF (by simp only [S0, S1, decide_true, decide_false, Nat.reduceEqDiff, reduceIte, Int.reduceEq, Int.reduceLT, Int.reduceLE, *]; first | done | with_reducible rfl) ?_) | (refine WO.guardU (by simp only [S0, S1, decide_true, decide_false, Nat.reduceEqDiff, reduceIte, Int.reduceEq, Int.reduceLT, Int.reduceLE, *]; first | done | with_reducible rfl) ?_)
  refine WO.o (by simp only [aop, pick_or, pick_and, S0, S1, decide_true, decide_false, Nat.reduceEqDiff, reduceIte, Int.reduceEq, Int.reduceLT, Int.reduceLE, *]; first | done | with_reducible rfl) ?_
  refine WO.o (by simp only [aop, S0, Nat.reduceEqDiff, reduceIte]; first | done | with_reducible rfl) ?_
  refine WO.nil ?_
  refine thenK_normal ?_
  refine WX.seq ?_
  refine WX.seq ?_
  refine WX.region ?_
  refine WO.o (by simp only [aop, S0, Nat.reduceEqDiff, reduceIte]; first | done | with_reducible rfl) ?_
  refine WO.nil ?_
  refine thenK_normal ?_
  refine WX.block ?_
  -- the results are written over; what came in stays
  have E2 : Ext h2 h6 := (((e3.trans e4).trans e5).trans e6)
  refine WX.loop (fun k => (flatS l).length - k) (fun k t h7 => Ext h2 h7 ∧ tmGet t 0 = v ∧ tmGet t 7 = own ∧ tmGet t 24 = .bool true ∧ tmGet t 12 = g ∧ tmGet t 16 = i ∧ tmGet t 25 = I k ∧ k ≤ (flatS l).length ∧ (∃ L, L.length = (flatS l).length ∧ OwnN h2 h7 g L) ∧ OwnN h4 h7 i (joinS l a b)) 0 ?_ ?_
  · exact ⟨E2, (by first | (simp only [S0, Nat.reduceEqDiff, reduceIte, q6_0, q6_7, q6_12, q6_16, q6_17, q6_18, q6_19, q6_20, q6_21, q6_22, q6_23, q6_104]; first | done | rfl) | (simp only [S0, S1, decide_true, decide_false, Nat.reduceEqDiff, reduceIte, Int.reduceEq, Int.reduceLT, Int.reduceLE, *]; first | done | rfl)), (by first | (simp only [S0, Nat.reduceEqDiff, reduceIte, q6_0, q6_7, q6_12, q6_16, q6_17, q6_18, q6_19, q6_20, q6_21, q6_22, q6_23, q6_104]; first | done | rfl) | (simp only [S0, S1, decide_true, decide_false, Nat.reduceEqDiff, reduceIte, Int.reduceEq, Int.reduceLT, Int.reduceLE, *]; first | done | rfl)), (by first | (simp only [S0, Nat.reduceEqDiff, reduceIte, q6_0, q6_7, q6_12, q6_16, q6_17, q6_18, q6_19, q6_20, q6_21, q6_22, q6_23, q6_104]; first | done | rfl) | (simp only [S0, S1, decide_true, decide_false, Nat.reduceEqDiff, reduceIte, Int.reduceEq, Int.reduceLT, Int.reduceLE, *]; first | done | rfl)), (by first | (simp only [S0, Nat.reduceEqDiff, reduceIte, q6_0, q6_7, q6_12, q6_16, q6_17, q6_18, q6_19, q6_20, q6_21, q6_22, q6_23, q6_104]; first | done | rfl) | (simp only [S0, S1, decide_true, decide_false, Nat.reduceEqDiff, reduceIte, Int.reduceEq, Int.reduceLT, Int.reduceLE, *]; first | done | rfl)), (by first | (simp only [S0, Nat.reduceEqDiff, reduceIte, q6_0, q6_7, q6_12, q6_16, q6_17, q6_18, q6_19, q6_20, q6_21, q6_22, q6_23, q6_104]; first | done | rfl) | (simp only [S0, S1, decide_true, decide_false, Nat.reduceEqDiff, reduceIte, Int.reduceEq, Int.reduceLT, Int.reduceLE, *]; first | done | rfl)), (by first | (simp only [S0, Nat.reduceEqDiff, reduceIte, q6_0, q6_7, q6_12, q6_16, q6_17, q6_18, q6_19, q6_20, q6_21, q6_22, q6_23, q6_104]; first | done | rfl) | (simp only [S0, S1, decide_true, decide_false, Nat.reduceEqDiff, reduceIte, Int.reduceEq, Int.reduceLT, Int.reduceLE, *]; first | done | rfl)), Nat.zero_le _, ⟨_, rfl, og6⟩, oi6⟩
  rintro k t h7 ⟨E7, s0, s7, s24, s12, s16, s25, hk, ⟨L, hL, oL⟩, oi7⟩
  have fl := flatS_len l
  refine WX.seq ?_
  refine WX.seq ?_
  refine WX.region ?_
  refine WO.o (by simp only [aop, S0, Nat.reduceEqDiff, reduceIte, s25]; first | done | with_reducible rfl) ?_
  refine WO.o (by simp only [aop, S0, Nat.reduceEqDiff, reduceIte, s12]; first | done | with_reducible rfl) ?_
  refine WO.o (SlI.len' (by first | (simp only [S0, Nat.reduceEqDiff, reduceIte]; first | done | with_reducible rfl) | (simp only [S0, S1, decide_true, decide_false, Nat.reduceEqDiff, reduceIte, Int.reduceEq, Int.reduceLT, Int.reduceLE, *]; first | done | with_reducible rfl)) (by first | assumption | exact SlI.ext (by assumption) (by assumption) | exact OwnI.sl (by assumption) | exact OwnN.sl (by assumption))) ?_
  refine WO.o (by simp only [aop, binV_lss, Option.map_some, S0, Nat.reduceEqDiff, reduceIte]; first | done | with_reducible rfl) ?_
  refine WO.nil ?_
  refine thenK_normal ?_
  refine WX.cond _ (by simp only [S0, Nat.reduceEqDiff, reduceIte, s0, s7, s24, s12, s16, s25]; first | done | with_reducible rfl) (fun hb => ?_) (fun hb => ?_) <;> (try simp only [Bool.or_eq_true, Bool.and_eq_true, Bool.or_eq_false_iff, Bool.and_eq_false_iff, Bool.not_eq_true', Bool.not_eq_false', decide_eq_true_eq, decide_eq_false_iff_not, Int.not_lt, Int.not_le] at hb)
  · rcases oL with ⟨rfl, rfl⟩ | oL
    · simp only [List.length_nil] at hL hb; omega
    refine WX.skip ?_
    refine thenK_normal ?_
    refine WX.seq ?_
    refine WX.block ?_
    refine WX.region ?_
    refine WO.o (by simp only [aop, S0, Nat.reduceEqDiff, reduceIte, s12]; first | done | with_reducible rfl) ?_
    refine WO.o (by simp only [aop, S0, Nat.reduceEqDiff, reduceIte, s25]; first | done | with_reducible rfl) ?_
    refine WO.o (SlI.idx' (by first | (simp only [S0, Nat.reduceEqDiff, reduceIte]; first | done | with_reducible rfl) | (simp only [S0, S1, decide_true, decide_false, Nat.reduceEqDiff, reduceIte, Int.reduceEq, Int.reduceLT, Int.reduceLE, *]; first | done | with_reducible rfl)) (by first | (simp only [S0, Nat.reduceEqDiff, reduceIte]; first | done | rfl) | (simp only [S0, S1, decide_true, decide_false, Nat.reduceEqDiff, reduceIte, Int.reduceEq, Int.reduceLT, Int.reduceLE, *]; first | done | rfl)) (by first | assumption | exact SlI.ext (by assumption) (by assumption) | exact OwnI.sl (by assumption) | exact OwnN.sl (by assumption)) (by first | omega | assumption | (simp only [List.length_map, List.length_set]; omega))) ?_
    refine WO.storeI (by first | (simp only [S0, Nat.reduceEqDiff, reduceIte]; first | done | with_reducible rfl) | (simp only [S0, S1, decide_true, decide_false, Nat.reduceEqDiff, reduceIte, Int.reduceEq, Int.reduceLT, Int.reduceLE, *]; first | done | with_reducible rfl)) (by first | (simp only [S0, Nat.reduceEqDiff, reduceIte]; first | done | with_reducible rfl) | (simp only [S0, S1, decide_true, decide_false, Nat.reduceEqDiff, reduceIte, Int.reduceEq, Int.reduceLT, Int.reduceLE, *]; first | done | with_reducible rfl)) (by assumption) (by assumption) (by first | omega | assumption | (simp only [List.length_map, List.length_set]; omega)) ?_
    intro h8 e8 o8 u8
    refine WO.nil ?_
    refine blockK_normal ?_
    refine thenK_normal ?_
    refine WX.region ?_
    refine WO.o (by simp only [aop, S0, Nat.reduceEqDiff, reduceIte, s25]; first | done | with_reducible rfl) ?_
    refine WO.o (by simp only [aop, binV_add, Option.map_some, S0, Nat.reduceEqDiff, reduceIte]; first | (rw [wrap64 (by omega) (by omega)]) | with_reducible rfl) ?_
    refine WO.o (by simp only [aop, S0, Nat.reduceEqDiff, reduceIte]; first | done | with_reducible rfl) ?_
    refine WO.nil ?_
    exact loopK_normal (k + 1) (by omega) ⟨e8, (by first | (simp only [S0, Nat.reduceEqDiff, reduceIte, s0, s7, s24, s12, s16, s25]; first | done | rfl) | (simp only [S0, S1, decide_true, decide_false, Nat.reduceEqDiff, reduceIte, Int.reduceEq, Int.reduceLT, Int.reduceLE, *]; first | done | rfl)), (by first | (simp only [S0, Nat.reduceEqDiff, reduceIte, s0, s7, s24, s12, s16, s25]; first | done | rfl) | (simp only [S0, S1, decide_true, decide_false, Nat.reduceEqDiff, reduceIte, Int.reduceEq, Int.reduceLT, Int.reduceLE, *]; first | done | rfl)), (by first | (simp only [S0, Nat.reduceEqDiff, reduceIte, s0, s7, s24, s12, s16, s25]; first | done | rfl) | (simp only [S0, S1, decide_true, decide_false, Nat.reduceEqDiff, reduceIte, Int.reduceEq, Int.reduceLT, Int.reduceLE, *]; first | done | rfl)), (by first | (simp only [S0, Nat.reduceEqDiff, reduceIte, s0, s7, s24, s12, s16, s25]; first | done | rfl) | (simp only [S0, S1, decide_true, decide_false, Nat.reduceEqDiff, reduceIte, Int.reduceEq, Int.reduceLT, Int.reduceLE, *]; first | done | rfl)), (by first | (simp only [S0, Nat.reduceEqDiff, reduceIte, s0, s7, s24, s12, s16, s25]; first | done | rfl) | (simp only [S0, S1, decide_true, decide_false, Nat.reduceEqDiff, reduceIte, Int.reduceEq, Int.reduceLT, Int.reduceLE, *]; first | done | rfl)), (by first | (simp only [S0, Nat.reduceEqDiff, reduceIte, s0, s7, s24, s12, s16, s25]; first | done | rfl) | (simp only [S0, S1, decide_true, decide_false, Nat.reduceEqDiff, reduceIte, Int.reduceEq, Int.reduceLT, Int.reduceLE, *]; first | done | rfl)), by omega, ⟨_, by simp [hL], .inr o8⟩, oi7.keep og4 u8⟩
  refine WX.exit ?_
  refine thenK_exit ?_
  refine loopK_exit ?_
  refine blockK_exit ?_
  refine thenK_normal ?_
  refine WX.seq ?_
  refine WX.seq ?_
  refine WX.region ?_
  refine WO.o (by simp only [aop, S0, Nat.reduceEqDiff, reduceIte]; first | done | with_reducible rfl) ?_
  refine WO.nil ?_
  refine thenK_normal ?_
  refine WX.block ?_
  have oi7' := oi7.since (e3.trans e4)
  refine WX.loop (fun k => (joinS l a b).length - k) (fun k t h7 => Ext h2 h7 ∧ tmGet t 0 = v ∧ tmGet t 7 = own ∧ tmGet t 24 = .bool true ∧ tmGet t 16 = i ∧ tmGet t 26 = I k ∧ k ≤ (joinS l a b).length ∧ (∃ L, L.length = (joinS l a b).length ∧ OwnN h2 h7 i L)) 0 ?_ ?_
  · exact ⟨E7, (by first | (simp only [S0, Nat.reduceEqDiff, reduceIte, s0, s7, s24, s12, s16, s25]; first | done | rfl) | (simp only [S0, S1, decide_true, decide_false, Nat.reduceEqDiff, reduceIte, Int.reduceEq, Int.reduceLT, Int.reduceLE, *]; first | done | rfl)), (by first | (simp only [S0, Nat.reduceEqDiff, reduceIte, s0, s7, s24, s12, s16, s25]; first | done | rfl) | (simp only [S0, S1, decide_true, decide_false, Nat.reduceEqDiff, reduceIte, Int.reduceEq, Int.reduceLT, Int.reduceLE, *]; first | done | rfl)), (by first | (simp only [S0, Nat.reduceEqDiff, reduceIte, s0, s7, s24, s12, s16, s25]; first | done | rfl) | (simp only [S0, S1, decide_true, decide_false, Nat.reduceEqDiff, reduceIte, Int.reduceEq, Int.reduceLT, Int.reduceLE, *]; first | done | rfl)), (by first | (simp only [S0, Nat.reduceEqDiff, reduceIte, s0, s7, s24, s12, s16, s25]; first | done | rfl) | (simp only [S0, S1, decide_true, decide_false, Nat.reduceEqDiff, reduceIte, Int.reduceEq, Int.reduceLT, Int.reduceLE, *]; first | done | rfl)), (by first | (simp only [S0, Nat.reduceEqDiff, reduceIte, s0, s7, s24, s12, s16, s25]; first | done | rfl) | (simp only [S0, S1, decide_true, decide_false, Nat.reduceEqDiff, reduceIte, Int.reduceEq, Int.reduceLT, Int.reduceLE, *]; first | done | rfl)), Nat.zero_le _, ⟨_, rfl, oi7'⟩⟩
  rintro k t h7 ⟨E7, s0, s7, s24, s16, s26, hk, ⟨L, hL, oL⟩⟩
  have jl := joinS_len l a b
  refine WX.seq ?_
  refine WX.seq ?_
  refine WX.region ?_
  refine WO.o (by simp only [aop, S0, Nat.reduceEqDiff, reduceIte, s26]; first | done | with_reducible rfl) ?_
  refine WO.o (by simp only [aop, S0, Nat.reduceEqDiff, reduceIte, s16]; first | done | with_reducible rfl) ?_
  refine WO.o (SlI.len' (by first | (simp only [S0, Nat.reduceEqDiff, reduceIte]; first | done | with_reducible rfl) | (simp only [S0, S1, decide_true, decide_false, Nat.reduceEqDiff, reduceIte, Int.reduceEq, Int.reduceLT, Int.reduceLE, *]; first | done | with_reducible rfl)) (by first | assumption | exact SlI.ext (by assumption) (by assumption) | exact OwnI.sl (by assumption) | exact OwnN.sl (by assumption))) ?_
  refine WO.o (by simp only [aop, binV_lss, Option.map_some, S0, Nat.reduceEqDiff, reduceIte]; first | done | with_reducible rfl) ?_
  refine WO.nil ?_
  refine thenK_normal ?_
  refine WX.cond _ (by simp only [S0, Nat.reduceEqDiff, reduceIte, s0, s7, s24, s16, s26]; first | done | with_reducible rfl) (fun hb => ?_) (fun hb => ?_) <;> (try simp only [Bool.or_eq_true, Bool.and_eq_true, Bool.or_eq_false_iff, Bool.and_eq_false_iff, Bool.not_eq_true', Bool.not_eq_false', decide_eq_true_eq, decide_eq_false_iff_not, Int.not_lt, Int.not_le] at hb)
  · rcases oL with ⟨rfl, rfl⟩ | oL
    · simp only [List.length_nil] at hL hb; omega
    refine WX.skip ?_
    refine thenK_normal ?_
    refine WX.seq ?_
    refine WX.block ?_
    refine WX.region ?_
    refine WO.o (by simp only [aop, S0, Nat.reduceEqDiff, reduceIte, s16]; first | done | with_reducible rfl) ?_
    refine WO.o (by simp only [aop, S0, Nat.reduceEqDiff, reduceIte, s26]; first | done | with_reducible rfl) ?_
    refine WO.o (SlI.idx' (by first | (simp only [S0, Nat.reduceEqDiff, reduceIte]; first | done | with_reducible rfl) | (simp only [S0, S1, decide_true, decide_false, Nat.reduceEqDiff, reduceIte, Int.reduceEq, Int.reduceLT, Int.reduceLE, *]; first | done | with_reducible rfl)) (by first | (simp only [S0, Nat.reduceEqDiff, reduceIte]; first | done | rfl) | (simp only [S0, S1, decide_true, decide_false, Nat.reduceEqDiff, reduceIte, Int.reduceEq, Int.reduceLT, Int.reduceLE, *]; first | done | rfl)) (by first | assumption | exact SlI.ext (by assumption) (by assumption) | exact OwnI.sl (by assumption) | exact OwnN.sl (by assumption)) (by first | omega | assumption | (simp only [List.length_map, List.length_set]; omega))) ?_
    refine WO.storeI (by first | (simp only [S0, Nat.reduceEqDiff, reduceIte]; first | done | with_reducible rfl) | (simp only [S0, S1, decide_true, decide_false, Nat.reduceEqDiff, reduceIte, Int.reduceEq, Int.reduceLT, Int.reduceLE, *]; first | done | with_reducible rfl)) (by first | (simp only [S0, Nat.reduceEqDiff, reduceIte]; first | done | with_reducible rfl) | (simp only [S0, S1, decide_true, decide_false, Nat.reduceEqDiff, reduceIte, Int.reduceEq, Int.reduceLT, Int.reduceLE, *]; first | done | with_reducible rfl)) (by assumption) (by assumption) (by first | omega | assumption | (simp only [List.length_map, List.length_set]; omega)) ?_
    intro h8 e8 o8 u8
    refine WO.nil ?_
    refine blockK_normal ?_
    refine thenK_normal ?_
    refine WX.region ?_
    refine WO.o (by simp only [aop, S0, Nat.reduceEqDiff, reduceIte, s26]; first | done | with_reducible rfl) ?_
    refine WO.o (by simp only [aop, binV_add, Option.map_some, S0, Nat.reduceEqDiff, reduceIte]; first | (rw [wrap64 (by omega) (by omega)]) | with_reducible rfl) ?_
    refine WO.o (by simp only [aop, S0, Nat.reduceEqDiff, reduceIte]; first | done | with_reducible rfl) ?_
    refine WO.nil ?_
    exact loopK_normal (k + 1) (by omega) ⟨e8, (by first | (simp only [S0, Nat.reduceEqDiff, reduceIte, s0, s7, s24, s16, s26]; first | done | rfl) | (simp only [S0, S1, decide_true, decide_false, Nat.reduceEqDiff, reduceIte, Int.reduceEq, Int.reduceLT, Int.reduceLE, *]; first | done | rfl)), (by first | (simp only [S0, Nat.reduceEqDiff, reduceIte, s0, s7, s24, s16, s26]; first | done | rfl) | (simp only [S0, S1, decide_true, decide_false, Nat.reduceEqDiff, reduceIte, Int.reduceEq, Int.reduceLT, Int.reduceLE, *]; first | done | rfl)), (by first | (simp only [S0, Nat.reduceEqDiff, reduceIte, s0, s7, s24, s16, s26]; first | done | rfl) | (simp only [S0, S1, decide_true, decide_false, Nat.reduceEqDiff, reduceIte, Int.reduceEq, Int.reduceLT, Int.reduceLE, *]; first | done | rfl)), (by first | (simp only [S0, Nat.reduceEqDiff, reduceIte, s0, s7, s24, s16, s26]; first | done | rfl) | (simp only [S0, S1, decide_true, decide_false, Nat.reduceEqDiff, reduceIte, Int.reduceEq, Int.reduceLT, Int.reduceLE, *]; first | done | rfl)), (by first | (simp only [S0, Nat.reduceEqDiff, reduceIte, s0, s7, s24, s16, s26]; first | done | rfl) | (simp only [S0, S1, decide_true, decide_false, Nat.reduceEqDiff, reduceIte, Int.reduceEq, Int.reduceLT, Int.reduceLE, *]; first | done | rfl)), by omega, ⟨_, by simp [hL], .inr o8⟩⟩
  refine WX.exit ?_
  refine thenK_exit ?_
  refine loopK_exit ?_
  refine blockK_exit ?_
  refine thenK_normal ?_
  refine WX.seq ?_
  refine WX.region ?_
  refine WO.o (by simp only [aop, S0, Nat.reduceEqDiff, reduceIte, s24]; first | done | with_reducible rfl) ?_
  refine WO.o (by simp only [aop, S0, Nat.reduceEqDiff, reduceIte]; first | done | with_reducible rfl) ?_
  first | (refine WO.guardT (by simp only [S0, S1, decide_true, decide_false, Nat.reduceEqDiff, reduceIte, Int.reduceEq, Int.reduceLT, Int.reduceLE, *]; first | done | with_reducible rfl) ?_; refine WO.o (by simp only [aop, S0, Nat.reduceEqDiff, reduceIte, s7]; first | done | with_reducible rfl) ?_) | (refine WO.guardF (by simp only [S0, S1, decide_true, decide_false, Nat.reduceEqDiff, reduceIte, Int.reduceEq, Int.reduceLT, Int.reduceLE, *]; first | done | with_reducible rfl) ?_) | (refine WO.guardU (by simp only [S0, S1, decide_true, decide_false, Nat.reduceEqDiff, reduceIte, Int.reduceEq, Int.reduceLT, Int.reduceLE, *]; first | done | with_reducible rfl) ?_)
  first | (refine WO.guardT (by simp only [S0, S1, decide_true, decide_false, Nat.reduceEqDiff, reduceIte, Int.reduceEq, Int.reduceLT, Int.reduceLE, *]; first | done | with_reducible rfl) ?_; refine WO.o (by simp only [aop, S0, Nat.reduceEqDiff, reduceIte, s0]; first | done | with_reducible rfl) ?_) | (refine WO.guardF (by simp only [S0, S1, decide_true, decide_false, Nat.reduceEqDiff, reduceIte, Int.reduceEq, Int.reduceLT, Int.reduceLE, *]; first | done | with_reducible rfl) ?_) | (refine WO.guardU (by simp only [S0, S1, decide_true, decide_false, Nat.reduceEqDiff, reduceIte, Int.reduceEq, Int.reduceLT, Int.reduceLE, *]; first | done | with_reducible rfl) ?_)
  first | (refine WO.guardT (by simp only [S0, Nat.reduceEqDiff, reduceIte, s0, s7, s24, s16, s26]; first | done | with_reducible rfl) ?_) | (refine WO.guardT (by simp only [S0, S1, decide_true, decide_false, Nat.reduceEqDiff, reduceIte, Int.reduceEq, Int.reduceLT, Int.reduceLE, *]; first | done | with_reducible rfl) ?_)
  first | (refine WO.call (by simp only [List.map, S0, Nat.reduceEqDiff, reduceIte]; first | done | with_reducible rfl) ?_) | (refine WO.call (by simp only [List.map, S0, S1, decide_true, decide_false, Nat.reduceEqDiff, reduceIte, Int.reduceEq, Int.reduceLT, Int.reduceLE, *]; first | done | with_reducible rfl) ?_)
  refine (same_ok h7 own v l l (oo2.sl.ext E7) (s2.ext E7) (by omega)).mono ?_
  rintro _ _ ⟨rfl, rfl⟩
  refine WO.o (by simp only [aop, pick_or, pick_and, S0, S1, decide_true, decide_false, Nat.reduceEqDiff, reduceIte, Int.reduceEq, Int.reduceLT, Int.reduceLE, *]; first | done | with_reducible rfl) ?_
  refine WO.o (by simp only [aop, S0, Nat.reduceEqDiff, reduceIte]; first | done | with_reducible rfl) ?_
  refine WO.nil ?_
  refine thenK_normal ?_
  refine WX.ret ?_
  first | (refine retK_ret (by simp only [resultsA, resultA, S0, Nat.reduceEqDiff, reduceIte, s0, s7, s24, s16, s26]; rfl) ?_) | (refine retK_ret (by simp only [resultsA, resultA, S0, S1, decide_true, decide_false, Nat.reduceEqDiff, reduceIte, Int.reduceEq, Int.reduceLT, Int.reduceLE, *]; rfl) ?_)
  rfl
end Go.Proofs.Ytgjcjlnfhdbopaa
