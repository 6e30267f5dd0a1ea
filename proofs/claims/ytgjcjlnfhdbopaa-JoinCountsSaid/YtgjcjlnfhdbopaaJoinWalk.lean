/- What the functions of chapter 21, and the document's own, come to in the abstract machine. -/
import Derived.Test.YtgjcjlnfhdbopaaJoinLaw
import Derived.Test.YtgjcjlnfhdbopaaAmD
import Derived.Test.YtgjcjlnfhdbopaaRows
namespace Go.Proofs.Ytgjcjlnfhdbopaa
open Go.Am
set_option linter.unusedVariables false
set_option linter.unusedSimpArgs false

/-- The program's table; and the chapter's example, run once. -/
noncomputable def stubs : FuncId → Option (List Value → AHeap → Option (Value × AHeap)) := fun f => if f = 22 then some (known [] (.bool true)) else none
noncomputable def tb : Tab := ⟨cFunc Try.prog, stubs⟩
theorem nostub (f : Nat) (hf : Nat.beq f 22 = false) : tb.stub f = none := by
  show (if f = 22 then _ else _) = _
  rw [if_neg (fun e => by rw [e] at hf; cases hf)]

theorem getD_mem {l : List Int} {i : Nat} (h : i < l.length) : l.getD i 0 ∈ l := by
  simp [List.getD, h]
theorem mem_getD {l : List Int} {a : Int} (h : a ∈ l) : ∃ i, i < l.length ∧ l.getD i 0 = a := by
  obtain ⟨i, hi, rfl⟩ := List.mem_iff_getElem.1 h
  exact ⟨i, hi, by simp [List.getD, hi]⟩
theorem ext_getD {l k : List Int} (hl : l.length = k.length) (h : ∀ i, i < l.length → l.getD i 0 = k.getD i 0) : l = k := by
  apply List.ext_getElem hl
  intro i h1 h2
  have := h i h1
  simpa [List.getD, h1, h2] using this

noncomputable def body20_0 : ACode := (.seq (.region [⟨some 8, none, (.bin .lss (.tmp 7) (.tmp 6))⟩]) (.seq (.cond (.tmp 8) .skip (.exit 0)) (.seq (.block 1 (.seq (.region [⟨some 9, none, (.mov (.tmp 7))⟩, ⟨some 10, none, (.idx 1 (.tmp 5) (.tmp 7))⟩, ⟨some 11, none, (.load false 1 (.tmp 10))⟩, ⟨some 3, none, (.mov (.tmp 9))⟩, ⟨some 4, none, (.mov (.tmp 11))⟩]) (.seq (.region [⟨some 12, none, (.mov (.tmp 4))⟩, ⟨some 13, none, (.bin .lss (.tmp 12) (.const (.int .i64 0)))⟩, ⟨some 14, none, (.mov (.tmp 13))⟩, ⟨some 15, some (14, false), (.mov (.tmp 4))⟩, ⟨some 16, some (14, false), (.mov (.tmp 3))⟩, ⟨some 17, some (14, false), (.bin .gtr (.tmp 15) (.tmp 16))⟩, ⟨some 18, none, (.pick (.tmp 14) (.const (.bool true)) (.tmp 17))⟩]) (.cond (.tmp 18) (.seq (.region [⟨some 2, none, (.mov (.const (.int .i64 8)))⟩]) .ret) .skip)))) (.region [⟨some 19, none, (.bin .add (.tmp 7) (.const (.int .i64 1)))⟩, ⟨some 7, none, (.mov (.tmp 19))⟩]))))
noncomputable def body20 : ACode := (.seq (.region [⟨some 2, none, (.mov (.const (.int .i64 0)))⟩]) (.seq (.seq (.region [⟨some 5, none, (.mov (.tmp 0))⟩, ⟨some 6, none, (.len (.tmp 5))⟩, ⟨some 7, none, (.mov (.const (.int .i64 0)))⟩]) (.block 0 (.loop body20_0))) (.seq (.region [⟨some 2, none, (.mov (.const (.int .i64 0)))⟩]) .ret)))
set_option maxRecDepth 100000 in
theorem tab20 : tb.code 20 = some ⟨20, [(2, none)], body20⟩ := by kernel_rfl
theorem check_ok (h : AHeap) (v : Value) (l : List Int) (hs : SlI h v l) (hl : (l.length : Int) < 9223372036854775807) :
    WC Try.prog tb 20 [v] h fun r h' => r = I (if May l then 0 else 8) ∧ h = h' := by
  refine WC.of (nostub _ rfl) tab20 ?_
  refine WX.seq ?_
  refine WX.region ?_
  refine WO.o (by simp only [aop, S0, Nat.reduceEqDiff, reduceIte]; first | done | with_reducible rfl) ?_
  refine WO.nil ?_
  refine thenK_normal ?_
  refine WX.seq ?_
  refine WX.seq ?_
  refine WX.region ?_
  refine WO.o (by simp only [aop, S0, Nat.reduceEqDiff, reduceIte]; first | done | with_reducible rfl) ?_
  refine WO.o (SlI.len' (by first | (simp only [S0, Nat.reduceEqDiff, reduceIte]; first | done | with_reducible rfl) | (simp only [S0, S1, decide_true, decide_false, Nat.reduceEqDiff, reduceIte, Int.reduceEq, Int.reduceLT, Int.reduceLE, *]; first | done | with_reducible rfl)) (by first | assumption | exact SlI.ext (by assumption) (by assumption) | exact OwnI.sl (by assumption) | exact OwnN.sl (by assumption))) ?_
  refine WO.o (by simp only [aop, S0, Nat.reduceEqDiff, reduceIte]; first | done | with_reducible rfl) ?_
  refine WO.nil ?_
  refine thenK_normal ?_
  refine WX.block ?_
  refine WX.loop (fun k => l.length - k) (fun k t h1 => h = h1 ∧ tmGet t 5 = v ∧ tmGet t 6 = I l.length ∧ tmGet t 7 = I k ∧ k ≤ l.length ∧ ∀ i, i < k → 0 ≤ l.getD i 0 ∧ l.getD i 0 ≤ i) 0 ?_ ?_
  · refine ⟨rfl, (by first | (simp only [S0, Nat.reduceEqDiff, reduceIte]; first | done | rfl) | (simp only [S0, S1, decide_true, decide_false, Nat.reduceEqDiff, reduceIte, Int.reduceEq, Int.reduceLT, Int.reduceLE, *]; first | done | rfl)), (by first | (simp only [S0, Nat.reduceEqDiff, reduceIte]; first | done | rfl) | (simp only [S0, S1, decide_true, decide_false, Nat.reduceEqDiff, reduceIte, Int.reduceEq, Int.reduceLT, Int.reduceLE, *]; first | done | rfl)), (by first | (simp only [S0, Nat.reduceEqDiff, reduceIte]; first | done | rfl) | (simp only [S0, S1, decide_true, decide_false, Nat.reduceEqDiff, reduceIte, Int.reduceEq, Int.reduceLT, Int.reduceLE, *]; first | done | rfl)), Nat.zero_le _, fun i hi => by omega⟩
  rintro k t _ ⟨rfl, s5, s6, s7, hk, hm⟩
  refine WX.seq ?_
  refine WX.region ?_
  refine WO.o (by simp only [aop, binV_lss, Option.map_some, S0, Nat.reduceEqDiff, reduceIte, s6, s7]; first | done | with_reducible rfl) ?_
  refine WO.nil ?_
  refine thenK_normal ?_
  refine WX.seq ?_
  refine WX.cond _ (by simp only [S0, Nat.reduceEqDiff, reduceIte, s5, s6, s7]; first | done | with_reducible rfl) (fun hb => ?_) (fun hb => ?_) <;> (try simp only [Bool.or_eq_true, Bool.and_eq_true, Bool.or_eq_false_iff, Bool.and_eq_false_iff, Bool.not_eq_true', Bool.not_eq_false', decide_eq_true_eq, decide_eq_false_iff_not, Int.not_lt, Int.not_le] at hb)
  · refine WX.skip ?_
    refine thenK_normal ?_
    refine WX.seq ?_
    refine WX.block ?_
    refine WX.seq ?_
    refine WX.region ?_
    refine WO.o (by simp only [aop, S0, Nat.reduceEqDiff, reduceIte, s7]; first | done | with_reducible rfl) ?_
    refine WO.o (SlI.idx' (by first | (simp only [S0, Nat.reduceEqDiff, reduceIte, s5, s7]; first | done | with_reducible rfl) | (simp only [S0, S1, decide_true, decide_false, Nat.reduceEqDiff, reduceIte, Int.reduceEq, Int.reduceLT, Int.reduceLE, *]; first | done | with_reducible rfl)) (by first | (simp only [S0, Nat.reduceEqDiff, reduceIte, s5, s7]; first | done | rfl) | (simp only [S0, S1, decide_true, decide_false, Nat.reduceEqDiff, reduceIte, Int.reduceEq, Int.reduceLT, Int.reduceLE, *]; first | done | rfl)) (by first | assumption | exact SlI.ext (by assumption) (by assumption) | exact OwnI.sl (by assumption) | exact OwnN.sl (by assumption)) (by first | omega | assumption | (simp only [List.length_map, List.length_set]; omega))) ?_
    first | (refine WO.o (SlI.loadD (by first | (simp only [S0, Nat.reduceEqDiff, reduceIte]; first | done | with_reducible rfl) | (simp only [S0, S1, decide_true, decide_false, Nat.reduceEqDiff, reduceIte, Int.reduceEq, Int.reduceLT, Int.reduceLE, *]; first | done | with_reducible rfl)) (by first | assumption | exact SlI.ext (by assumption) (by assumption) | exact OwnI.sl (by assumption) | exact OwnN.sl (by assumption)) (by first | omega | assumption | (simp only [List.length_map, List.length_set]; omega))) ?_) | (refine WO.o (OwnC.load (by first | (simp only [S0, Nat.reduceEqDiff, reduceIte]; first | done | with_reducible rfl) | (simp only [S0, S1, decide_true, decide_false, Nat.reduceEqDiff, reduceIte, Int.reduceEq, Int.reduceLT, Int.reduceLE, *]; first | done | with_reducible rfl)) (by assumption) rfl) ?_) | (refine WO.o (OwnC.load0 (by first | (simp only [S0, Nat.reduceEqDiff, reduceIte]; first | done | with_reducible rfl) | (simp only [S0, S1, decide_true, decide_false, Nat.reduceEqDiff, reduceIte, Int.reduceEq, Int.reduceLT, Int.reduceLE, *]; first | done | with_reducible rfl)) (by assumption) rfl) ?_)
    refine WO.o (by simp only [aop, S0, Nat.reduceEqDiff, reduceIte]; first | done | with_reducible rfl) ?_
    refine WO.o (by simp only [aop, S0, Nat.reduceEqDiff, reduceIte]; first | done | with_reducible rfl) ?_
    refine WO.nil ?_
    refine thenK_normal ?_
    refine WX.seq ?_
    refine WX.region ?_
    refine WO.o (by simp only [aop, S0, Nat.reduceEqDiff, reduceIte]; first | done | with_reducible rfl) ?_
    refine WO.o (by simp only [aop, binV_lss, Option.map_some, S0, Nat.reduceEqDiff, reduceIte]; first | done | with_reducible rfl) ?_
    refine WO.o (by simp only [aop, S0, Nat.reduceEqDiff, reduceIte]; first | done | with_reducible rfl) ?_
    first | (refine WO.guard _ _ rfl (by simp only [S0, Nat.reduceEqDiff, reduceIte]; first | done | with_reducible rfl) (fun hb => (by simp only [aop, S0, Nat.reduceEqDiff, reduceIte, hb]; first | done | with_reducible rfl)) ?_) | (refine WO.guardT (by simp only [S0, S1, decide_true, decide_false, Nat.reduceEqDiff, reduceIte, Int.reduceEq, Int.reduceLT, Int.reduceLE, *]; first | done | with_reducible rfl) ?_; refine WO.o (by simp only [aop, S0, Nat.reduceEqDiff, reduceIte]; first | done | with_reducible rfl) ?_) | (refine WO.guardF (by simp only [S0, S1, decide_true, decide_false, Nat.reduceEqDiff, reduceIte, Int.reduceEq, Int.reduceLT, Int.reduceLE, *]; first | done | with_reducible rfl) ?_) | (refine WO.guardU (by simp only [S0, S1, decide_true, decide_false, Nat.reduceEqDiff, reduceIte, Int.reduceEq, Int.reduceLT, Int.reduceLE, *]; first | done | with_reducible rfl) ?_)
    first | (refine WO.guard _ _ rfl (by simp only [S0, Nat.reduceEqDiff, reduceIte]; first | done | with_reducible rfl) (fun hb => (by simp only [aop, S0, Nat.reduceEqDiff, reduceIte, hb]; first | done | with_reducible rfl)) ?_) | (refine WO.guardT (by simp only [S0, S1, decide_true, decide_false, Nat.reduceEqDiff, reduceIte, Int.reduceEq, Int.reduceLT, Int.reduceLE, *]; first | done | with_reducible rfl) ?_; refine WO.o (by simp only [aop, S0, Nat.reduceEqDiff, reduceIte]; first | done | with_reducible rfl) ?_) | (refine WO.guardF (by simp only [S0, S1, decide_true, decide_false, Nat.reduceEqDiff, reduceIte, Int.reduceEq, Int.reduceLT, Int.reduceLE, *]; first | done | with_reducible rfl) ?_) | (refine WO.guardU (by simp only [S0, S1, decide_true, decide_false, Nat.reduceEqDiff, reduceIte, Int.reduceEq, Int.reduceLT, Int.reduceLE, *]; first | done | with_reducible rfl) ?_)
    first | (refine WO.guard _ _ rfl (by simp only [S0, Nat.reduceEqDiff, reduceIte]; first | done | with_reducible rfl) (fun hb => (by simp only [aop, binV_gtr, Option.map_some, S0, Nat.reduceEqDiff, reduceIte, hb]; first | done | with_reducible rfl)) ?_) | (refine WO.guardT (by simp only [S0, S1, decide_true, decide_false, Nat.reduceEqDiff, reduceIte, Int.reduceEq, Int.reduceLT, Int.reduceLE, *]; first | done | with_reducible rfl) ?_; refine WO.o (by simp only [aop, binV_gtr, Option.map_some, S0, Nat.reduceEqDiff, reduceIte]; first | done | with_reducible rfl) ?_) | (refine WO.guardF (by simp only [S0, S1, decide_true, decide_false, Nat.reduceEqDiff, reduceIte, Int.reduceEq, Int.reduceLT, Int.reduceLE, *]; first | done | with_reducible rfl) ?_) | (refine WO.guardU (by simp only [S0, S1, decide_true, decide_false, Nat.reduceEqDiff, reduceIte, Int.reduceEq, Int.reduceLT, Int.reduceLE, *]; first | done | with_reducible rfl) ?_)
    refine WO.o (by simp only [aop, pick_or, pick_and, S0, Nat.reduceEqDiff, reduceIte]; first | done | with_reducible rfl) ?_
    refine WO.nil ?_
    refine thenK_normal ?_
    refine WX.cond _ (by simp only [S0, Nat.reduceEqDiff, reduceIte, s5, s6, s7]; first | done | with_reducible rfl) (fun hb => ?_) (fun hb => ?_) <;> (try simp only [Bool.or_eq_true, Bool.and_eq_true, Bool.or_eq_false_iff, Bool.and_eq_false_iff, Bool.not_eq_true', Bool.not_eq_false', decide_eq_true_eq, decide_eq_false_iff_not, Int.not_lt, Int.not_le] at hb)
    · refine WX.seq ?_
      refine WX.region ?_
      refine WO.o (by simp only [aop, S0, Nat.reduceEqDiff, reduceIte]; first | done | with_reducible rfl) ?_
      refine WO.nil ?_
      refine thenK_normal ?_
      refine WX.ret ?_
      refine blockK_ret ?_
      refine thenK_ret ?_
      refine loopK_ret ?_
      refine blockK_ret ?_
      refine thenK_ret ?_
      first | (refine retK_ret (by simp only [resultsA, resultA, S0, Nat.reduceEqDiff, reduceIte, s5, s6, s7]; rfl) ?_) | (refine retK_ret (by simp only [resultsA, resultA, S0, S1, decide_true, decide_false, Nat.reduceEqDiff, reduceIte, Int.reduceEq, Int.reduceLT, Int.reduceLE, *]; rfl) ?_)
      refine ⟨?_, rfl⟩
      rw [if_neg (fun m => by have := m k (by omega); omega)]; rfl
    · refine WX.skip ?_
      refine blockK_normal ?_
      refine thenK_normal ?_
      refine WX.region ?_
      refine WO.o (by simp only [aop, binV_add, Option.map_some, S0, Nat.reduceEqDiff, reduceIte, s7]; first | (rw [wrap64 (by omega) (by omega)]) | with_reducible rfl) ?_
      refine WO.o (by simp only [aop, S0, Nat.reduceEqDiff, reduceIte]; first | done | with_reducible rfl) ?_
      refine WO.nil ?_
      refine loopK_normal (k + 1) (by omega) ⟨rfl, (by first | (simp only [S0, Nat.reduceEqDiff, reduceIte, s5, s6, s7]; first | done | rfl) | (simp only [S0, S1, decide_true, decide_false, Nat.reduceEqDiff, reduceIte, Int.reduceEq, Int.reduceLT, Int.reduceLE, *]; first | done | rfl)), (by first | (simp only [S0, Nat.reduceEqDiff, reduceIte, s5, s6, s7]; first | done | rfl) | (simp only [S0, S1, decide_true, decide_false, Nat.reduceEqDiff, reduceIte, Int.reduceEq, Int.reduceLT, Int.reduceLE, *]; first | done | rfl)), (by first | (simp only [S0, Nat.reduceEqDiff, reduceIte, s5, s6, s7]; first | done | rfl) | (simp only [S0, S1, decide_true, decide_false, Nat.reduceEqDiff, reduceIte, Int.reduceEq, Int.reduceLT, Int.reduceLE, *]; first | done | rfl)), by omega, fun i hi => ?_⟩
      by_cases e : i = k
      · subst e; exact hb
      · exact hm i (by omega)
  · refine WX.exit ?_
    refine thenK_exit ?_
    refine loopK_exit ?_
    refine blockK_exit ?_
    refine thenK_normal ?_
    refine WX.seq ?_
    refine WX.region ?_
    refine WO.o (by simp only [aop, S0, Nat.reduceEqDiff, reduceIte]; first | done | with_reducible rfl) ?_
    refine WO.nil ?_
    refine thenK_normal ?_
    refine WX.ret ?_
    first | (refine retK_ret (by simp only [resultsA, resultA, S0, Nat.reduceEqDiff, reduceIte, s5, s6, s7]; rfl) ?_) | (refine retK_ret (by simp only [resultsA, resultA, S0, S1, decide_true, decide_false, Nat.reduceEqDiff, reduceIte, Int.reduceEq, Int.reduceLT, Int.reduceLE, *]; rfl) ?_)
    refine ⟨?_, rfl⟩
    rw [if_pos (show May l from fun i hi => hm i (by omega))]; rfl

noncomputable def body25_0 : ACode := (.seq (.seq (.region [⟨some 4, none, (.mov (.tmp 3))⟩, ⟨some 5, none, (.mov (.tmp 0))⟩, ⟨some 6, none, (.len (.tmp 5))⟩, ⟨some 7, none, (.bin .lss (.tmp 4) (.tmp 6))⟩]) (.cond (.tmp 7) .skip (.exit 0))) (.seq (.block 1 (.seq (.region [⟨some 10, none, (.mov (.tmp 0))⟩, ⟨some 11, none, (.mov (.tmp 3))⟩, ⟨some 12, none, (.idx 1 (.tmp 10) (.tmp 11))⟩, ⟨some 13, none, (.load false 1 (.tmp 12))⟩, ⟨some 14, none, (.bin .lss (.tmp 13) (.const (.int .i64 0)))⟩, ⟨some 15, none, (.mov (.tmp 14))⟩, ⟨some 16, some (15, false), (.mov (.tmp 0))⟩, ⟨some 17, some (15, false), (.mov (.tmp 3))⟩, ⟨some 18, some (15, false), (.idx 1 (.tmp 16) (.tmp 17))⟩, ⟨some 19, some (15, false), (.load false 1 (.tmp 18))⟩, ⟨some 20, some (15, false), (.mov (.tmp 3))⟩, ⟨some 21, some (15, false), (.bin .gtr (.tmp 19) (.tmp 20))⟩, ⟨some 22, none, (.pick (.tmp 15) (.const (.bool true)) (.tmp 21))⟩]) (.cond (.tmp 22) (.seq (.region [⟨some 2, none, (.mov (.const (.bool false)))⟩]) .ret) .skip))) (.region [⟨some 8, none, (.mov (.tmp 3))⟩, ⟨some 9, none, (.bin .add (.tmp 8) (.const (.int .i64 1)))⟩, ⟨some 3, none, (.mov (.tmp 9))⟩])))
noncomputable def body25 : ACode := (.seq (.region [⟨some 2, none, (.mov (.const (.bool false)))⟩]) (.seq (.seq (.region [⟨some 3, none, (.mov (.const (.int .i64 0)))⟩]) (.block 0 (.loop body25_0))) (.seq (.region [⟨some 2, none, (.mov (.const (.bool true)))⟩]) .ret)))
set_option maxRecDepth 100000 in
theorem tab25 : tb.code 25 = some ⟨23, [(2, none)], body25⟩ := by kernel_rfl
theorem may_ok (h : AHeap) (v : Value) (l : List Int) (hs : SlI h v l) (hl : (l.length : Int) < 9223372036854775807) :
    WC Try.prog tb 25 [v] h fun r h' => r = .bool (decide (May l)) ∧ h = h' := by
  refine WC.of (nostub _ rfl) tab25 ?_
  refine WX.seq ?_
  refine WX.region ?_
  refine WO.o (by simp only [aop, S0, Nat.reduceEqDiff, reduceIte]; first | done | with_reducible rfl) ?_
  refine WO.nil ?_
  refine thenK_normal ?_
  refine WX.seq ?_
  refine WX.seq ?_
  refine WX.region ?_
  refine WO.o (by simp only [aop, S0, Nat.reduceEqDiff, reduceIte]; first | done | with_reducible rfl) ?_
  refine WO.nil ?_
  refine thenK_normal ?_
  refine WX.block ?_
  refine WX.loop (fun k => l.length - k) (fun k t h1 => h = h1 ∧ tmGet t 0 = v ∧ tmGet t 3 = I k ∧ k ≤ l.length ∧ ∀ i, i < k → 0 ≤ l.getD i 0 ∧ l.getD i 0 ≤ i) 0 ?_ ?_
  · refine ⟨rfl, (by first | (simp only [S0, Nat.reduceEqDiff, reduceIte]; first | done | rfl) | (simp only [S0, S1, decide_true, decide_false, Nat.reduceEqDiff, reduceIte, Int.reduceEq, Int.reduceLT, Int.reduceLE, *]; first | done | rfl)), (by first | (simp only [S0, Nat.reduceEqDiff, reduceIte]; first | done | rfl) | (simp only [S0, S1, decide_true, decide_false, Nat.reduceEqDiff, reduceIte, Int.reduceEq, Int.reduceLT, Int.reduceLE, *]; first | done | rfl)), Nat.zero_le _, fun i hi => by omega⟩
  rintro k t _ ⟨rfl, s0, s3, hk, hm⟩
  refine WX.seq ?_
  refine WX.seq ?_
  refine WX.region ?_
  refine WO.o (by simp only [aop, S0, Nat.reduceEqDiff, reduceIte, s3]; first | done | with_reducible rfl) ?_
  refine WO.o (by simp only [aop, S0, Nat.reduceEqDiff, reduceIte, s0]; first | done | with_reducible rfl) ?_
  refine WO.o (SlI.len' (by first | (simp only [S0, Nat.reduceEqDiff, reduceIte]; first | done | with_reducible rfl) | (simp only [S0, S1, decide_true, decide_false, Nat.reduceEqDiff, reduceIte, Int.reduceEq, Int.reduceLT, Int.reduceLE, *]; first | done | with_reducible rfl)) (by first | assumption | exact SlI.ext (by assumption) (by assumption) | exact OwnI.sl (by assumption) | exact OwnN.sl (by assumption))) ?_
  refine WO.o (by simp only [aop, binV_lss, Option.map_some, S0, Nat.reduceEqDiff, reduceIte]; first | done | with_reducible rfl) ?_
  refine WO.nil ?_
  refine thenK_normal ?_
  refine WX.cond _ (by simp only [S0, Nat.reduceEqDiff, reduceIte, s0, s3]; first | done | with_reducible rfl) (fun hb => ?_) (fun hb => ?_) <;> (try simp only [Bool.or_eq_true, Bool.and_eq_true, Bool.or_eq_false_iff, Bool.and_eq_false_iff, Bool.not_eq_true', Bool.not_eq_false', decide_eq_true_eq, decide_eq_false_iff_not, Int.not_lt, Int.not_le] at hb)
  · refine WX.skip ?_
    refine thenK_normal ?_
    refine WX.seq ?_
    refine WX.block ?_
    refine WX.seq ?_
    refine WX.region ?_
    refine WO.o (by simp only [aop, S0, Nat.reduceEqDiff, reduceIte, s0]; first | done | with_reducible rfl) ?_
    refine WO.o (by simp only [aop, S0, Nat.reduceEqDiff, reduceIte, s3]; first | done | with_reducible rfl) ?_
    refine WO.o (SlI.idx' (by first | (simp only [S0, Nat.reduceEqDiff, reduceIte]; first | done | with_reducible rfl) | (simp only [S0, S1, decide_true, decide_false, Nat.reduceEqDiff, reduceIte, Int.reduceEq, Int.reduceLT, Int.reduceLE, *]; first | done | with_reducible rfl)) (by first | (simp only [S0, Nat.reduceEqDiff, reduceIte]; first | done | rfl) | (simp only [S0, S1, decide_true, decide_false, Nat.reduceEqDiff, reduceIte, Int.reduceEq, Int.reduceLT, Int.reduceLE, *]; first | done | rfl)) (by first | assumption | exact SlI.ext (by assumption) (by assumption) | exact OwnI.sl (by assumption) | exact OwnN.sl (by assumption)) (by first | omega | assumption | (simp only [List.length_map, List.length_set]; omega))) ?_
    first | (refine WO.o (SlI.loadD (by first | (simp only [S0, Nat.reduceEqDiff, reduceIte]; first | done | with_reducible rfl) | (simp only [S0, S1, decide_true, decide_false, Nat.reduceEqDiff, reduceIte, Int.reduceEq, Int.reduceLT, Int.reduceLE, *]; first | done | with_reducible rfl)) (by first | assumption | exact SlI.ext (by assumption) (by assumption) | exact OwnI.sl (by assumption) | exact OwnN.sl (by assumption)) (by first | omega | assumption | (simp only [List.length_map, List.length_set]; omega))) ?_) | (refine WO.o (OwnC.load (by first | (simp only [S0, Nat.reduceEqDiff, reduceIte]; first | done | with_reducible rfl) | (simp only [S0, S1, decide_true, decide_false, Nat.reduceEqDiff, reduceIte, Int.reduceEq, Int.reduceLT, Int.reduceLE, *]; first | done | with_reducible rfl)) (by assumption) rfl) ?_) | (refine WO.o (OwnC.load0 (by first | (simp only [S0, Nat.reduceEqDiff, reduceIte]; first | done | with_reducible rfl) | (simp only [S0, S1, decide_true, decide_false, Nat.reduceEqDiff, reduceIte, Int.reduceEq, Int.reduceLT, Int.reduceLE, *]; first | done | with_reducible rfl)) (by assumption) rfl) ?_)
    refine WO.o (by simp only [aop, binV_lss, Option.map_some, S0, Nat.reduceEqDiff, reduceIte]; first | done | with_reducible rfl) ?_
    refine WO.o (by simp only [aop, S0, Nat.reduceEqDiff, reduceIte]; first | done | with_reducible rfl) ?_
    first | (refine WO.guard _ _ rfl (by simp only [S0, Nat.reduceEqDiff, reduceIte, s0]; first | done | with_reducible rfl) (fun hb => (by simp only [aop, S0, Nat.reduceEqDiff, reduceIte, s0, hb]; first | done | with_reducible rfl)) ?_) | (refine WO.guardT (by simp only [S0, S1, decide_true, decide_false, Nat.reduceEqDiff, reduceIte, Int.reduceEq, Int.reduceLT, Int.reduceLE, *]; first | done | with_reducible rfl) ?_; refine WO.o (by simp only [aop, S0, Nat.reduceEqDiff, reduceIte, s0]; first | done | with_reducible rfl) ?_) | (refine WO.guardF (by simp only [S0, S1, decide_true, decide_false, Nat.reduceEqDiff, reduceIte, Int.reduceEq, Int.reduceLT, Int.reduceLE, *]; first | done | with_reducible rfl) ?_) | (refine WO.guardU (by simp only [S0, S1, decide_true, decide_false, Nat.reduceEqDiff, reduceIte, Int.reduceEq, Int.reduceLT, Int.reduceLE, *]; first | done | with_reducible rfl) ?_)
    first | (refine WO.guard _ _ rfl (by simp only [S0, Nat.reduceEqDiff, reduceIte, s3]; first | done | with_reducible rfl) (fun hb => (by simp only [aop, S0, Nat.reduceEqDiff, reduceIte, s3, hb]; first | done | with_reducible rfl)) ?_) | (refine WO.guardT (by simp only [S0, S1, decide_true, decide_false, Nat.reduceEqDiff, reduceIte, Int.reduceEq, Int.reduceLT, Int.reduceLE, *]; first | done | with_reducible rfl) ?_; refine WO.o (by simp only [aop, S0, Nat.reduceEqDiff, reduceIte, s3]; first | done | with_reducible rfl) ?_) | (refine WO.guardF (by simp only [S0, S1, decide_true, decide_false, Nat.reduceEqDiff, reduceIte, Int.reduceEq, Int.reduceLT, Int.reduceLE, *]; first | done | with_reducible rfl) ?_) | (refine WO.guardU (by simp only [S0, S1, decide_true, decide_false, Nat.reduceEqDiff, reduceIte, Int.reduceEq, Int.reduceLT, Int.reduceLE, *]; first | done | with_reducible rfl) ?_)
    first | (refine WO.guard _ _ rfl (by simp only [S0, Nat.reduceEqDiff, reduceIte]; first | done | with_reducible rfl) (fun hb => by have hb' := hb; simp only [Bool.or_eq_true, Bool.and_eq_true, Bool.or_eq_false_iff, Bool.and_eq_false_iff, Bool.not_eq_true', Bool.not_eq_false', decide_eq_true_eq, decide_eq_false_iff_not, Int.not_lt, Int.not_le] at hb'; exact (SlI.idx' (by first | (simp only [S0, Nat.reduceEqDiff, reduceIte, hb]; first | done | with_reducible rfl) | (simp only [S0, S1, decide_true, decide_false, Nat.reduceEqDiff, reduceIte, Int.reduceEq, Int.reduceLT, Int.reduceLE, *]; first | done | with_reducible rfl)) (by first | (simp only [S0, Nat.reduceEqDiff, reduceIte, hb]; first | done | rfl) | (simp only [S0, S1, decide_true, decide_false, Nat.reduceEqDiff, reduceIte, Int.reduceEq, Int.reduceLT, Int.reduceLE, *]; first | done | rfl)) (by first | assumption | exact SlI.ext (by assumption) (by assumption) | exact OwnI.sl (by assumption) | exact OwnN.sl (by assumption)) (by first | omega | assumption | (simp only [List.length_map, List.length_set]; omega)))) ?_) | (refine WO.guardT (by simp only [S0, S1, decide_true, decide_false, Nat.reduceEqDiff, reduceIte, Int.reduceEq, Int.reduceLT, Int.reduceLE, *]; first | done | with_reducible rfl) ?_; refine WO.o (SlI.idx' (by first | (simp only [S0, Nat.reduceEqDiff, reduceIte]; first | done | with_reducible rfl) | (simp only [S0, S1, decide_true, decide_false, Nat.reduceEqDiff, reduceIte, Int.reduceEq, Int.reduceLT, Int.reduceLE, *]; first | done | with_reducible rfl)) (by first | (simp only [S0, Nat.reduceEqDiff, reduceIte]; first | done | rfl) | (simp only [S0, S1, decide_true, decide_false, Nat.reduceEqDiff, reduceIte, Int.reduceEq, Int.reduceLT, Int.reduceLE, *]; first | done | rfl)) (by first | assumption | exact SlI.ext (by assumption) (by assumption) | exact OwnI.sl (by assumption) | exact OwnN.sl (by assumption)) (by first | omega | assumption | (simp only [List.length_map, List.length_set]; omega))) ?_) | (refine WO.guardF (by simp only [S0, S1, decide_true, decide_false, Nat.reduceEqDiff, reduceIte, Int.reduceEq, Int.reduceLT, Int.reduceLE, *]; first | done | with_reducible rfl) ?_) | (refine WO.guardU (by simp only [S0, S1, decide_true, decide_false, Nat.reduceEqDiff, reduceIte, Int.reduceEq, Int.reduceLT, Int.reduceLE, *]; first | done | with_reducible rfl) ?_)
    first | (refine WO.guard _ _ rfl (by simp only [S0, Nat.reduceEqDiff, reduceIte]; first | done | with_reducible rfl) (fun hb => by have hb' := hb; simp only [Bool.or_eq_true, Bool.and_eq_true, Bool.or_eq_false_iff, Bool.and_eq_false_iff, Bool.not_eq_true', Bool.not_eq_false', decide_eq_true_eq, decide_eq_false_iff_not, Int.not_lt, Int.not_le] at hb'; exact (SlI.loadD (by first | (simp only [S0, Nat.reduceEqDiff, reduceIte, hb]; first | done | with_reducible rfl) | (simp only [S0, S1, decide_true, decide_false, Nat.reduceEqDiff, reduceIte, Int.reduceEq, Int.reduceLT, Int.reduceLE, *]; first | done | with_reducible rfl)) (by first | assumption | exact SlI.ext (by assumption) (by assumption) | exact OwnI.sl (by assumption) | exact OwnN.sl (by assumption)) (by first | omega | assumption | (simp only [List.length_map, List.length_set]; omega)))) ?_) | (refine WO.guard _ _ rfl (by simp only [S0, Nat.reduceEqDiff, reduceIte]; first | done | with_reducible rfl) (fun hb => by have hb' := hb; simp only [Bool.or_eq_true, Bool.and_eq_true, Bool.or_eq_false_iff, Bool.and_eq_false_iff, Bool.not_eq_true', Bool.not_eq_false', decide_eq_true_eq, decide_eq_false_iff_not, Int.not_lt, Int.not_le] at hb'; exact (OwnC.load (by first | (simp only [S0, Nat.reduceEqDiff, reduceIte, hb]; first | done | with_reducible rfl) | (simp only [S0, S1, decide_true, decide_false, Nat.reduceEqDiff, reduceIte, Int.reduceEq, Int.reduceLT, Int.reduceLE, *]; first | done | with_reducible rfl)) (by assumption) rfl)) ?_) | (refine WO.guard _ _ rfl (by simp only [S0, Nat.reduceEqDiff, reduceIte]; first | done | with_reducible rfl) (fun hb => by have hb' := hb; simp only [Bool.or_eq_true, Bool.and_eq_true, Bool.or_eq_false_iff, Bool.and_eq_false_iff, Bool.not_eq_true', Bool.not_eq_false', decide_eq_true_eq, decide_eq_false_iff_not, Int.not_lt, Int.not_le] at hb'; exact (OwnC.load0 (by first | (simp only [S0, Nat.reduceEqDiff, reduceIte, hb]; first | done | with_reducible rfl) | (simp only [S0, S1, decide_true, decide_false, Nat.reduceEqDiff, reduceIte, Int.reduceEq, Int.reduceLT, Int.reduceLE, *]; first | done | with_reducible rfl)) (by assumption) rfl)) ?_) | (refine WO.guardT (by simp only [S0, S1, decide_true, decide_false, Nat.reduceEqDiff, reduceIte, Int.reduceEq, Int.reduceLT, Int.reduceLE, *]; first | done | with_reducible rfl) ?_; first | (refine WO.o (SlI.loadD (by first | (simp only [S0, Nat.reduceEqDiff, reduceIte]; first | done | with_reducible rfl) | (simp only [S0, S1, decide_true, decide_false, Nat.reduceEqDiff, reduceIte, Int.reduceEq, Int.reduceLT, Int.reduceLE, *]; first | done | with_reducible rfl)) (by first | assumption | exact SlI.ext (by assumption) (by assumption) | exact OwnI.sl (by assumption) | exact OwnN.sl (by assumption)) (by first | omega | assumption | (simp only [List.length_map, List.length_set]; omega))) ?_) | (refine WO.o (OwnC.load (by first | (simp only [S0, Nat.reduceEqDiff, reduceIte]; first | done | with_reducible rfl) | (simp only [S0, S1, decide_true, decide_false, Nat.reduceEqDiff, reduceIte, Int.reduceEq, Int.reduceLT, Int.reduceLE, *]; first | done | with_reducible rfl)) (by assumption) rfl) ?_) | (refine WO.o (OwnC.load0 (by first | (simp only [S0, Nat.reduceEqDiff, reduceIte]; first | done | with_reducible rfl) | (simp only [S0, S1, decide_true, decide_false, Nat.reduceEqDiff, reduceIte, Int.reduceEq, Int.reduceLT, Int.reduceLE, *]; first | done | with_reducible rfl)) (by assumption) rfl) ?_)) | (refine WO.guardF (by simp only [S0, S1, decide_true, decide_false, Nat.reduceEqDiff, reduceIte, Int.reduceEq, Int.reduceLT, Int.reduceLE, *]; first | done | with_reducible rfl) ?_) | (refine WO.guardU (by simp only [S0, S1, decide_true, decide_false, Nat.reduceEqDiff, reduceIte, Int.reduceEq, Int.reduceLT, Int.reduceLE, *]; first | done | with_reducible rfl) ?_)
    first | (refine WO.guard _ _ rfl (by simp only [S0, Nat.reduceEqDiff, reduceIte, s3]; first | done | with_reducible rfl) (fun hb => (by simp only [aop, S0, Nat.reduceEqDiff, reduceIte, s3, hb]; first | done | with_reducible rfl)) ?_) | (refine WO.guardT (by simp only [S0, S1, decide_true, decide_false, Nat.reduceEqDiff, reduceIte, Int.reduceEq, Int.reduceLT, Int.reduceLE, *]; first | done | with_reducible rfl) ?_; refine WO.o (by simp only [aop, S0, Nat.reduceEqDiff, reduceIte, s3]; first | done | with_reducible rfl) ?_) | (refine WO.guardF (by simp only [S0, S1, decide_true, decide_false, Nat.reduceEqDiff, reduceIte, Int.reduceEq, Int.reduceLT, Int.reduceLE, *]; first | done | with_reducible rfl) ?_) | (refine WO.guardU (by simp only [S0, S1, decide_true, decide_false, Nat.reduceEqDiff, reduceIte, Int.reduceEq, Int.reduceLT, Int.reduceLE, *]; first | done | with_reducible rfl) ?_)
    first | (refine WO.guard _ _ rfl (by simp only [S0, Nat.reduceEqDiff, reduceIte]; first | done | with_reducible rfl) (fun hb => (by simp only [aop, binV_gtr, Option.map_some, S0, Nat.reduceEqDiff, reduceIte, hb]; first | done | with_reducible rfl)) ?_) | (refine WO.guardT (by simp only [S0, S1, decide_true, decide_false, Nat.reduceEqDiff, reduceIte, Int.reduceEq, Int.reduceLT, Int.reduceLE, *]; first | done | with_reducible rfl) ?_; refine WO.o (by simp only [aop, binV_gtr, Option.map_some, S0, Nat.reduceEqDiff, reduceIte]; first | done | with_reducible rfl) ?_) | (refine WO.guardF (by simp only [S0, S1, decide_true, decide_false, Nat.reduceEqDiff, reduceIte, Int.reduceEq, Int.reduceLT, Int.reduceLE, *]; first | done | with_reducible rfl) ?_) | (refine WO.guardU (by simp only [S0, S1, decide_true, decide_false, Nat.reduceEqDiff, reduceIte, Int.reduceEq, Int.reduceLT, Int.reduceLE, *]; first | done | with_reducible rfl) ?_)
    refine WO.o (by simp only [aop, pick_or, pick_and, S0, Nat.reduceEqDiff, reduceIte]; first | done | with_reducible rfl) ?_
    refine WO.nil ?_
    refine thenK_normal ?_
    refine WX.cond _ (by simp only [S0, Nat.reduceEqDiff, reduceIte, s0, s3]; first | done | with_reducible rfl) (fun hb => ?_) (fun hb => ?_) <;> (try simp only [Bool.or_eq_true, Bool.and_eq_true, Bool.or_eq_false_iff, Bool.and_eq_false_iff, Bool.not_eq_true', Bool.not_eq_false', decide_eq_true_eq, decide_eq_false_iff_not, Int.not_lt, Int.not_le] at hb)
    · refine WX.seq ?_
      refine WX.region ?_
      refine WO.o (by simp only [aop, S0, Nat.reduceEqDiff, reduceIte]; first | done | with_reducible rfl) ?_
      refine WO.nil ?_
      refine thenK_normal ?_
      refine WX.ret ?_
      refine blockK_ret ?_
      refine thenK_ret ?_
      refine loopK_ret ?_
      refine blockK_ret ?_
      refine thenK_ret ?_
      first | (refine retK_ret (by simp only [resultsA, resultA, S0, Nat.reduceEqDiff, reduceIte, s0, s3]; rfl) ?_) | (refine retK_ret (by simp only [resultsA, resultA, S0, S1, decide_true, decide_false, Nat.reduceEqDiff, reduceIte, Int.reduceEq, Int.reduceLT, Int.reduceLE, *]; rfl) ?_)
      refine ⟨?_, rfl⟩
      rw [decide_eq_false (fun m => by have := m k (by omega); omega)]; rfl
    · refine WX.skip ?_
      refine blockK_normal ?_
      refine thenK_normal ?_
      refine WX.region ?_
      refine WO.o (by simp only [aop, S0, Nat.reduceEqDiff, reduceIte, s3]; first | done | with_reducible rfl) ?_
      refine WO.o (by simp only [aop, binV_add, Option.map_some, S0, Nat.reduceEqDiff, reduceIte]; first | (rw [wrap64 (by omega) (by omega)]) | with_reducible rfl) ?_
      refine WO.o (by simp only [aop, S0, Nat.reduceEqDiff, reduceIte]; first | done | with_reducible rfl) ?_
      refine WO.nil ?_
      refine loopK_normal (k + 1) (by omega) ⟨rfl, (by first | (simp only [S0, Nat.reduceEqDiff, reduceIte, s0, s3]; first | done | rfl) | (simp only [S0, S1, decide_true, decide_false, Nat.reduceEqDiff, reduceIte, Int.reduceEq, Int.reduceLT, Int.reduceLE, *]; first | done | rfl)), (by first | (simp only [S0, Nat.reduceEqDiff, reduceIte, s0, s3]; first | done | rfl) | (simp only [S0, S1, decide_true, decide_false, Nat.reduceEqDiff, reduceIte, Int.reduceEq, Int.reduceLT, Int.reduceLE, *]; first | done | rfl)), by omega, fun i hi => ?_⟩
      by_cases e : i = k
      · subst e; exact hb
      · exact hm i (by omega)
  · refine WX.exit ?_
    refine thenK_exit ?_
    refine loopK_exit ?_
    refine blockK_exit ?_
    refine thenK_normal ?_
    refine WX.seq ?_
    refine WX.region ?_
    refine WO.o (by simp only [aop, S0, Nat.reduceEqDiff, reduceIte]; first | done | with_reducible rfl) ?_
    refine WO.nil ?_
    refine thenK_normal ?_
    refine WX.ret ?_
    first | (refine retK_ret (by simp only [resultsA, resultA, S0, Nat.reduceEqDiff, reduceIte, s0, s3]; rfl) ?_) | (refine retK_ret (by simp only [resultsA, resultA, S0, S1, decide_true, decide_false, Nat.reduceEqDiff, reduceIte, Int.reduceEq, Int.reduceLT, Int.reduceLE, *]; rfl) ?_)
    refine ⟨?_, rfl⟩
    rw [decide_eq_true (show May l from fun i hi => hm i (by omega))]; rfl

noncomputable def body21 : ACode := (.seq (.region [⟨some 2, none, (.mov (.const (.int .i64 0)))⟩]) (.seq (.seq (.region [⟨some 3, none, (.mov (.tmp 0))⟩, ⟨some 4, none, (.call (.func 25) [(.tmp 3)])⟩, ⟨some 5, none, (.un .not (.tmp 4))⟩]) (.cond (.tmp 5) (.seq (.region [⟨some 2, none, (.mov (.const (.int .i64 8)))⟩]) .ret) .skip)) (.seq (.region [⟨some 2, none, (.mov (.const (.int .i64 0)))⟩]) .ret)))
set_option maxRecDepth 100000 in
theorem tab21 : tb.code 21 = some ⟨6, [(2, none)], body21⟩ := by kernel_rfl
theorem rcheck_ok (h : AHeap) (v : Value) (l : List Int) (hs : SlI h v l) (hl : (l.length : Int) < 9223372036854775807) :
    WC Try.prog tb 21 [v] h fun r h' => r = I (if May l then 0 else 8) ∧ h = h' := by
  refine WC.of (nostub _ rfl) tab21 ?_
  refine WX.seq ?_
  refine WX.region ?_
  refine WO.o (by simp only [aop, S0, Nat.reduceEqDiff, reduceIte]; first | done | with_reducible rfl) ?_
  refine WO.nil ?_
  refine thenK_normal ?_
  refine WX.seq ?_
  refine WX.seq ?_
  refine WX.region ?_
  refine WO.o (by simp only [aop, S0, Nat.reduceEqDiff, reduceIte]; first | done | with_reducible rfl) ?_
  first | (refine WO.call (by simp only [List.map, S0, Nat.reduceEqDiff, reduceIte]; first | done | with_reducible rfl) ?_) | (refine WO.call (by simp only [List.map, S0, S1, decide_true, decide_false, Nat.reduceEqDiff, reduceIte, Int.reduceEq, Int.reduceLT, Int.reduceLE, *]; first | done | with_reducible rfl) ?_)
  refine (may_ok h v l hs hl).mono ?_
  rintro _ _ ⟨rfl, rfl⟩
  refine WO.o (by simp only [aop, unV, Option.map_some, S0, Nat.reduceEqDiff, reduceIte]; first | done | with_reducible rfl) ?_
  refine WO.nil ?_
  refine thenK_normal ?_
  refine WX.cond _ (by simp only [S0, Nat.reduceEqDiff, reduceIte]; first | done | with_reducible rfl) (fun hb => ?_) (fun hb => ?_) <;> (try simp only [Bool.or_eq_true, Bool.and_eq_true, Bool.or_eq_false_iff, Bool.and_eq_false_iff, Bool.not_eq_true', Bool.not_eq_false', decide_eq_true_eq, decide_eq_false_iff_not, Int.not_lt, Int.not_le] at hb)
  · refine WX.seq ?_
    refine WX.region ?_
    refine WO.o (by simp only [aop, S0, Nat.reduceEqDiff, reduceIte]; first | done | with_reducible rfl) ?_
    refine WO.nil ?_
    refine thenK_normal ?_
    refine WX.ret ?_
    refine thenK_ret ?_
    first | (refine retK_ret (by simp only [resultsA, resultA, S0, Nat.reduceEqDiff, reduceIte]; rfl) ?_) | (refine retK_ret (by simp only [resultsA, resultA, S0, S1, decide_true, decide_false, Nat.reduceEqDiff, reduceIte, Int.reduceEq, Int.reduceLT, Int.reduceLE, *]; rfl) ?_)
    rw [if_neg hb]; exact ⟨rfl, rfl⟩
  · refine WX.skip ?_
    refine thenK_normal ?_
    refine WX.seq ?_
    refine WX.region ?_
    refine WO.o (by simp only [aop, S0, Nat.reduceEqDiff, reduceIte]; first | done | with_reducible rfl) ?_
    refine WO.nil ?_
    refine thenK_normal ?_
    refine WX.ret ?_
    first | (refine retK_ret (by simp only [resultsA, resultA, S0, Nat.reduceEqDiff, reduceIte]; rfl) ?_) | (refine retK_ret (by simp only [resultsA, resultA, S0, S1, decide_true, decide_false, Nat.reduceEqDiff, reduceIte, Int.reduceEq, Int.reduceLT, Int.reduceLE, *]; rfl) ?_)
    rw [if_pos hb]; exact ⟨rfl, rfl⟩

noncomputable def body24_0 : ACode := (.seq (.seq (.region [⟨some 5, none, (.mov (.tmp 0))⟩, ⟨some 6, none, (.mov (.tmp 1))⟩, ⟨some 7, none, (.idx 1 (.tmp 5) (.tmp 6))⟩, ⟨some 8, none, (.load false 1 (.tmp 7))⟩, ⟨some 9, none, (.mov (.tmp 1))⟩, ⟨some 10, none, (.bin .eql (.tmp 8) (.tmp 9))⟩]) (.cond (.tmp 10) (.seq (.region [⟨some 11, none, (.mov (.tmp 1))⟩, ⟨some 4, none, (.mov (.tmp 11))⟩]) .ret) .skip)) (.seq (.region [⟨some 12, none, (.mov (.tmp 0))⟩, ⟨some 13, none, (.mov (.tmp 1))⟩, ⟨some 14, none, (.idx 1 (.tmp 12) (.tmp 13))⟩, ⟨some 15, none, (.load false 1 (.tmp 14))⟩, ⟨some 1, none, (.mov (.tmp 15))⟩]) (.goto 0)))
noncomputable def body24 : ACode := (.seq (.region [⟨some 4, none, (.mov (.const (.int .i64 0)))⟩]) (.scope (.seq (.label 0) body24_0)))
set_option maxRecDepth 100000 in
theorem tab24 : tb.code 24 = some ⟨16, [(4, none)], body24⟩ := by kernel_rfl
theorem head_ok (h : AHeap) (v : Value) (l : List Int) (hs : SlI h v l) (m : May l) (a : Nat) (ha : a < l.length) (hl : l.length ≤ 1000) :
    WC Try.prog tb 24 [v, I a] h fun r h' => r = I (headOf l a) ∧ h = h' := by
  refine WC.of (nostub _ rfl) tab24 ?_
  refine WX.seq ?_
  refine WX.region ?_
  refine WO.o (by simp only [aop, S0, Nat.reduceEqDiff, reduceIte]; first | done | with_reducible rfl) ?_
  refine WO.nil ?_
  refine thenK_normal ?_
  refine WX.scope (fun b => b) (fun (b : Nat) t h1 => h = h1 ∧ tmGet t 0 = v ∧ tmGet t 1 = I b ∧ b < l.length ∧ headOf l b = headOf l a) a ?_ (by unfold gotos; omega) ?_
  · refine ⟨rfl, (by first | (simp only [S0, Nat.reduceEqDiff, reduceIte]; first | done | rfl) | (simp only [S0, S1, decide_true, decide_false, Nat.reduceEqDiff, reduceIte, Int.reduceEq, Int.reduceLT, Int.reduceLE, *]; first | done | rfl)), (by first | (simp only [S0, Nat.reduceEqDiff, reduceIte]; first | done | rfl) | (simp only [S0, S1, decide_true, decide_false, Nat.reduceEqDiff, reduceIte, Int.reduceEq, Int.reduceLT, Int.reduceLE, *]; first | done | rfl)), ha, rfl⟩
  rintro b t _ ⟨rfl, s0, s1, hb1, hba⟩
  refine WX.seq ?_
  refine WX.seq ?_
  refine WX.region ?_
  refine WO.o (by simp only [aop, S0, Nat.reduceEqDiff, reduceIte, s0]; first | done | with_reducible rfl) ?_
  refine WO.o (by simp only [aop, S0, Nat.reduceEqDiff, reduceIte, s1]; first | done | with_reducible rfl) ?_
  refine WO.o (SlI.idx' (by first | (simp only [S0, Nat.reduceEqDiff, reduceIte]; first | done | with_reducible rfl) | (simp only [S0, S1, decide_true, decide_false, Nat.reduceEqDiff, reduceIte, Int.reduceEq, Int.reduceLT, Int.reduceLE, *]; first | done | with_reducible rfl)) (by first | (simp only [S0, Nat.reduceEqDiff, reduceIte]; first | done | rfl) | (simp only [S0, S1, decide_true, decide_false, Nat.reduceEqDiff, reduceIte, Int.reduceEq, Int.reduceLT, Int.reduceLE, *]; first | done | rfl)) (by first | assumption | exact SlI.ext (by assumption) (by assumption) | exact OwnI.sl (by assumption) | exact OwnN.sl (by assumption)) (by first | omega | assumption | (simp only [List.length_map, List.length_set]; omega))) ?_
  first | (refine WO.o (SlI.loadD (by first | (simp only [S0, Nat.reduceEqDiff, reduceIte]; first | done | with_reducible rfl) | (simp only [S0, S1, decide_true, decide_false, Nat.reduceEqDiff, reduceIte, Int.reduceEq, Int.reduceLT, Int.reduceLE, *]; first | done | with_reducible rfl)) (by first | assumption | exact SlI.ext (by assumption) (by assumption) | exact OwnI.sl (by assumption) | exact OwnN.sl (by assumption)) (by first | omega | assumption | (simp only [List.length_map, List.length_set]; omega))) ?_) | (refine WO.o (OwnC.load (by first | (simp only [S0, Nat.reduceEqDiff, reduceIte]; first | done | with_reducible rfl) | (simp only [S0, S1, decide_true, decide_false, Nat.reduceEqDiff, reduceIte, Int.reduceEq, Int.reduceLT, Int.reduceLE, *]; first | done | with_reducible rfl)) (by assumption) rfl) ?_) | (refine WO.o (OwnC.load0 (by first | (simp only [S0, Nat.reduceEqDiff, reduceIte]; first | done | with_reducible rfl) | (simp only [S0, S1, decide_true, decide_false, Nat.reduceEqDiff, reduceIte, Int.reduceEq, Int.reduceLT, Int.reduceLE, *]; first | done | with_reducible rfl)) (by assumption) rfl) ?_)
  refine WO.o (by simp only [aop, S0, Nat.reduceEqDiff, reduceIte, s1]; first | done | with_reducible rfl) ?_
  refine WO.o (by simp only [aop, binV_eql, Option.map_some, S0, Nat.reduceEqDiff, reduceIte]; first | done | with_reducible rfl) ?_
  refine WO.nil ?_
  refine thenK_normal ?_
  refine WX.cond _ (by simp only [S0, Nat.reduceEqDiff, reduceIte, s0, s1]; first | done | with_reducible rfl) (fun hb => ?_) (fun hb => ?_) <;> (try simp only [Bool.or_eq_true, Bool.and_eq_true, Bool.or_eq_false_iff, Bool.and_eq_false_iff, Bool.not_eq_true', Bool.not_eq_false', decide_eq_true_eq, decide_eq_false_iff_not, Int.not_lt, Int.not_le] at hb)
  · refine WX.seq ?_
    refine WX.region ?_
    refine WO.o (by simp only [aop, S0, Nat.reduceEqDiff, reduceIte, s1]; first | done | with_reducible rfl) ?_
    refine WO.o (by simp only [aop, S0, Nat.reduceEqDiff, reduceIte]; first | done | with_reducible rfl) ?_
    refine WO.nil ?_
    refine thenK_normal ?_
    refine WX.ret ?_
    refine thenK_ret ?_
    refine gotoK_ret ?_
    first | (refine retK_ret (by simp only [resultsA, resultA, S0, Nat.reduceEqDiff, reduceIte, s0, s1]; rfl) ?_) | (refine retK_ret (by simp only [resultsA, resultA, S0, S1, decide_true, decide_false, Nat.reduceEqDiff, reduceIte, Int.reduceEq, Int.reduceLT, Int.reduceLE, *]; rfl) ?_)
    refine ⟨?_, rfl⟩
    rw [← hba, headOf_self hb]; rfl
  · refine WX.skip ?_
    refine thenK_normal ?_
    refine WX.seq ?_
    refine WX.region ?_
    refine WO.o (by simp only [aop, S0, Nat.reduceEqDiff, reduceIte, s0]; first | done | with_reducible rfl) ?_
    refine WO.o (by simp only [aop, S0, Nat.reduceEqDiff, reduceIte, s1]; first | done | with_reducible rfl) ?_
    refine WO.o (SlI.idx' (by first | (simp only [S0, Nat.reduceEqDiff, reduceIte]; first | done | with_reducible rfl) | (simp only [S0, S1, decide_true, decide_false, Nat.reduceEqDiff, reduceIte, Int.reduceEq, Int.reduceLT, Int.reduceLE, *]; first | done | with_reducible rfl)) (by first | (simp only [S0, Nat.reduceEqDiff, reduceIte]; first | done | rfl) | (simp only [S0, S1, decide_true, decide_false, Nat.reduceEqDiff, reduceIte, Int.reduceEq, Int.reduceLT, Int.reduceLE, *]; first | done | rfl)) (by first | assumption | exact SlI.ext (by assumption) (by assumption) | exact OwnI.sl (by assumption) | exact OwnN.sl (by assumption)) (by first | omega | assumption | (simp only [List.length_map, List.length_set]; omega))) ?_
    first | (refine WO.o (SlI.loadD (by first | (simp only [S0, Nat.reduceEqDiff, reduceIte]; first | done | with_reducible rfl) | (simp only [S0, S1, decide_true, decide_false, Nat.reduceEqDiff, reduceIte, Int.reduceEq, Int.reduceLT, Int.reduceLE, *]; first | done | with_reducible rfl)) (by first | assumption | exact SlI.ext (by assumption) (by assumption) | exact OwnI.sl (by assumption) | exact OwnN.sl (by assumption)) (by first | omega | assumption | (simp only [List.length_map, List.length_set]; omega))) ?_) | (refine WO.o (OwnC.load (by first | (simp only [S0, Nat.reduceEqDiff, reduceIte]; first | done | with_reducible rfl) | (simp only [S0, S1, decide_true, decide_false, Nat.reduceEqDiff, reduceIte, Int.reduceEq, Int.reduceLT, Int.reduceLE, *]; first | done | with_reducible rfl)) (by assumption) rfl) ?_) | (refine WO.o (OwnC.load0 (by first | (simp only [S0, Nat.reduceEqDiff, reduceIte]; first | done | with_reducible rfl) | (simp only [S0, S1, decide_true, decide_false, Nat.reduceEqDiff, reduceIte, Int.reduceEq, Int.reduceLT, Int.reduceLE, *]; first | done | with_reducible rfl)) (by assumption) rfl) ?_)
    refine WO.o (by simp only [aop, S0, Nat.reduceEqDiff, reduceIte]; first | done | with_reducible rfl) ?_
    refine WO.nil ?_
    refine thenK_normal ?_
    refine WX.goto ?_
    have := m b hb1
    refine gotoK_goto (l.getD b 0).toNat (by omega) ⟨rfl, (by first | (simp only [S0, Nat.reduceEqDiff, reduceIte, s0, s1]; first | done | rfl) | (simp only [S0, S1, decide_true, decide_false, Nat.reduceEqDiff, reduceIte, Int.reduceEq, Int.reduceLT, Int.reduceLE, *]; first | done | rfl)), ?_, by omega, ?_⟩
    · rw [show ((l.getD b 0).toNat : Int) = l.getD b 0 by omega]; first | (simp only [ev, tmGet_set, mkTm, tmGet_leaf, Nat.reduceEqDiff, if_true, if_false, reduceIte, *]; done) | (simp only [ev, tmGet_set, mkTm, tmGet_leaf, Nat.reduceEqDiff, if_true, if_false, reduceIte, *]; rfl)
    · rw [← hba, headOf_step m hb1 hb]

noncomputable def body26_0 : ACode := (.seq (.seq (.region [⟨some 5, none, (.mov (.tmp 0))⟩, ⟨some 6, none, (.mov (.tmp 1))⟩, ⟨some 7, none, (.idx 1 (.tmp 5) (.tmp 6))⟩, ⟨some 8, none, (.load false 1 (.tmp 7))⟩, ⟨some 9, none, (.mov (.tmp 1))⟩, ⟨some 10, none, (.bin .neq (.tmp 8) (.tmp 9))⟩]) (.cond (.tmp 10) .skip (.exit 0))) (.block 1 (.region [⟨some 11, none, (.mov (.tmp 0))⟩, ⟨some 12, none, (.mov (.tmp 1))⟩, ⟨some 13, none, (.idx 1 (.tmp 11) (.tmp 12))⟩, ⟨some 14, none, (.load false 1 (.tmp 13))⟩, ⟨some 1, none, (.mov (.tmp 14))⟩])))
noncomputable def body26 : ACode := (.seq (.region [⟨some 4, none, (.mov (.const (.int .i64 0)))⟩]) (.seq (.block 0 (.loop body26_0)) (.seq (.region [⟨some 15, none, (.mov (.tmp 1))⟩, ⟨some 4, none, (.mov (.tmp 15))⟩]) .ret)))
set_option maxRecDepth 100000 in
theorem tab26 : tb.code 26 = some ⟨16, [(4, none)], body26⟩ := by kernel_rfl
theorem rhead_ok (h : AHeap) (v : Value) (l : List Int) (hs : SlI h v l) (m : May l) (a : Nat) (ha : a < l.length) :
    WC Try.prog tb 26 [v, I a] h fun r h' => r = I (headOf l a) ∧ h = h' := by
  refine WC.of (nostub _ rfl) tab26 ?_
  refine WX.seq ?_
  refine WX.region ?_
  refine WO.o (by simp only [aop, S0, Nat.reduceEqDiff, reduceIte]; first | done | with_reducible rfl) ?_
  refine WO.nil ?_
  refine thenK_normal ?_
  refine WX.seq ?_
  refine WX.block ?_
  refine WX.loop (fun b => b) (fun (b : Nat) t h1 => h = h1 ∧ tmGet t 0 = v ∧ tmGet t 1 = I b ∧ b < l.length ∧ headOf l b = headOf l a) a ?_ ?_
  · refine ⟨rfl, (by first | (simp only [S0, Nat.reduceEqDiff, reduceIte]; first | done | rfl) | (simp only [S0, S1, decide_true, decide_false, Nat.reduceEqDiff, reduceIte, Int.reduceEq, Int.reduceLT, Int.reduceLE, *]; first | done | rfl)), (by first | (simp only [S0, Nat.reduceEqDiff, reduceIte]; first | done | rfl) | (simp only [S0, S1, decide_true, decide_false, Nat.reduceEqDiff, reduceIte, Int.reduceEq, Int.reduceLT, Int.reduceLE, *]; first | done | rfl)), ha, rfl⟩
  rintro b t _ ⟨rfl, s0, s1, hb1, hba⟩
  refine WX.seq ?_
  refine WX.seq ?_
  refine WX.region ?_
  refine WO.o (by simp only [aop, S0, Nat.reduceEqDiff, reduceIte, s0]; first | done | with_reducible rfl) ?_
  refine WO.o (by simp only [aop, S0, Nat.reduceEqDiff, reduceIte, s1]; first | done | with_reducible rfl) ?_
  refine WO.o (SlI.idx' (by first | (simp only [S0, Nat.reduceEqDiff, reduceIte]; first | done | with_reducible rfl) | (simp only [S0, S1, decide_true, decide_false, Nat.reduceEqDiff, reduceIte, Int.reduceEq, Int.reduceLT, Int.reduceLE, *]; first | done | with_reducible rfl)) (by first | (simp only [S0, Nat.reduceEqDiff, reduceIte]; first | done | rfl) | (simp only [S0, S1, decide_true, decide_false, Nat.reduceEqDiff, reduceIte, Int.reduceEq, Int.reduceLT, Int.reduceLE, *]; first | done | rfl)) (by first | assumption | exact SlI.ext (by assumption) (by assumption) | exact OwnI.sl (by assumption) | exact OwnN.sl (by assumption)) (by first | omega | assumption | (simp only [List.length_map, List.length_set]; omega))) ?_
  first | (refine WO.o (SlI.loadD (by first | (simp only [S0, Nat.reduceEqDiff, reduceIte]; first | done | with_reducible rfl) | (simp only [S0, S1, decide_true, decide_false, Nat.reduceEqDiff, reduceIte, Int.reduceEq, Int.reduceLT, Int.reduceLE, *]; first | done | with_reducible rfl)) (by first | assumption | exact SlI.ext (by assumption) (by assumption) | exact OwnI.sl (by assumption) | exact OwnN.sl (by assumption)) (by first | omega | assumption | (simp only [List.length_map, List.length_set]; omega))) ?_) | (refine WO.o (OwnC.load (by first | (simp only [S0, Nat.reduceEqDiff, reduceIte]; first | done | with_reducible rfl) | (simp only [S0, S1, decide_true, decide_false, Nat.reduceEqDiff, reduceIte, Int.reduceEq, Int.reduceLT, Int.reduceLE, *]; first | done | with_reducible rfl)) (by assumption) rfl) ?_) | (refine WO.o (OwnC.load0 (by first | (simp only [S0, Nat.reduceEqDiff, reduceIte]; first | done | with_reducible rfl) | (simp only [S0, S1, decide_true, decide_false, Nat.reduceEqDiff, reduceIte, Int.reduceEq, Int.reduceLT, Int.reduceLE, *]; first | done | with_reducible rfl)) (by assumption) rfl) ?_)
  refine WO.o (by simp only [aop, S0, Nat.reduceEqDiff, reduceIte, s1]; first | done | with_reducible rfl) ?_
  refine WO.o (by simp only [aop, binV_neq, Option.map_some, S0, Nat.reduceEqDiff, reduceIte]; first | done | with_reducible rfl) ?_
  refine WO.nil ?_
  refine thenK_normal ?_
  refine WX.cond _ (by simp only [S0, Nat.reduceEqDiff, reduceIte, s0, s1]; first | done | with_reducible rfl) (fun hb => ?_) (fun hb => ?_) <;> (try simp only [Bool.or_eq_true, Bool.and_eq_true, Bool.or_eq_false_iff, Bool.and_eq_false_iff, Bool.not_eq_true', Bool.not_eq_false', decide_eq_true_eq, decide_eq_false_iff_not, Int.not_lt, Int.not_le] at hb)
  · refine WX.skip ?_
    refine thenK_normal ?_
    refine WX.block ?_
    refine WX.region ?_
    refine WO.o (by simp only [aop, S0, Nat.reduceEqDiff, reduceIte, s0]; first | done | with_reducible rfl) ?_
    refine WO.o (by simp only [aop, S0, Nat.reduceEqDiff, reduceIte, s1]; first | done | with_reducible rfl) ?_
    refine WO.o (SlI.idx' (by first | (simp only [S0, Nat.reduceEqDiff, reduceIte]; first | done | with_reducible rfl) | (simp only [S0, S1, decide_true, decide_false, Nat.reduceEqDiff, reduceIte, Int.reduceEq, Int.reduceLT, Int.reduceLE, *]; first | done | with_reducible rfl)) (by first | (simp only [S0, Nat.reduceEqDiff, reduceIte]; first | done | rfl) | (simp only [S0, S1, decide_true, decide_false, Nat.reduceEqDiff, reduceIte, Int.reduceEq, Int.reduceLT, Int.reduceLE, *]; first | done | rfl)) (by first | assumption | exact SlI.ext (by assumption) (by assumption) | exact OwnI.sl (by assumption) | exact OwnN.sl (by assumption)) (by first | omega | assumption | (simp only [List.length_map, List.length_set]; omega))) ?_
    first | (refine WO.o (SlI.loadD (by first | (simp only [S0, Nat.reduceEqDiff, reduceIte]; first | done | with_reducible rfl) | (simp only [S0, S1, decide_true, decide_false, Nat.reduceEqDiff, reduceIte, Int.reduceEq, Int.reduceLT, Int.reduceLE, *]; first | done | with_reducible rfl)) (by first | assumption | exact SlI.ext (by assumption) (by assumption) | exact OwnI.sl (by assumption) | exact OwnN.sl (by assumption)) (by first | omega | assumption | (simp only [List.length_map, List.length_set]; omega))) ?_) | (refine WO.o (OwnC.load (by first | (simp only [S0, Nat.reduceEqDiff, reduceIte]; first | done | with_reducible rfl) | (simp only [S0, S1, decide_true, decide_false, Nat.reduceEqDiff, reduceIte, Int.reduceEq, Int.reduceLT, Int.reduceLE, *]; first | done | with_reducible rfl)) (by assumption) rfl) ?_) | (refine WO.o (OwnC.load0 (by first | (simp only [S0, Nat.reduceEqDiff, reduceIte]; first | done | with_reducible rfl) | (simp only [S0, S1, decide_true, decide_false, Nat.reduceEqDiff, reduceIte, Int.reduceEq, Int.reduceLT, Int.reduceLE, *]; first | done | with_reducible rfl)) (by assumption) rfl) ?_)
    refine WO.o (by simp only [aop, S0, Nat.reduceEqDiff, reduceIte]; first | done | with_reducible rfl) ?_
    refine WO.nil ?_
    refine blockK_normal ?_
    have := m b hb1
    refine loopK_normal (l.getD b 0).toNat (by omega) ⟨rfl, (by first | (simp only [S0, Nat.reduceEqDiff, reduceIte, s0, s1]; first | done | rfl) | (simp only [S0, S1, decide_true, decide_false, Nat.reduceEqDiff, reduceIte, Int.reduceEq, Int.reduceLT, Int.reduceLE, *]; first | done | rfl)), ?_, by omega, ?_⟩
    · rw [show ((l.getD b 0).toNat : Int) = l.getD b 0 by omega]; first | (simp only [ev, tmGet_set, mkTm, tmGet_leaf, Nat.reduceEqDiff, if_true, if_false, reduceIte, *]; done) | (simp only [ev, tmGet_set, mkTm, tmGet_leaf, Nat.reduceEqDiff, if_true, if_false, reduceIte, *]; rfl)
    · rw [← hba, headOf_step m hb1 hb]
  · refine WX.exit ?_
    refine thenK_exit ?_
    refine loopK_exit ?_
    refine blockK_exit ?_
    refine thenK_normal ?_
    refine WX.seq ?_
    refine WX.region ?_
    refine WO.o (by simp only [aop, S0, Nat.reduceEqDiff, reduceIte, s1]; first | done | with_reducible rfl) ?_
    refine WO.o (by simp only [aop, S0, Nat.reduceEqDiff, reduceIte]; first | done | with_reducible rfl) ?_
    refine WO.nil ?_
    refine thenK_normal ?_
    refine WX.ret ?_
    first | (refine retK_ret (by simp only [resultsA, resultA, S0, Nat.reduceEqDiff, reduceIte, s0, s1]; rfl) ?_) | (refine retK_ret (by simp only [resultsA, resultA, S0, S1, decide_true, decide_false, Nat.reduceEqDiff, reduceIte, Int.reduceEq, Int.reduceLT, Int.reduceLE, *]; rfl) ?_)
    refine ⟨?_, rfl⟩
    rw [← hba, headOf_self hb]; rfl

/-- The error of classes and things. -/
def askOf (l ts : List Int) : Int := if May l then (if ∀ a ∈ ts, 0 ≤ a ∧ a < l.length then 0 else 2) else 8
noncomputable def body23_0 : ACode := (.seq (.region [⟨some 16, none, (.bin .lss (.tmp 15) (.tmp 14))⟩]) (.seq (.cond (.tmp 16) .skip (.exit 0)) (.seq (.block 1 (.seq (.region [⟨some 17, none, (.idx 1 (.tmp 13) (.tmp 15))⟩, ⟨some 18, none, (.load false 1 (.tmp 17))⟩, ⟨some 7, none, (.mov (.tmp 18))⟩]) (.seq (.region [⟨some 19, none, (.mov (.tmp 7))⟩, ⟨some 20, none, (.bin .lss (.tmp 19) (.const (.int .i64 0)))⟩, ⟨some 21, none, (.mov (.tmp 20))⟩, ⟨some 22, some (21, false), (.mov (.tmp 7))⟩, ⟨some 23, some (21, false), (.mov (.tmp 0))⟩, ⟨some 24, some (21, false), (.len (.tmp 23))⟩, ⟨some 25, some (21, false), (.bin .geq (.tmp 22) (.tmp 24))⟩, ⟨some 26, none, (.pick (.tmp 21) (.const (.bool true)) (.tmp 25))⟩]) (.cond (.tmp 26) (.seq (.region [⟨some 4, none, (.mov (.const (.int .i64 2)))⟩]) .ret) .skip)))) (.region [⟨some 27, none, (.bin .add (.tmp 15) (.const (.int .i64 1)))⟩, ⟨some 15, none, (.mov (.tmp 27))⟩]))))
noncomputable def body23 : ACode := (.seq (.region [⟨some 4, none, (.mov (.const (.int .i64 0)))⟩]) (.seq (.seq (.region [⟨some 8, none, (.mov (.tmp 0))⟩, ⟨some 9, none, (.call (.func 20) [(.tmp 8)])⟩, ⟨some 5, none, (.mov (.tmp 9))⟩]) (.seq (.region [⟨some 10, none, (.mov (.tmp 5))⟩, ⟨some 11, none, (.bin .neq (.tmp 10) (.const (.int .i64 0)))⟩]) (.cond (.tmp 11) (.seq (.region [⟨some 12, none, (.mov (.tmp 5))⟩, ⟨some 4, none, (.mov (.tmp 12))⟩]) .ret) .skip))) (.seq (.seq (.region [⟨some 13, none, (.mov (.tmp 1))⟩, ⟨some 14, none, (.len (.tmp 13))⟩, ⟨some 15, none, (.mov (.const (.int .i64 0)))⟩]) (.block 0 (.loop body23_0))) (.seq (.region [⟨some 4, none, (.mov (.const (.int .i64 0)))⟩]) .ret))))
set_option maxRecDepth 100000 in
theorem tab23 : tb.code 23 = some ⟨28, [(4, none)], body23⟩ := by kernel_rfl
theorem asked_ok (h : AHeap) (v vt : Value) (l ts : List Int) (hs : SlI h v l) (ht : SlI h vt ts) (hl : (l.length : Int) < 9223372036854775807) (hl2 : (ts.length : Int) < 9223372036854775807) :
    WC Try.prog tb 23 [v, vt] h fun r h' => r = I (askOf l ts) ∧ h = h' := by
  refine WC.of (nostub _ rfl) tab23 ?_
  refine WX.seq ?_
  refine WX.region ?_
  refine WO.o (by simp only [aop, S0, Nat.reduceEqDiff, reduceIte]; first | done | with_reducible rfl) ?_
  refine WO.nil ?_
  refine thenK_normal ?_
  refine WX.seq ?_
  refine WX.seq ?_
  refine WX.region ?_
  refine WO.o (by simp only [aop, S0, Nat.reduceEqDiff, reduceIte]; first | done | with_reducible rfl) ?_
  first | (refine WO.call (by simp only [List.map, S0, Nat.reduceEqDiff, reduceIte]; first | done | with_reducible rfl) ?_) | (refine WO.call (by simp only [List.map, S0, S1, decide_true, decide_false, Nat.reduceEqDiff, reduceIte, Int.reduceEq, Int.reduceLT, Int.reduceLE, *]; first | done | with_reducible rfl) ?_)
  refine (check_ok h v l hs hl).mono ?_
  rintro _ _ ⟨rfl, rfl⟩
  unfold askOf
  by_cases m : May l
  case neg =>
    rw [if_neg m, if_neg m]
    refine WO.o (by simp only [aop, S0, Nat.reduceEqDiff, reduceIte]; first | done | with_reducible rfl) ?_
    refine WO.nil ?_
    refine thenK_normal ?_
    refine WX.seq ?_
    refine WX.region ?_
    refine WO.o (by simp only [aop, S0, Nat.reduceEqDiff, reduceIte]; first | done | with_reducible rfl) ?_
    refine WO.o (by simp only [aop, binV_neq, Option.map_some, S0, Nat.reduceEqDiff, reduceIte]; first | done | with_reducible rfl) ?_
    refine WO.nil ?_
    refine thenK_normal ?_
    refine WX.cond _ (by simp only [S0, Nat.reduceEqDiff, reduceIte]; first | done | with_reducible rfl) (fun hb => ?_) (fun hb => ?_) <;> (try simp only [Bool.or_eq_true, Bool.and_eq_true, Bool.or_eq_false_iff, Bool.and_eq_false_iff, Bool.not_eq_true', Bool.not_eq_false', decide_eq_true_eq, decide_eq_false_iff_not, Int.not_lt, Int.not_le] at hb)
    · refine WX.seq ?_
      refine WX.region ?_
      refine WO.o (by simp only [aop, S0, Nat.reduceEqDiff, reduceIte]; first | done | with_reducible rfl) ?_
      refine WO.o (by simp only [aop, S0, Nat.reduceEqDiff, reduceIte]; first | done | with_reducible rfl) ?_
      refine WO.nil ?_
      refine thenK_normal ?_
      refine WX.ret ?_
      refine thenK_ret ?_
      first | (refine retK_ret (by simp only [resultsA, resultA, S0, Nat.reduceEqDiff, reduceIte]; rfl) ?_) | (refine retK_ret (by simp only [resultsA, resultA, S0, S1, decide_true, decide_false, Nat.reduceEqDiff, reduceIte, Int.reduceEq, Int.reduceLT, Int.reduceLE, *]; rfl) ?_)
      exact ⟨rfl, rfl⟩
    · simp at hb
  rw [if_pos m, if_pos m]
  refine WO.o (by simp only [aop, S0, Nat.reduceEqDiff, reduceIte]; first | done | with_reducible rfl) ?_
  refine WO.nil ?_
  refine thenK_normal ?_
  refine WX.seq ?_
  refine WX.region ?_
  refine WO.o (by simp only [aop, S0, Nat.reduceEqDiff, reduceIte]; first | done | with_reducible rfl) ?_
  refine WO.o (by simp only [aop, binV_neq, Option.map_some, S0, Nat.reduceEqDiff, reduceIte]; first | done | with_reducible rfl) ?_
  refine WO.nil ?_
  refine thenK_normal ?_
  first | (refine WX.condF (by simp only [S0, Nat.reduceEqDiff, reduceIte]; first | done | with_reducible rfl) ?_) | (refine WX.condF (by simp only [S0, S1, decide_true, decide_false, Nat.reduceEqDiff, reduceIte, Int.reduceEq, Int.reduceLT, Int.reduceLE, *]; first | done | with_reducible rfl) ?_)
  refine WX.skip ?_
  refine thenK_normal ?_
  refine WX.seq ?_
  refine WX.seq ?_
  refine WX.region ?_
  refine WO.o (by simp only [aop, S0, Nat.reduceEqDiff, reduceIte]; first | done | with_reducible rfl) ?_
  refine WO.o (SlI.len' (by first | (simp only [S0, Nat.reduceEqDiff, reduceIte]; first | done | with_reducible rfl) | (simp only [S0, S1, decide_true, decide_false, Nat.reduceEqDiff, reduceIte, Int.reduceEq, Int.reduceLT, Int.reduceLE, *]; first | done | with_reducible rfl)) (by first | assumption | exact SlI.ext (by assumption) (by assumption) | exact OwnI.sl (by assumption) | exact OwnN.sl (by assumption))) ?_
  refine WO.o (by simp only [aop, S0, Nat.reduceEqDiff, reduceIte]; first | done | with_reducible rfl) ?_
  refine WO.nil ?_
  refine thenK_normal ?_
  refine WX.block ?_
  refine WX.loop (fun k => ts.length - k) (fun k t h1 => h = h1 ∧ tmGet t 0 = v ∧ tmGet t 13 = vt ∧ tmGet t 14 = I ts.length ∧ tmGet t 15 = I k ∧ k ≤ ts.length ∧ ∀ i, i < k → 0 ≤ ts.getD i 0 ∧ ts.getD i 0 < l.length) 0 ?_ ?_
  · refine ⟨rfl, (by first | (simp only [S0, Nat.reduceEqDiff, reduceIte]; first | done | rfl) | (simp only [S0, S1, decide_true, decide_false, Nat.reduceEqDiff, reduceIte, Int.reduceEq, Int.reduceLT, Int.reduceLE, *]; first | done | rfl)), (by first | (simp only [S0, Nat.reduceEqDiff, reduceIte]; first | done | rfl) | (simp only [S0, S1, decide_true, decide_false, Nat.reduceEqDiff, reduceIte, Int.reduceEq, Int.reduceLT, Int.reduceLE, *]; first | done | rfl)), (by first | (simp only [S0, Nat.reduceEqDiff, reduceIte]; first | done | rfl) | (simp only [S0, S1, decide_true, decide_false, Nat.reduceEqDiff, reduceIte, Int.reduceEq, Int.reduceLT, Int.reduceLE, *]; first | done | rfl)), (by first | (simp only [S0, Nat.reduceEqDiff, reduceIte]; first | done | rfl) | (simp only [S0, S1, decide_true, decide_false, Nat.reduceEqDiff, reduceIte, Int.reduceEq, Int.reduceLT, Int.reduceLE, *]; first | done | rfl)), Nat.zero_le _, fun i hi => by omega⟩
  rintro k t _ ⟨rfl, s0, s13, s14, s15, hk, hm⟩
  refine WX.seq ?_
  refine WX.region ?_
  refine WO.o (by simp only [aop, binV_lss, Option.map_some, S0, Nat.reduceEqDiff, reduceIte, s14, s15]; first | done | with_reducible rfl) ?_
  refine WO.nil ?_
  refine thenK_normal ?_
  refine WX.seq ?_
  refine WX.cond _ (by simp only [S0, Nat.reduceEqDiff, reduceIte, s0, s13, s14, s15]; first | done | with_reducible rfl) (fun hb => ?_) (fun hb => ?_) <;> (try simp only [Bool.or_eq_true, Bool.and_eq_true, Bool.or_eq_false_iff, Bool.and_eq_false_iff, Bool.not_eq_true', Bool.not_eq_false', decide_eq_true_eq, decide_eq_false_iff_not, Int.not_lt, Int.not_le] at hb)
  · refine WX.skip ?_
    refine thenK_normal ?_
    refine WX.seq ?_
    refine WX.block ?_
    refine WX.seq ?_
    refine WX.region ?_
    refine WO.o (SlI.idx' (by first | (simp only [S0, Nat.reduceEqDiff, reduceIte, s13, s15]; first | done | with_reducible rfl) | (simp only [S0, S1, decide_true, decide_false, Nat.reduceEqDiff, reduceIte, Int.reduceEq, Int.reduceLT, Int.reduceLE, *]; first | done | with_reducible rfl)) (by first | (simp only [S0, Nat.reduceEqDiff, reduceIte, s13, s15]; first | done | rfl) | (simp only [S0, S1, decide_true, decide_false, Nat.reduceEqDiff, reduceIte, Int.reduceEq, Int.reduceLT, Int.reduceLE, *]; first | done | rfl)) (by first | assumption | exact SlI.ext (by assumption) (by assumption) | exact OwnI.sl (by assumption) | exact OwnN.sl (by assumption)) (by first | omega | assumption | (simp only [List.length_map, List.length_set]; omega))) ?_
    first | (refine WO.o (SlI.loadD (by first | (simp only [S0, Nat.reduceEqDiff, reduceIte]; first | done | with_reducible rfl) | (simp only [S0, S1, decide_true, decide_false, Nat.reduceEqDiff, reduceIte, Int.reduceEq, Int.reduceLT, Int.reduceLE, *]; first | done | with_reducible rfl)) (by first | assumption | exact SlI.ext (by assumption) (by assumption) | exact OwnI.sl (by assumption) | exact OwnN.sl (by assumption)) (by first | omega | assumption | (simp only [List.length_map, List.length_set]; omega))) ?_) | (refine WO.o (OwnC.load (by first | (simp only [S0, Nat.reduceEqDiff, reduceIte]; first | done | with_reducible rfl) | (simp only [S0, S1, decide_true, decide_false, Nat.reduceEqDiff, reduceIte, Int.reduceEq, Int.reduceLT, Int.reduceLE, *]; first | done | with_reducible rfl)) (by assumption) rfl) ?_) | (refine WO.o (OwnC.load0 (by first | (simp only [S0, Nat.reduceEqDiff, reduceIte]; first | done | with_reducible rfl) | (simp only [S0, S1, decide_true, decide_false, Nat.reduceEqDiff, reduceIte, Int.reduceEq, Int.reduceLT, Int.reduceLE, *]; first | done | with_reducible rfl)) (by assumption) rfl) ?_)
    refine WO.o (by simp only [aop, S0, Nat.reduceEqDiff, reduceIte]; first | done | with_reducible rfl) ?_
    refine WO.nil ?_
    refine thenK_normal ?_
    refine WX.seq ?_
    refine WX.region ?_
    refine WO.o (by simp only [aop, S0, Nat.reduceEqDiff, reduceIte]; first | done | with_reducible rfl) ?_
    refine WO.o (by simp only [aop, binV_lss, Option.map_some, S0, Nat.reduceEqDiff, reduceIte]; first | done | with_reducible rfl) ?_
    refine WO.o (by simp only [aop, S0, Nat.reduceEqDiff, reduceIte]; first | done | with_reducible rfl) ?_
    first | (refine WO.guard _ _ rfl (by simp only [S0, Nat.reduceEqDiff, reduceIte]; first | done | with_reducible rfl) (fun hb => (by simp only [aop, S0, Nat.reduceEqDiff, reduceIte, hb]; first | done | with_reducible rfl)) ?_) | (refine WO.guardT (by simp only [S0, S1, decide_true, decide_false, Nat.reduceEqDiff, reduceIte, Int.reduceEq, Int.reduceLT, Int.reduceLE, *]; first | done | with_reducible rfl) ?_; refine WO.o (by simp only [aop, S0, Nat.reduceEqDiff, reduceIte]; first | done | with_reducible rfl) ?_) | (refine WO.guardF (by simp only [S0, S1, decide_true, decide_false, Nat.reduceEqDiff, reduceIte, Int.reduceEq, Int.reduceLT, Int.reduceLE, *]; first | done | with_reducible rfl) ?_) | (refine WO.guardU (by simp only [S0, S1, decide_true, decide_false, Nat.reduceEqDiff, reduceIte, Int.reduceEq, Int.reduceLT, Int.reduceLE, *]; first | done | with_reducible rfl) ?_)
    first | (refine WO.guard _ _ rfl (by simp only [S0, Nat.reduceEqDiff, reduceIte, s0]; first | done | with_reducible rfl) (fun hb => (by simp only [aop, S0, Nat.reduceEqDiff, reduceIte, s0, hb]; first | done | with_reducible rfl)) ?_) | (refine WO.guardT (by simp only [S0, S1, decide_true, decide_false, Nat.reduceEqDiff, reduceIte, Int.reduceEq, Int.reduceLT, Int.reduceLE, *]; first | done | with_reducible rfl) ?_; refine WO.o (by simp only [aop, S0, Nat.reduceEqDiff, reduceIte, s0]; first | done | with_reducible rfl) ?_) | (refine WO.guardF (by simp only [S0, S1, decide_true, decide_false, Nat.reduceEqDiff, reduceIte, Int.reduceEq, Int.reduceLT, Int.reduceLE, *]; first | done | with_reducible rfl) ?_) | (refine WO.guardU (by simp only [S0, S1, decide_true, decide_false, Nat.reduceEqDiff, reduceIte, Int.reduceEq, Int.reduceLT, Int.reduceLE, *]; first | done | with_reducible rfl) ?_)
    first | (refine WO.guard _ _ rfl (by simp only [S0, Nat.reduceEqDiff, reduceIte]; first | done | with_reducible rfl) (fun hb => (SlI.len' (by first | (simp only [S0, Nat.reduceEqDiff, reduceIte, hb]; first | done | with_reducible rfl) | (simp only [S0, S1, decide_true, decide_false, Nat.reduceEqDiff, reduceIte, Int.reduceEq, Int.reduceLT, Int.reduceLE, *]; first | done | with_reducible rfl)) (by first | assumption | exact SlI.ext (by assumption) (by assumption) | exact OwnI.sl (by assumption) | exact OwnN.sl (by assumption)))) ?_) | (refine WO.guardT (by simp only [S0, S1, decide_true, decide_false, Nat.reduceEqDiff, reduceIte, Int.reduceEq, Int.reduceLT, Int.reduceLE, *]; first | done | with_reducible rfl) ?_; refine WO.o (SlI.len' (by first | (simp only [S0, Nat.reduceEqDiff, reduceIte]; first | done | with_reducible rfl) | (simp only [S0, S1, decide_true, decide_false, Nat.reduceEqDiff, reduceIte, Int.reduceEq, Int.reduceLT, Int.reduceLE, *]; first | done | with_reducible rfl)) (by first | assumption | exact SlI.ext (by assumption) (by assumption) | exact OwnI.sl (by assumption) | exact OwnN.sl (by assumption))) ?_) | (refine WO.guardF (by simp only [S0, S1, decide_true, decide_false, Nat.reduceEqDiff, reduceIte, Int.reduceEq, Int.reduceLT, Int.reduceLE, *]; first | done | with_reducible rfl) ?_) | (refine WO.guardU (by simp only [S0, S1, decide_true, decide_false, Nat.reduceEqDiff, reduceIte, Int.reduceEq, Int.reduceLT, Int.reduceLE, *]; first | done | with_reducible rfl) ?_)
    first | (refine WO.guard _ _ rfl (by simp only [S0, Nat.reduceEqDiff, reduceIte]; first | done | with_reducible rfl) (fun hb => (by simp only [aop, binV_geq, Option.map_some, S0, Nat.reduceEqDiff, reduceIte, hb]; first | done | with_reducible rfl)) ?_) | (refine WO.guardT (by simp only [S0, S1, decide_true, decide_false, Nat.reduceEqDiff, reduceIte, Int.reduceEq, Int.reduceLT, Int.reduceLE, *]; first | done | with_reducible rfl) ?_; refine WO.o (by simp only [aop, binV_geq, Option.map_some, S0, Nat.reduceEqDiff, reduceIte]; first | done | with_reducible rfl) ?_) | (refine WO.guardF (by simp only [S0, S1, decide_true, decide_false, Nat.reduceEqDiff, reduceIte, Int.reduceEq, Int.reduceLT, Int.reduceLE, *]; first | done | with_reducible rfl) ?_) | (refine WO.guardU (by simp only [S0, S1, decide_true, decide_false, Nat.reduceEqDiff, reduceIte, Int.reduceEq, Int.reduceLT, Int.reduceLE, *]; first | done | with_reducible rfl) ?_)
    refine WO.o (by simp only [aop, pick_or, pick_and, S0, Nat.reduceEqDiff, reduceIte]; first | done | with_reducible rfl) ?_
    refine WO.nil ?_
    refine thenK_normal ?_
    refine WX.cond _ (by simp only [S0, Nat.reduceEqDiff, reduceIte, s0, s13, s14, s15]; first | done | with_reducible rfl) (fun hb => ?_) (fun hb => ?_) <;> (try simp only [Bool.or_eq_true, Bool.and_eq_true, Bool.or_eq_false_iff, Bool.and_eq_false_iff, Bool.not_eq_true', Bool.not_eq_false', decide_eq_true_eq, decide_eq_false_iff_not, Int.not_lt, Int.not_le] at hb)
    · refine WX.seq ?_
      refine WX.region ?_
      refine WO.o (by simp only [aop, S0, Nat.reduceEqDiff, reduceIte]; first | done | with_reducible rfl) ?_
      refine WO.nil ?_
      refine thenK_normal ?_
      refine WX.ret ?_
      refine blockK_ret ?_
      refine thenK_ret ?_
      refine loopK_ret ?_
      refine blockK_ret ?_
      refine thenK_ret ?_
      first | (refine retK_ret (by simp only [resultsA, resultA, S0, Nat.reduceEqDiff, reduceIte, s0, s13, s14, s15]; rfl) ?_) | (refine retK_ret (by simp only [resultsA, resultA, S0, S1, decide_true, decide_false, Nat.reduceEqDiff, reduceIte, Int.reduceEq, Int.reduceLT, Int.reduceLE, *]; rfl) ?_)
      refine ⟨?_, rfl⟩
      rw [if_neg (fun q => by
        have := q (ts.getD k 0) (getD_mem (by omega))
        omega)]; rfl
    · refine WX.skip ?_
      refine blockK_normal ?_
      refine thenK_normal ?_
      refine WX.region ?_
      refine WO.o (by simp only [aop, binV_add, Option.map_some, S0, Nat.reduceEqDiff, reduceIte, s15]; first | (rw [wrap64 (by omega) (by omega)]) | with_reducible rfl) ?_
      refine WO.o (by simp only [aop, S0, Nat.reduceEqDiff, reduceIte]; first | done | with_reducible rfl) ?_
      refine WO.nil ?_
      refine loopK_normal (k + 1) (by omega) ⟨rfl, (by first | (simp only [S0, Nat.reduceEqDiff, reduceIte, s0, s13, s14, s15]; first | done | rfl) | (simp only [S0, S1, decide_true, decide_false, Nat.reduceEqDiff, reduceIte, Int.reduceEq, Int.reduceLT, Int.reduceLE, *]; first | done | rfl)), (by first | (simp only [S0, Nat.reduceEqDiff, reduceIte, s0, s13, s14, s15]; first | done | rfl) | (simp only [S0, S1, decide_true, decide_false, Nat.reduceEqDiff, reduceIte, Int.reduceEq, Int.reduceLT, Int.reduceLE, *]; first | done | rfl)), (by first | (simp only [S0, Nat.reduceEqDiff, reduceIte, s0, s13, s14, s15]; first | done | rfl) | (simp only [S0, S1, decide_true, decide_false, Nat.reduceEqDiff, reduceIte, Int.reduceEq, Int.reduceLT, Int.reduceLE, *]; first | done | rfl)), (by first | (simp only [S0, Nat.reduceEqDiff, reduceIte, s0, s13, s14, s15]; first | done | rfl) | (simp only [S0, S1, decide_true, decide_false, Nat.reduceEqDiff, reduceIte, Int.reduceEq, Int.reduceLT, Int.reduceLE, *]; first | done | rfl)), by omega, fun i hi => ?_⟩
      by_cases e : i = k
      · subst e; exact hb
      · exact hm i (by omega)
  · refine WX.exit ?_
    refine thenK_exit ?_
    refine loopK_exit ?_
    refine blockK_exit ?_
    refine thenK_normal ?_
    refine WX.seq ?_
    refine WX.region ?_
    refine WO.o (by simp only [aop, S0, Nat.reduceEqDiff, reduceIte]; first | done | with_reducible rfl) ?_
    refine WO.nil ?_
    refine thenK_normal ?_
    refine WX.ret ?_
    first | (refine retK_ret (by simp only [resultsA, resultA, S0, Nat.reduceEqDiff, reduceIte, s0, s13, s14, s15]; rfl) ?_) | (refine retK_ret (by simp only [resultsA, resultA, S0, S1, decide_true, decide_false, Nat.reduceEqDiff, reduceIte, Int.reduceEq, Int.reduceLT, Int.reduceLE, *]; rfl) ?_)
    refine ⟨?_, rfl⟩
    rw [if_pos (fun a ha => by
      obtain ⟨i, hi, rfl⟩ := mem_getD ha
      exact hm i (by omega))]; rfl

noncomputable def body11_0 : ACode := (.seq (.seq (.region [⟨some 11, none, (.mov (.tmp 5))⟩, ⟨some 12, none, (.mov (.tmp 0))⟩, ⟨some 13, none, (.len (.tmp 12))⟩, ⟨some 14, none, (.bin .lss (.tmp 11) (.tmp 13))⟩]) (.cond (.tmp 14) .skip (.exit 0))) (.seq (.block 1 (.seq (.regionC [(⟨some 17, none, (.mov (.tmp 0))⟩, []), (⟨some 18, none, (.mov (.tmp 5))⟩, []), (⟨some 19, none, (.idx 1 (.tmp 17) (.tmp 18))⟩, []), (⟨some 20, none, (.load false 1 (.tmp 19))⟩, []), (⟨some 21, none, (.mov (.tmp 1))⟩, []), (⟨some 22, none, (.mov (.tmp 5))⟩, []), (⟨some 23, none, (.idx 1 (.tmp 21) (.tmp 22))⟩, []), (⟨some 24, none, (.load false 1 (.tmp 23))⟩, []), (⟨some 25, none, (.bin .neq (.tmp 20) (.tmp 24))⟩, [])]) (.cond (.tmp 25) (.seq (.region [⟨some 4, none, (.mov (.const (.bool false)))⟩]) .ret) .skip))) (.region [⟨some 15, none, (.mov (.tmp 5))⟩, ⟨some 16, none, (.bin .add (.tmp 15) (.const (.int .i64 1)))⟩, ⟨some 5, none, (.mov (.tmp 16))⟩])))
noncomputable def body11 : ACode := (.seq (.region [⟨some 4, none, (.mov (.const (.bool false)))⟩]) (.seq (.seq (.region [⟨some 6, none, (.mov (.tmp 0))⟩, ⟨some 7, none, (.len (.tmp 6))⟩, ⟨some 8, none, (.mov (.tmp 1))⟩, ⟨some 9, none, (.len (.tmp 8))⟩, ⟨some 10, none, (.bin .neq (.tmp 7) (.tmp 9))⟩]) (.cond (.tmp 10) (.seq (.region [⟨some 4, none, (.mov (.const (.bool false)))⟩]) .ret) .skip)) (.seq (.seq (.region [⟨some 5, none, (.mov (.const (.int .i64 0)))⟩]) (.block 0 (.loop body11_0))) (.seq (.region [⟨some 4, none, (.mov (.const (.bool true)))⟩]) .ret))))
set_option maxRecDepth 100000 in
theorem tab11 : tb.code 11 = some ⟨26, [(4, none)], body11⟩ := by kernel_rfl
theorem same_ok (h : AHeap) (v w : Value) (l k : List Int) (hs : SlI h v l) (ht : SlI h w k) (hl : (l.length : Int) < 9223372036854775807) :
    WC Try.prog tb 11 [v, w] h fun r h' => r = .bool (decide (l = k)) ∧ h = h' := by
  refine WC.of (nostub _ rfl) tab11 ?_
  refine WX.seq ?_
  refine WX.region ?_
  refine WO.o (by simp only [aop, S0, Nat.reduceEqDiff, reduceIte]; first | done | with_reducible rfl) ?_
  refine WO.nil ?_
  refine thenK_normal ?_
  refine WX.seq ?_
  refine WX.seq ?_
  refine WX.region ?_
  refine WO.o (by simp only [aop, S0, Nat.reduceEqDiff, reduceIte]; first | done | with_reducible rfl) ?_
  refine WO.o (SlI.len' (by first | (simp only [S0, Nat.reduceEqDiff, reduceIte]; first | done | with_reducible rfl) | (simp only [S0, S1, decide_true, decide_false, Nat.reduceEqDiff, reduceIte, Int.reduceEq, Int.reduceLT, Int.reduceLE, *]; first | done | with_reducible rfl)) (by first | assumption | exact SlI.ext (by assumption) (by assumption) | exact OwnI.sl (by assumption) | exact OwnN.sl (by assumption))) ?_
  refine WO.o (by simp only [aop, S0, Nat.reduceEqDiff, reduceIte]; first | done | with_reducible rfl) ?_
  refine WO.o (SlI.len' (by first | (simp only [S0, Nat.reduceEqDiff, reduceIte]; first | done | with_reducible rfl) | (simp only [S0, S1, decide_true, decide_false, Nat.reduceEqDiff, reduceIte, Int.reduceEq, Int.reduceLT, Int.reduceLE, *]; first | done | with_reducible rfl)) (by first | assumption | exact SlI.ext (by assumption) (by assumption) | exact OwnI.sl (by assumption) | exact OwnN.sl (by assumption))) ?_
  refine WO.o (by simp only [aop, binV_neq, Option.map_some, S0, Nat.reduceEqDiff, reduceIte]; first | done | with_reducible rfl) ?_
  refine WO.nil ?_
  refine thenK_normal ?_
  refine WX.cond _ (by simp only [S0, Nat.reduceEqDiff, reduceIte]; first | done | with_reducible rfl) (fun hb => ?_) (fun hb => ?_) <;> (try simp only [Bool.or_eq_true, Bool.and_eq_true, Bool.or_eq_false_iff, Bool.and_eq_false_iff, Bool.not_eq_true', Bool.not_eq_false', decide_eq_true_eq, decide_eq_false_iff_not, Int.not_lt, Int.not_le] at hb)
  · refine WX.seq ?_
    refine WX.region ?_
    refine WO.o (by simp only [aop, S0, Nat.reduceEqDiff, reduceIte]; first | done | with_reducible rfl) ?_
    refine WO.nil ?_
    refine thenK_normal ?_
    refine WX.ret ?_
    refine thenK_ret ?_
    first | (refine retK_ret (by simp only [resultsA, resultA, S0, Nat.reduceEqDiff, reduceIte]; rfl) ?_) | (refine retK_ret (by simp only [resultsA, resultA, S0, S1, decide_true, decide_false, Nat.reduceEqDiff, reduceIte, Int.reduceEq, Int.reduceLT, Int.reduceLE, *]; rfl) ?_)
    refine ⟨?_, rfl⟩
    rw [decide_eq_false (fun e => hb (by rw [e]))]; rfl
  refine WX.skip ?_
  refine thenK_normal ?_
  refine WX.seq ?_
  refine WX.seq ?_
  refine WX.region ?_
  refine WO.o (by simp only [aop, S0, Nat.reduceEqDiff, reduceIte]; first | done | with_reducible rfl) ?_
  refine WO.nil ?_
  refine thenK_normal ?_
  refine WX.block ?_
  have hb' : l.length = k.length := by omega
  refine WX.loop (fun k => l.length - k) (fun i t h1 => h = h1 ∧ tmGet t 0 = v ∧ tmGet t 1 = w ∧ tmGet t 5 = I i ∧ i ≤ l.length ∧ ∀ j, j < i → l.getD j 0 = k.getD j 0) 0 ?_ ?_
  · refine ⟨rfl, (by first | (simp only [S0, Nat.reduceEqDiff, reduceIte]; first | done | rfl) | (simp only [S0, S1, decide_true, decide_false, Nat.reduceEqDiff, reduceIte, Int.reduceEq, Int.reduceLT, Int.reduceLE, *]; first | done | rfl)), (by first | (simp only [S0, Nat.reduceEqDiff, reduceIte]; first | done | rfl) | (simp only [S0, S1, decide_true, decide_false, Nat.reduceEqDiff, reduceIte, Int.reduceEq, Int.reduceLT, Int.reduceLE, *]; first | done | rfl)), (by first | (simp only [S0, Nat.reduceEqDiff, reduceIte]; first | done | rfl) | (simp only [S0, S1, decide_true, decide_false, Nat.reduceEqDiff, reduceIte, Int.reduceEq, Int.reduceLT, Int.reduceLE, *]; first | done | rfl)), Nat.zero_le _, fun i hi => by omega⟩
  rintro i t _ ⟨rfl, s0, s1, s5, hi, hm⟩
  refine WX.seq ?_
  refine WX.seq ?_
  refine WX.region ?_
  refine WO.o (by simp only [aop, S0, Nat.reduceEqDiff, reduceIte, s5]; first | done | with_reducible rfl) ?_
  refine WO.o (by simp only [aop, S0, Nat.reduceEqDiff, reduceIte, s0]; first | done | with_reducible rfl) ?_
  refine WO.o (SlI.len' (by first | (simp only [S0, Nat.reduceEqDiff, reduceIte]; first | done | with_reducible rfl) | (simp only [S0, S1, decide_true, decide_false, Nat.reduceEqDiff, reduceIte, Int.reduceEq, Int.reduceLT, Int.reduceLE, *]; first | done | with_reducible rfl)) (by first | assumption | exact SlI.ext (by assumption) (by assumption) | exact OwnI.sl (by assumption) | exact OwnN.sl (by assumption))) ?_
  refine WO.o (by simp only [aop, binV_lss, Option.map_some, S0, Nat.reduceEqDiff, reduceIte]; first | done | with_reducible rfl) ?_
  refine WO.nil ?_
  refine thenK_normal ?_
  refine WX.cond _ (by simp only [S0, Nat.reduceEqDiff, reduceIte, s0, s1, s5]; first | done | with_reducible rfl) (fun hb => ?_) (fun hb => ?_) <;> (try simp only [Bool.or_eq_true, Bool.and_eq_true, Bool.or_eq_false_iff, Bool.and_eq_false_iff, Bool.not_eq_true', Bool.not_eq_false', decide_eq_true_eq, decide_eq_false_iff_not, Int.not_lt, Int.not_le] at hb)
  · refine WX.skip ?_
    refine thenK_normal ?_
    refine WX.seq ?_
    refine WX.block ?_
    refine WX.seq ?_
    refine WX.regionC_quiet rfl ?_
    refine WO.o (by simp only [aop, S0, Nat.reduceEqDiff, reduceIte, s0]; first | done | with_reducible rfl) ?_
    refine WO.o (by simp only [aop, S0, Nat.reduceEqDiff, reduceIte, s5]; first | done | with_reducible rfl) ?_
    refine WO.o (SlI.idx' (by first | (simp only [S0, Nat.reduceEqDiff, reduceIte]; first | done | with_reducible rfl) | (simp only [S0, S1, decide_true, decide_false, Nat.reduceEqDiff, reduceIte, Int.reduceEq, Int.reduceLT, Int.reduceLE, *]; first | done | with_reducible rfl)) (by first | (simp only [S0, Nat.reduceEqDiff, reduceIte]; first | done | rfl) | (simp only [S0, S1, decide_true, decide_false, Nat.reduceEqDiff, reduceIte, Int.reduceEq, Int.reduceLT, Int.reduceLE, *]; first | done | rfl)) (by first | assumption | exact SlI.ext (by assumption) (by assumption) | exact OwnI.sl (by assumption) | exact OwnN.sl (by assumption)) (by first | omega | assumption | (simp only [List.length_map, List.length_set]; omega))) ?_
    first | (refine WO.o (SlI.loadD (by first | (simp only [S0, Nat.reduceEqDiff, reduceIte]; first | done | with_reducible rfl) | (simp only [S0, S1, decide_true, decide_false, Nat.reduceEqDiff, reduceIte, Int.reduceEq, Int.reduceLT, Int.reduceLE, *]; first | done | with_reducible rfl)) (by first | assumption | exact SlI.ext (by assumption) (by assumption) | exact OwnI.sl (by assumption) | exact OwnN.sl (by assumption)) (by first | omega | assumption | (simp only [List.length_map, List.length_set]; omega))) ?_) | (refine WO.o (OwnC.load (by first | (simp only [S0, Nat.reduceEqDiff, reduceIte]; first | done | with_reducible rfl) | (simp only [S0, S1, decide_true, decide_false, Nat.reduceEqDiff, reduceIte, Int.reduceEq, Int.reduceLT, Int.reduceLE, *]; first | done | with_reducible rfl)) (by assumption) rfl) ?_) | (refine WO.o (OwnC.load0 (by first | (simp only [S0, Nat.reduceEqDiff, reduceIte]; first | done | with_reducible rfl) | (simp only [S0, S1, decide_true, decide_false, Nat.reduceEqDiff, reduceIte, Int.reduceEq, Int.reduceLT, Int.reduceLE, *]; first | done | with_reducible rfl)) (by assumption) rfl) ?_)
    refine WO.o (by simp only [aop, S0, Nat.reduceEqDiff, reduceIte, s1]; first | done | with_reducible rfl) ?_
    refine WO.o (by simp only [aop, S0, Nat.reduceEqDiff, reduceIte, s5]; first | done | with_reducible rfl) ?_
    refine WO.o (SlI.idx' (by first | (simp only [S0, Nat.reduceEqDiff, reduceIte]; first | done | with_reducible rfl) | (simp only [S0, S1, decide_true, decide_false, Nat.reduceEqDiff, reduceIte, Int.reduceEq, Int.reduceLT, Int.reduceLE, *]; first | done | with_reducible rfl)) (by first | (simp only [S0, Nat.reduceEqDiff, reduceIte]; first | done | rfl) | (simp only [S0, S1, decide_true, decide_false, Nat.reduceEqDiff, reduceIte, Int.reduceEq, Int.reduceLT, Int.reduceLE, *]; first | done | rfl)) (by first | assumption | exact SlI.ext (by assumption) (by assumption) | exact OwnI.sl (by assumption) | exact OwnN.sl (by assumption)) (by first | omega | assumption | (simp only [List.length_map, List.length_set]; omega))) ?_
    first | (refine WO.o (SlI.loadD (by first | (simp only [S0, Nat.reduceEqDiff, reduceIte]; first | done | with_reducible rfl) | (simp only [S0, S1, decide_true, decide_false, Nat.reduceEqDiff, reduceIte, Int.reduceEq, Int.reduceLT, Int.reduceLE, *]; first | done | with_reducible rfl)) (by first | assumption | exact SlI.ext (by assumption) (by assumption) | exact OwnI.sl (by assumption) | exact OwnN.sl (by assumption)) (by first | omega | assumption | (simp only [List.length_map, List.length_set]; omega))) ?_) | (refine WO.o (OwnC.load (by first | (simp only [S0, Nat.reduceEqDiff, reduceIte]; first | done | with_reducible rfl) | (simp only [S0, S1, decide_true, decide_false, Nat.reduceEqDiff, reduceIte, Int.reduceEq, Int.reduceLT, Int.reduceLE, *]; first | done | with_reducible rfl)) (by assumption) rfl) ?_) | (refine WO.o (OwnC.load0 (by first | (simp only [S0, Nat.reduceEqDiff, reduceIte]; first | done | with_reducible rfl) | (simp only [S0, S1, decide_true, decide_false, Nat.reduceEqDiff, reduceIte, Int.reduceEq, Int.reduceLT, Int.reduceLE, *]; first | done | with_reducible rfl)) (by assumption) rfl) ?_)
    refine WO.o (by simp only [aop, binV_neq, Option.map_some, S0, Nat.reduceEqDiff, reduceIte]; first | done | with_reducible rfl) ?_
    refine WO.nil ?_
    refine thenK_normal ?_
    refine WX.cond _ (by simp only [S0, Nat.reduceEqDiff, reduceIte, s0, s1, s5]; first | done | with_reducible rfl) (fun hb => ?_) (fun hb => ?_) <;> (try simp only [Bool.or_eq_true, Bool.and_eq_true, Bool.or_eq_false_iff, Bool.and_eq_false_iff, Bool.not_eq_true', Bool.not_eq_false', decide_eq_true_eq, decide_eq_false_iff_not, Int.not_lt, Int.not_le] at hb)
    · refine WX.seq ?_
      refine WX.region ?_
      refine WO.o (by simp only [aop, S0, Nat.reduceEqDiff, reduceIte]; first | done | with_reducible rfl) ?_
      refine WO.nil ?_
      refine thenK_normal ?_
      refine WX.ret ?_
      refine blockK_ret ?_
      refine thenK_ret ?_
      refine loopK_ret ?_
      refine blockK_ret ?_
      refine thenK_ret ?_
      first | (refine retK_ret (by simp only [resultsA, resultA, S0, Nat.reduceEqDiff, reduceIte, s0, s1, s5]; rfl) ?_) | (refine retK_ret (by simp only [resultsA, resultA, S0, S1, decide_true, decide_false, Nat.reduceEqDiff, reduceIte, Int.reduceEq, Int.reduceLT, Int.reduceLE, *]; rfl) ?_)
      refine ⟨?_, rfl⟩
      rw [decide_eq_false (fun e => hb (by rw [e]))]; rfl
    · refine WX.skip ?_
      refine blockK_normal ?_
      refine thenK_normal ?_
      refine WX.region ?_
      refine WO.o (by simp only [aop, S0, Nat.reduceEqDiff, reduceIte, s5]; first | done | with_reducible rfl) ?_
      refine WO.o (by simp only [aop, binV_add, Option.map_some, S0, Nat.reduceEqDiff, reduceIte]; first | (rw [wrap64 (by omega) (by omega)]) | with_reducible rfl) ?_
      refine WO.o (by simp only [aop, S0, Nat.reduceEqDiff, reduceIte]; first | done | with_reducible rfl) ?_
      refine WO.nil ?_
      refine loopK_normal (i + 1) (by omega) ⟨rfl, (by first | (simp only [S0, Nat.reduceEqDiff, reduceIte, s0, s1, s5]; first | done | rfl) | (simp only [S0, S1, decide_true, decide_false, Nat.reduceEqDiff, reduceIte, Int.reduceEq, Int.reduceLT, Int.reduceLE, *]; first | done | rfl)), (by first | (simp only [S0, Nat.reduceEqDiff, reduceIte, s0, s1, s5]; first | done | rfl) | (simp only [S0, S1, decide_true, decide_false, Nat.reduceEqDiff, reduceIte, Int.reduceEq, Int.reduceLT, Int.reduceLE, *]; first | done | rfl)), (by first | (simp only [S0, Nat.reduceEqDiff, reduceIte, s0, s1, s5]; first | done | rfl) | (simp only [S0, S1, decide_true, decide_false, Nat.reduceEqDiff, reduceIte, Int.reduceEq, Int.reduceLT, Int.reduceLE, *]; first | done | rfl)), by omega, fun j hj => ?_⟩
      by_cases e : j = i
      · subst e; exact hb
      · exact hm j (by omega)
  · refine WX.exit ?_
    refine thenK_exit ?_
    refine loopK_exit ?_
    refine blockK_exit ?_
    refine thenK_normal ?_
    refine WX.seq ?_
    refine WX.region ?_
    refine WO.o (by simp only [aop, S0, Nat.reduceEqDiff, reduceIte]; first | done | with_reducible rfl) ?_
    refine WO.nil ?_
    refine thenK_normal ?_
    refine WX.ret ?_
    first | (refine retK_ret (by simp only [resultsA, resultA, S0, Nat.reduceEqDiff, reduceIte, s0, s1, s5]; rfl) ?_) | (refine retK_ret (by simp only [resultsA, resultA, S0, S1, decide_true, decide_false, Nat.reduceEqDiff, reduceIte, Int.reduceEq, Int.reduceLT, Int.reduceLE, *]; rfl) ?_)
    refine ⟨?_, rfl⟩
    rw [decide_eq_true (ext_getD hb' fun j hj => hm j (by omega))]; rfl

/-- Things apart. -/
def newOf (n : Nat) : List Int := (List.range n).map fun (i : Nat) => (i : Int)
theorem newOf_succ (n : Nat) : newOf (n + 1) = newOf n ++ [(n : Int)] := by simp [newOf, List.range_succ]
noncomputable def body9_0 : ACode := (.seq (.region [⟨some 13, none, (.bin .lss (.tmp 12) (.tmp 11))⟩]) (.seq (.cond (.tmp 13) .skip (.exit 0)) (.seq (.block 1 (.seq (.region [⟨some 14, none, (.mov (.tmp 12))⟩, ⟨some 4, none, (.mov (.tmp 14))⟩]) (.region [⟨some 15, none, (.mov (.tmp 2))⟩, ⟨some 16, none, (.mov (.tmp 4))⟩, ⟨some 17, none, (.buildSlice 1 1 [(.int .i64 0)] [(0, 1, (.tmp 16))])⟩, ⟨some 18, none, (.append 1 (.tmp 15) (.tmp 17))⟩, ⟨some 2, none, (.mov (.tmp 18))⟩]))) (.region [⟨some 19, none, (.bin .add (.tmp 12) (.const (.int .i64 1)))⟩, ⟨some 12, none, (.mov (.tmp 19))⟩]))))
noncomputable def body9 : ACode := (.seq (.region [⟨some 2, none, (.mov (.const (.slice none 0 0)))⟩, ⟨some 3, none, (.mov (.const (.int .i64 0)))⟩]) (.seq (.seq (.region [⟨some 5, none, (.mov (.tmp 0))⟩, ⟨some 6, none, (.bin .lss (.tmp 5) (.const (.int .i64 0)))⟩, ⟨some 7, none, (.mov (.tmp 6))⟩, ⟨some 8, some (7, false), (.mov (.tmp 0))⟩, ⟨some 9, some (7, false), (.bin .gtr (.tmp 8) (.const (.int .i64 100000)))⟩, ⟨some 10, none, (.pick (.tmp 7) (.const (.bool true)) (.tmp 9))⟩]) (.cond (.tmp 10) (.seq (.region [⟨some 2, none, (.mov (.const (.slice none 0 0)))⟩, ⟨some 3, none, (.mov (.const (.int .i64 2)))⟩]) .ret) .skip)) (.seq (.seq (.region [⟨some 11, none, (.mov (.tmp 0))⟩, ⟨some 12, none, (.mov (.const (.int .i64 0)))⟩]) (.block 0 (.loop body9_0))) (.seq (.region [⟨some 20, none, (.mov (.tmp 2))⟩, ⟨some 2, none, (.mov (.tmp 20))⟩, ⟨some 3, none, (.mov (.const (.int .i64 0)))⟩]) .ret))))
set_option maxRecDepth 100000 in
theorem tab9 : tb.code 9 = some ⟨21, [(2, none), (3, none)], body9⟩ := by kernel_rfl
theorem new_bad (h : AHeap) (n : Int) (hn : n < 0 ∨ 100000 < n) : WC Try.prog tb 9 [I n] h fun r h' => r = .tuple #[.slice none 0 0, I 2] ∧ h = h' := by
  refine WC.of (nostub _ rfl) tab9 ?_
  refine WX.seq ?_
  refine WX.region ?_
  refine WO.o (by simp only [aop, S0, Nat.reduceEqDiff, reduceIte]; first | done | with_reducible rfl) ?_
  refine WO.o (by simp only [aop, S0, Nat.reduceEqDiff, reduceIte]; first | done | with_reducible rfl) ?_
  refine WO.nil ?_
  refine thenK_normal ?_
  refine WX.seq ?_
  refine WX.seq ?_
  refine WX.region ?_
  refine WO.o (by simp only [aop, S0, Nat.reduceEqDiff, reduceIte]; first | done | with_reducible rfl) ?_
  refine WO.o (by simp only [aop, binV_lss, Option.map_some, S0, Nat.reduceEqDiff, reduceIte]; first | done | with_reducible rfl) ?_
  refine WO.o (by simp only [aop, S0, Nat.reduceEqDiff, reduceIte]; first | done | with_reducible rfl) ?_
  first | (refine WO.guard _ _ rfl (by simp only [S0, Nat.reduceEqDiff, reduceIte]; first | done | with_reducible rfl) (fun hb => (by simp only [aop, S0, Nat.reduceEqDiff, reduceIte, hb]; first | done | with_reducible rfl)) ?_) | (refine WO.guardT (by simp only [S0, S1, decide_true, decide_false, Nat.reduceEqDiff, reduceIte, Int.reduceEq, Int.reduceLT, Int.reduceLE, *]; first | done | with_reducible rfl) ?_; refine WO.o (by simp only [aop, S0, Nat.reduceEqDiff, reduceIte]; first | done | with_reducible rfl) ?_) | (refine WO.guardF (by simp only [S0, S1, decide_true, decide_false, Nat.reduceEqDiff, reduceIte, Int.reduceEq, Int.reduceLT, Int.reduceLE, *]; first | done | with_reducible rfl) ?_) | (refine WO.guardU (by simp only [S0, S1, decide_true, decide_false, Nat.reduceEqDiff, reduceIte, Int.reduceEq, Int.reduceLT, Int.reduceLE, *]; first | done | with_reducible rfl) ?_)
  first | (refine WO.guard _ _ rfl (by simp only [S0, Nat.reduceEqDiff, reduceIte]; first | done | with_reducible rfl) (fun hb => (by simp only [aop, binV_gtr, Option.map_some, S0, Nat.reduceEqDiff, reduceIte, hb]; first | done | with_reducible rfl)) ?_) | (refine WO.guardT (by simp only [S0, S1, decide_true, decide_false, Nat.reduceEqDiff, reduceIte, Int.reduceEq, Int.reduceLT, Int.reduceLE, *]; first | done | with_reducible rfl) ?_; refine WO.o (by simp only [aop, binV_gtr, Option.map_some, S0, Nat.reduceEqDiff, reduceIte]; first | done | with_reducible rfl) ?_) | (refine WO.guardF (by simp only [S0, S1, decide_true, decide_false, Nat.reduceEqDiff, reduceIte, Int.reduceEq, Int.reduceLT, Int.reduceLE, *]; first | done | with_reducible rfl) ?_) | (refine WO.guardU (by simp only [S0, S1, decide_true, decide_false, Nat.reduceEqDiff, reduceIte, Int.reduceEq, Int.reduceLT, Int.reduceLE, *]; first | done | with_reducible rfl) ?_)
  refine WO.o (by simp only [aop, pick_or, pick_and, S0, Nat.reduceEqDiff, reduceIte]; first | done | with_reducible rfl) ?_
  refine WO.nil ?_
  refine thenK_normal ?_
  refine WX.cond _ (by simp only [S0, Nat.reduceEqDiff, reduceIte]; first | done | with_reducible rfl) (fun hb => ?_) (fun hb => ?_) <;> (try simp only [Bool.or_eq_true, Bool.and_eq_true, Bool.or_eq_false_iff, Bool.and_eq_false_iff, Bool.not_eq_true', Bool.not_eq_false', decide_eq_true_eq, decide_eq_false_iff_not, Int.not_lt, Int.not_le] at hb)
  · refine WX.seq ?_
    refine WX.region ?_
    refine WO.o (by simp only [aop, S0, Nat.reduceEqDiff, reduceIte]; first | done | with_reducible rfl) ?_
    refine WO.o (by simp only [aop, S0, Nat.reduceEqDiff, reduceIte]; first | done | with_reducible rfl) ?_
    refine WO.nil ?_
    refine thenK_normal ?_
    refine WX.ret ?_
    refine thenK_ret ?_
    first | (refine retK_ret (by simp only [resultsA, resultA, S0, Nat.reduceEqDiff, reduceIte]; rfl) ?_) | (refine retK_ret (by simp only [resultsA, resultA, S0, S1, decide_true, decide_false, Nat.reduceEqDiff, reduceIte, Int.reduceEq, Int.reduceLT, Int.reduceLE, *]; rfl) ?_)
    exact ⟨rfl, rfl⟩
  · omega
theorem new_ok (h : AHeap) (n : Nat) (hn : n ≤ 100000) : WC Try.prog tb 9 [I n] h fun r h' => ∃ v, r = .tuple #[v, I 0] ∧ Ext h h' ∧ OwnN h h' v (newOf n) := by
  refine WC.of (nostub _ rfl) tab9 ?_
  refine WX.seq ?_
  refine WX.region ?_
  refine WO.o (by simp only [aop, S0, Nat.reduceEqDiff, reduceIte]; first | done | with_reducible rfl) ?_
  refine WO.o (by simp only [aop, S0, Nat.reduceEqDiff, reduceIte]; first | done | with_reducible rfl) ?_
  refine WO.nil ?_
  refine thenK_normal ?_
  refine WX.seq ?_
  refine WX.seq ?_
  refine WX.region ?_
  refine WO.o (by simp only [aop, S0, Nat.reduceEqDiff, reduceIte]; first | done | with_reducible rfl) ?_
  refine WO.o (by simp only [aop, binV_lss, Option.map_some, S0, Nat.reduceEqDiff, reduceIte]; first | done | with_reducible rfl) ?_
  refine WO.o (by simp only [aop, S0, Nat.reduceEqDiff, reduceIte]; first | done | with_reducible rfl) ?_
  first | (refine WO.guard _ _ rfl (by simp only [S0, Nat.reduceEqDiff, reduceIte]; first | done | with_reducible rfl) (fun hb => (by simp only [aop, S0, Nat.reduceEqDiff, reduceIte, hb]; first | done | with_reducible rfl)) ?_) | (refine WO.guardT (by simp only [S0, S1, decide_true, decide_false, Nat.reduceEqDiff, reduceIte, Int.reduceEq, Int.reduceLT, Int.reduceLE, *]; first | done | with_reducible rfl) ?_; refine WO.o (by simp only [aop, S0, Nat.reduceEqDiff, reduceIte]; first | done | with_reducible rfl) ?_) | (refine WO.guardF (by simp only [S0, S1, decide_true, decide_false, Nat.reduceEqDiff, reduceIte, Int.reduceEq, Int.reduceLT, Int.reduceLE, *]; first | done | with_reducible rfl) ?_) | (refine WO.guardU (by simp only [S0, S1, decide_true, decide_false, Nat.reduceEqDiff, reduceIte, Int.reduceEq, Int.reduceLT, Int.reduceLE, *]; first | done | with_reducible rfl) ?_)
  first | (refine WO.guard _ _ rfl (by simp only [S0, Nat.reduceEqDiff, reduceIte]; first | done | with_reducible rfl) (fun hb => (by simp only [aop, binV_gtr, Option.map_some, S0, Nat.reduceEqDiff, reduceIte, hb]; first | done | with_reducible rfl)) ?_) | (refine WO.guardT (by simp only [S0, S1, decide_true, decide_false, Nat.reduceEqDiff, reduceIte, Int.reduceEq, Int.reduceLT, Int.reduceLE, *]; first | done | with_reducible rfl) ?_; refine WO.o (by simp only [aop, binV_gtr, Option.map_some, S0, Nat.reduceEqDiff, reduceIte]; first | done | with_reducible rfl) ?_) | (refine WO.guardF (by simp only [S0, S1, decide_true, decide_false, Nat.reduceEqDiff, reduceIte, Int.reduceEq, Int.reduceLT, Int.reduceLE, *]; first | done | with_reducible rfl) ?_) | (refine WO.guardU (by simp only [S0, S1, decide_true, decide_false, Nat.reduceEqDiff, reduceIte, Int.reduceEq, Int.reduceLT, Int.reduceLE, *]; first | done | with_reducible rfl) ?_)
  refine WO.o (by simp only [aop, pick_or, pick_and, S0, Nat.reduceEqDiff, reduceIte]; first | done | with_reducible rfl) ?_
  refine WO.nil ?_
  refine thenK_normal ?_
  refine WX.cond _ (by simp only [S0, Nat.reduceEqDiff, reduceIte]; first | done | with_reducible rfl) (fun hb => ?_) (fun hb => ?_) <;> (try simp only [Bool.or_eq_true, Bool.and_eq_true, Bool.or_eq_false_iff, Bool.and_eq_false_iff, Bool.not_eq_true', Bool.not_eq_false', decide_eq_true_eq, decide_eq_false_iff_not, Int.not_lt, Int.not_le] at hb)
  · omega
  refine WX.skip ?_
  refine thenK_normal ?_
  refine WX.seq ?_
  refine WX.seq ?_
  refine WX.region ?_
  refine WO.o (by simp only [aop, S0, Nat.reduceEqDiff, reduceIte]; first | done | with_reducible rfl) ?_
  refine WO.o (by simp only [aop, S0, Nat.reduceEqDiff, reduceIte]; first | done | with_reducible rfl) ?_
  refine WO.nil ?_
  refine thenK_normal ?_
  refine WX.block ?_
  refine WX.loop (fun k => n - k) (fun k t h1 => Ext h h1 ∧ tmGet t 11 = I n ∧ tmGet t 12 = I k ∧ k ≤ n ∧ OwnN h h1 (tmGet t 2) (newOf k)) 0 ?_ ?_
  · refine ⟨Ext.refl h, (by first | (simp only [S0, Nat.reduceEqDiff, reduceIte]; first | done | rfl) | (simp only [S0, S1, decide_true, decide_false, Nat.reduceEqDiff, reduceIte, Int.reduceEq, Int.reduceLT, Int.reduceLE, *]; first | done | rfl)), (by first | (simp only [S0, Nat.reduceEqDiff, reduceIte]; first | done | rfl) | (simp only [S0, S1, decide_true, decide_false, Nat.reduceEqDiff, reduceIte, Int.reduceEq, Int.reduceLT, Int.reduceLE, *]; first | done | rfl)), Nat.zero_le _, .inl ⟨(by first | (simp only [S0, Nat.reduceEqDiff, reduceIte]; first | done | rfl) | (simp only [S0, S1, decide_true, decide_false, Nat.reduceEqDiff, reduceIte, Int.reduceEq, Int.reduceLT, Int.reduceLE, *]; first | done | rfl)), by simp [newOf]⟩⟩
  rintro k t h1 ⟨e0, s11, s12, hk, o⟩
  generalize s2 : tmGet t 2 = v2 at o
  refine WX.seq ?_
  refine WX.region ?_
  refine WO.o (by simp only [aop, binV_lss, Option.map_some, S0, Nat.reduceEqDiff, reduceIte, s11, s12]; first | done | with_reducible rfl) ?_
  refine WO.nil ?_
  refine thenK_normal ?_
  refine WX.seq ?_
  refine WX.cond _ (by simp only [S0, Nat.reduceEqDiff, reduceIte, s11, s12, s2]; first | done | with_reducible rfl) (fun hb => ?_) (fun hb => ?_) <;> (try simp only [Bool.or_eq_true, Bool.and_eq_true, Bool.or_eq_false_iff, Bool.and_eq_false_iff, Bool.not_eq_true', Bool.not_eq_false', decide_eq_true_eq, decide_eq_false_iff_not, Int.not_lt, Int.not_le] at hb)
  · refine WX.skip ?_
    refine thenK_normal ?_
    refine WX.seq ?_
    refine WX.block ?_
    refine WX.seq ?_
    refine WX.region ?_
    refine WO.o (by simp only [aop, S0, Nat.reduceEqDiff, reduceIte, s12]; first | done | with_reducible rfl) ?_
    refine WO.o (by simp only [aop, S0, Nat.reduceEqDiff, reduceIte]; first | done | with_reducible rfl) ?_
    refine WO.nil ?_
    refine thenK_normal ?_
    refine WX.region ?_
    refine WO.o (by simp only [aop, S0, Nat.reduceEqDiff, reduceIte, s2]; first | done | with_reducible rfl) ?_
    refine WO.o (by simp only [aop, S0, Nat.reduceEqDiff, reduceIte]; first | done | with_reducible rfl) ?_
    refine WO.buildI [(k : Int)] rfl (by first | rfl | (simp only [evParts, fillA, repl, putAt, List.map, S0, Nat.reduceEqDiff, reduceIte]; rfl)) ?_
    intro v17 h17 e17 o17
    have e17' := e0.trans e17
    have o' := o.ext e17
    refine WO.appendI (by first | (simp only [S0, Nat.reduceEqDiff, reduceIte]; first | done | with_reducible rfl) | (simp only [S0, S1, decide_true, decide_false, Nat.reduceEqDiff, reduceIte, Int.reduceEq, Int.reduceLT, Int.reduceLE, *]; first | done | with_reducible rfl)) (by first | (simp only [S0, Nat.reduceEqDiff, reduceIte]; first | done | with_reducible rfl) | (simp only [S0, S1, decide_true, decide_false, Nat.reduceEqDiff, reduceIte, Int.reduceEq, Int.reduceLT, Int.reduceLE, *]; first | done | with_reducible rfl)) (by assumption) (by first | assumption | exact SlI.ext (by assumption) (by assumption) | exact OwnI.sl (by assumption) | exact OwnN.sl (by assumption)) (by assumption) (by simp) (by simp [newOf]; omega) ?_
    intro v18 h18 e18 o18 _
    refine WO.o (by simp only [aop, S0, Nat.reduceEqDiff, reduceIte]; first | done | with_reducible rfl) ?_
    refine WO.nil ?_
    refine blockK_normal ?_
    refine thenK_normal ?_
    refine WX.region ?_
    refine WO.o (by simp only [aop, binV_add, Option.map_some, S0, Nat.reduceEqDiff, reduceIte, s12]; first | (rw [wrap64 (by omega) (by omega)]) | with_reducible rfl) ?_
    refine WO.o (by simp only [aop, S0, Nat.reduceEqDiff, reduceIte]; first | done | with_reducible rfl) ?_
    refine WO.nil ?_
    refine loopK_normal (k + 1) (by omega) ⟨e18, (by first | (simp only [S0, Nat.reduceEqDiff, reduceIte, s11, s12, s2]; first | done | rfl) | (simp only [S0, S1, decide_true, decide_false, Nat.reduceEqDiff, reduceIte, Int.reduceEq, Int.reduceLT, Int.reduceLE, *]; first | done | rfl)), (by first | (simp only [S0, Nat.reduceEqDiff, reduceIte, s11, s12, s2]; first | done | rfl) | (simp only [S0, S1, decide_true, decide_false, Nat.reduceEqDiff, reduceIte, Int.reduceEq, Int.reduceLT, Int.reduceLE, *]; first | done | rfl)), by omega, ?_⟩
    rw [newOf_succ]
    have : ∀ x, x = v18 → OwnN h h18 x (newOf k ++ [(k : Int)]) := fun x e => by rw [e]; exact .inr o18
    exact this _ (by first | (simp only [S0, Nat.reduceEqDiff, reduceIte, s11, s12, s2]; first | done | rfl) | (simp only [S0, S1, decide_true, decide_false, Nat.reduceEqDiff, reduceIte, Int.reduceEq, Int.reduceLT, Int.reduceLE, *]; first | done | rfl))
  · refine WX.exit ?_
    refine thenK_exit ?_
    refine loopK_exit ?_
    refine blockK_exit ?_
    refine thenK_normal ?_
    refine WX.seq ?_
    refine WX.region ?_
    refine WO.o (by simp only [aop, S0, Nat.reduceEqDiff, reduceIte, s2]; first | done | with_reducible rfl) ?_
    refine WO.o (by simp only [aop, S0, Nat.reduceEqDiff, reduceIte]; first | done | with_reducible rfl) ?_
    refine WO.o (by simp only [aop, S0, Nat.reduceEqDiff, reduceIte]; first | done | with_reducible rfl) ?_
    refine WO.nil ?_
    refine thenK_normal ?_
    refine WX.ret ?_
    first | (refine retK_ret (by simp only [resultsA, resultA, S0, Nat.reduceEqDiff, reduceIte, s11, s12, s2]; rfl) ?_) | (refine retK_ret (by simp only [resultsA, resultA, S0, S1, decide_true, decide_false, Nat.reduceEqDiff, reduceIte, Int.reduceEq, Int.reduceLT, Int.reduceLE, *]; rfl) ?_)
    have : k = n := by omega
    subst this
    exact ⟨_, rfl, e0, o⟩

noncomputable def body10_0 : ACode := (.seq (.seq (.region [⟨some 14, none, (.mov (.tmp 5))⟩, ⟨some 15, none, (.mov (.tmp 0))⟩, ⟨some 16, none, (.bin .lss (.tmp 14) (.tmp 15))⟩]) (.cond (.tmp 16) .skip (.exit 0))) (.seq (.block 1 (.region [⟨some 19, none, (.mov (.tmp 4))⟩, ⟨some 20, none, (.mov (.tmp 5))⟩, ⟨some 21, none, (.mov (.tmp 5))⟩, ⟨some 22, none, (.idx 1 (.tmp 19) (.tmp 20))⟩, ⟨none, none, (.store 1 (.tmp 22) (.tmp 21))⟩])) (.region [⟨some 17, none, (.mov (.tmp 5))⟩, ⟨some 18, none, (.bin .add (.tmp 17) (.const (.int .i64 1)))⟩, ⟨some 5, none, (.mov (.tmp 18))⟩])))
noncomputable def body10 : ACode := (.seq (.region [⟨some 2, none, (.mov (.const (.slice none 0 0)))⟩, ⟨some 3, none, (.mov (.const (.int .i64 0)))⟩]) (.seq (.seq (.region [⟨some 6, none, (.mov (.tmp 0))⟩, ⟨some 7, none, (.bin .lss (.tmp 6) (.const (.int .i64 0)))⟩, ⟨some 8, none, (.mov (.tmp 7))⟩, ⟨some 9, some (8, false), (.mov (.tmp 0))⟩, ⟨some 10, some (8, false), (.bin .gtr (.tmp 9) (.const (.int .i64 100000)))⟩, ⟨some 11, none, (.pick (.tmp 8) (.const (.bool true)) (.tmp 10))⟩]) (.cond (.tmp 11) (.seq (.region [⟨some 2, none, (.mov (.const (.slice none 0 0)))⟩, ⟨some 3, none, (.mov (.const (.int .i64 2)))⟩]) .ret) .skip)) (.seq (.region [⟨some 12, none, (.mov (.tmp 0))⟩, ⟨some 13, none, (.mkSlice 1 [(.int .i64 0)] (.tmp 12) (.tmp 12))⟩, ⟨some 4, none, (.mov (.tmp 13))⟩]) (.seq (.seq (.region [⟨some 5, none, (.mov (.const (.int .i64 0)))⟩]) (.block 0 (.loop body10_0))) (.seq (.region [⟨some 23, none, (.mov (.tmp 4))⟩, ⟨some 2, none, (.mov (.tmp 23))⟩, ⟨some 3, none, (.mov (.const (.int .i64 0)))⟩]) .ret)))))
set_option maxRecDepth 100000 in
theorem tab10 : tb.code 10 = some ⟨24, [(2, none), (3, none)], body10⟩ := by kernel_rfl
theorem rnew_bad (h : AHeap) (n : Int) (hn : n < 0 ∨ 100000 < n) : WC Try.prog tb 10 [I n] h fun r h' => r = .tuple #[.slice none 0 0, I 2] ∧ h = h' := by
  refine WC.of (nostub _ rfl) tab10 ?_
  refine WX.seq ?_
  refine WX.region ?_
  refine WO.o (by simp only [aop, S0, Nat.reduceEqDiff, reduceIte]; first | done | with_reducible rfl) ?_
  refine WO.o (by simp only [aop, S0, Nat.reduceEqDiff, reduceIte]; first | done | with_reducible rfl) ?_
  refine WO.nil ?_
  refine thenK_normal ?_
  refine WX.seq ?_
  refine WX.seq ?_
  refine WX.region ?_
  refine WO.o (by simp only [aop, S0, Nat.reduceEqDiff, reduceIte]; first | done | with_reducible rfl) ?_
  refine WO.o (by simp only [aop, binV_lss, Option.map_some, S0, Nat.reduceEqDiff, reduceIte]; first | done | with_reducible rfl) ?_
  refine WO.o (by simp only [aop, S0, Nat.reduceEqDiff, reduceIte]; first | done | with_reducible rfl) ?_
  first | (refine WO.guard _ _ rfl (by simp only [S0, Nat.reduceEqDiff, reduceIte]; first | done | with_reducible rfl) (fun hb => (by simp only [aop, S0, Nat.reduceEqDiff, reduceIte, hb]; first | done | with_reducible rfl)) ?_) | (refine WO.guardT (by simp only [S0, S1, decide_true, decide_false, Nat.reduceEqDiff, reduceIte, Int.reduceEq, Int.reduceLT, Int.reduceLE, *]; first | done | with_reducible rfl) ?_; refine WO.o (by simp only [aop, S0, Nat.reduceEqDiff, reduceIte]; first | done | with_reducible rfl) ?_) | (refine WO.guardF (by simp only [S0, S1, decide_true, decide_false, Nat.reduceEqDiff, reduceIte, Int.reduceEq, Int.reduceLT, Int.reduceLE, *]; first | done | with_reducible rfl) ?_) | (refine WO.guardU (by simp only [S0, S1, decide_true, decide_false, Nat.reduceEqDiff, reduceIte, Int.reduceEq, Int.reduceLT, Int.reduceLE, *]; first | done | with_reducible rfl) ?_)
  first | (refine WO.guard _ _ rfl (by simp only [S0, Nat.reduceEqDiff, reduceIte]; first | done | with_reducible rfl) (fun hb => (by simp only [aop, binV_gtr, Option.map_some, S0, Nat.reduceEqDiff, reduceIte, hb]; first | done | with_reducible rfl)) ?_) | (refine WO.guardT (by simp only [S0, S1, decide_true, decide_false, Nat.reduceEqDiff, reduceIte, Int.reduceEq, Int.reduceLT, Int.reduceLE, *]; first | done | with_reducible rfl) ?_; refine WO.o (by simp only [aop, binV_gtr, Option.map_some, S0, Nat.reduceEqDiff, reduceIte]; first | done | with_reducible rfl) ?_) | (refine WO.guardF (by simp only [S0, S1, decide_true, decide_false, Nat.reduceEqDiff, reduceIte, Int.reduceEq, Int.reduceLT, Int.reduceLE, *]; first | done | with_reducible rfl) ?_) | (refine WO.guardU (by simp only [S0, S1, decide_true, decide_false, Nat.reduceEqDiff, reduceIte, Int.reduceEq, Int.reduceLT, Int.reduceLE, *]; first | done | with_reducible rfl) ?_)
  refine WO.o (by simp only [aop, pick_or, pick_and, S0, Nat.reduceEqDiff, reduceIte]; first | done | with_reducible rfl) ?_
  refine WO.nil ?_
  refine thenK_normal ?_
  refine WX.cond _ (by simp only [S0, Nat.reduceEqDiff, reduceIte]; first | done | with_reducible rfl) (fun hb => ?_) (fun hb => ?_) <;> (try simp only [Bool.or_eq_true, Bool.and_eq_true, Bool.or_eq_false_iff, Bool.and_eq_false_iff, Bool.not_eq_true', Bool.not_eq_false', decide_eq_true_eq, decide_eq_false_iff_not, Int.not_lt, Int.not_le] at hb)
  · refine WX.seq ?_
    refine WX.region ?_
    refine WO.o (by simp only [aop, S0, Nat.reduceEqDiff, reduceIte]; first | done | with_reducible rfl) ?_
    refine WO.o (by simp only [aop, S0, Nat.reduceEqDiff, reduceIte]; first | done | with_reducible rfl) ?_
    refine WO.nil ?_
    refine thenK_normal ?_
    refine WX.ret ?_
    refine thenK_ret ?_
    first | (refine retK_ret (by simp only [resultsA, resultA, S0, Nat.reduceEqDiff, reduceIte]; rfl) ?_) | (refine retK_ret (by simp only [resultsA, resultA, S0, S1, decide_true, decide_false, Nat.reduceEqDiff, reduceIte, Int.reduceEq, Int.reduceLT, Int.reduceLE, *]; rfl) ?_)
    exact ⟨rfl, rfl⟩
  · omega
theorem rnew_ok (h : AHeap) (n : Nat) (hn : n ≤ 100000) : WC Try.prog tb 10 [I n] h fun r h' => ∃ v, r = .tuple #[v, I 0] ∧ Ext h h' ∧ OwnN h h' v (newOf n) := by
  refine WC.of (nostub _ rfl) tab10 ?_
  refine WX.seq ?_
  refine WX.region ?_
  refine WO.o (by simp only [aop, S0, Nat.reduceEqDiff, reduceIte]; first | done | with_reducible rfl) ?_
  refine WO.o (by simp only [aop, S0, Nat.reduceEqDiff, reduceIte]; first | done | with_reducible rfl) ?_
  refine WO.nil ?_
  refine thenK_normal ?_
  refine WX.seq ?_
  refine WX.seq ?_
  refine WX.region ?_
  refine WO.o (by simp only [aop, S0, Nat.reduceEqDiff, reduceIte]; first | done | with_reducible rfl) ?_
  refine WO.o (by simp only [aop, binV_lss, Option.map_some, S0, Nat.reduceEqDiff, reduceIte]; first | done | with_reducible rfl) ?_
  refine WO.o (by simp only [aop, S0, Nat.reduceEqDiff, reduceIte]; first | done | with_reducible rfl) ?_
  first | (refine WO.guard _ _ rfl (by simp only [S0, Nat.reduceEqDiff, reduceIte]; first | done | with_reducible rfl) (fun hb => (by simp only [aop, S0, Nat.reduceEqDiff, reduceIte, hb]; first | done | with_reducible rfl)) ?_) | (refine WO.guardT (by simp only [S0, S1, decide_true, decide_false, Nat.reduceEqDiff, reduceIte, Int.reduceEq, Int.reduceLT, Int.reduceLE, *]; first | done | with_reducible rfl) ?_; refine WO.o (by simp only [aop, S0, Nat.reduceEqDiff, reduceIte]; first | done | with_reducible rfl) ?_) | (refine WO.guardF (by simp only [S0, S1, decide_true, decide_false, Nat.reduceEqDiff, reduceIte, Int.reduceEq, Int.reduceLT, Int.reduceLE, *]; first | done | with_reducible rfl) ?_) | (refine WO.guardU (by simp only [S0, S1, decide_true, decide_false, Nat.reduceEqDiff, reduceIte, Int.reduceEq, Int.reduceLT, Int.reduceLE, *]; first | done | with_reducible rfl) ?_)
  first | (refine WO.guard _ _ rfl (by simp only [S0, Nat.reduceEqDiff, reduceIte]; first | done | with_reducible rfl) (fun hb => (by simp only [aop, binV_gtr, Option.map_some, S0, Nat.reduceEqDiff, reduceIte, hb]; first | done | with_reducible rfl)) ?_) | (refine WO.guardT (by simp only [S0, S1, decide_true, decide_false, Nat.reduceEqDiff, reduceIte, Int.reduceEq, Int.reduceLT, Int.reduceLE, *]; first | done | with_reducible rfl) ?_; refine WO.o (by simp only [aop, binV_gtr, Option.map_some, S0, Nat.reduceEqDiff, reduceIte]; first | done | with_reducible rfl) ?_) | (refine WO.guardF (by simp only [S0, S1, decide_true, decide_false, Nat.reduceEqDiff, reduceIte, Int.reduceEq, Int.reduceLT, Int.reduceLE, *]; first | done | with_reducible rfl) ?_) | (refine WO.guardU (by simp only [S0, S1, decide_true, decide_false, Nat.reduceEqDiff, reduceIte, Int.reduceEq, Int.reduceLT, Int.reduceLE, *]; first | done | with_reducible rfl) ?_)
  refine WO.o (by simp only [aop, pick_or, pick_and, S0, Nat.reduceEqDiff, reduceIte]; first | done | with_reducible rfl) ?_
  refine WO.nil ?_
  refine thenK_normal ?_
  refine WX.cond _ (by simp only [S0, Nat.reduceEqDiff, reduceIte]; first | done | with_reducible rfl) (fun hb => ?_) (fun hb => ?_) <;> (try simp only [Bool.or_eq_true, Bool.and_eq_true, Bool.or_eq_false_iff, Bool.and_eq_false_iff, Bool.not_eq_true', Bool.not_eq_false', decide_eq_true_eq, decide_eq_false_iff_not, Int.not_lt, Int.not_le] at hb)
  · omega
  refine WX.skip ?_
  refine thenK_normal ?_
  refine WX.seq ?_
  refine WX.region ?_
  refine WO.o (by simp only [aop, S0, Nat.reduceEqDiff, reduceIte]; first | done | with_reducible rfl) ?_
  refine WO.mkI n (by first | (simp only [S0, Nat.reduceEqDiff, reduceIte]; first | done | rfl) | (simp only [S0, S1, decide_true, decide_false, Nat.reduceEqDiff, reduceIte, Int.reduceEq, Int.reduceLT, Int.reduceLE, *]; first | done | rfl)) (by first | (simp only [S0, Nat.reduceEqDiff, reduceIte]; first | done | rfl) | (simp only [S0, S1, decide_true, decide_false, Nat.reduceEqDiff, reduceIte, Int.reduceEq, Int.reduceLT, Int.reduceLE, *]; first | done | rfl)) (by first | omega | assumption | (simp only [List.length_map, List.length_set]; omega)) ?_
  intro v13 h13 e13 o13
  refine WO.o (by simp only [aop, S0, Nat.reduceEqDiff, reduceIte]; first | done | with_reducible rfl) ?_
  refine WO.nil ?_
  refine thenK_normal ?_
  refine WX.seq ?_
  refine WX.seq ?_
  refine WX.region ?_
  refine WO.o (by simp only [aop, S0, Nat.reduceEqDiff, reduceIte]; first | done | with_reducible rfl) ?_
  refine WO.nil ?_
  refine thenK_normal ?_
  refine WX.block ?_
  refine WX.loop (fun k => n - k) (fun k t h1 => Ext h h1 ∧ tmGet t 0 = I n ∧ tmGet t 5 = I k ∧ k ≤ n ∧ tmGet t 4 = v13 ∧ OwnI h h1 v13 (part (fun i => (i : Int)) n k)) 0 ?_ ?_
  · refine ⟨e13, (by first | (simp only [S0, Nat.reduceEqDiff, reduceIte]; first | done | rfl) | (simp only [S0, S1, decide_true, decide_false, Nat.reduceEqDiff, reduceIte, Int.reduceEq, Int.reduceLT, Int.reduceLE, *]; first | done | rfl)), (by first | (simp only [S0, Nat.reduceEqDiff, reduceIte]; first | done | rfl) | (simp only [S0, S1, decide_true, decide_false, Nat.reduceEqDiff, reduceIte, Int.reduceEq, Int.reduceLT, Int.reduceLE, *]; first | done | rfl)), Nat.zero_le _, (by first | (simp only [S0, Nat.reduceEqDiff, reduceIte]; first | done | rfl) | (simp only [S0, S1, decide_true, decide_false, Nat.reduceEqDiff, reduceIte, Int.reduceEq, Int.reduceLT, Int.reduceLE, *]; first | done | rfl)), by rw [part_zero]; exact o13⟩
  rintro k t h1 ⟨e0, s0, s5, hk, s4, o⟩
  refine WX.seq ?_
  refine WX.seq ?_
  refine WX.region ?_
  refine WO.o (by simp only [aop, S0, Nat.reduceEqDiff, reduceIte, s5]; first | done | with_reducible rfl) ?_
  refine WO.o (by simp only [aop, S0, Nat.reduceEqDiff, reduceIte, s0]; first | done | with_reducible rfl) ?_
  refine WO.o (by simp only [aop, binV_lss, Option.map_some, S0, Nat.reduceEqDiff, reduceIte]; first | done | with_reducible rfl) ?_
  refine WO.nil ?_
  refine thenK_normal ?_
  refine WX.cond _ (by simp only [S0, Nat.reduceEqDiff, reduceIte, s0, s5, s4]; first | done | with_reducible rfl) (fun hb => ?_) (fun hb => ?_) <;> (try simp only [Bool.or_eq_true, Bool.and_eq_true, Bool.or_eq_false_iff, Bool.and_eq_false_iff, Bool.not_eq_true', Bool.not_eq_false', decide_eq_true_eq, decide_eq_false_iff_not, Int.not_lt, Int.not_le] at hb)
  · have hlen : k < (part (fun i => (i : Int)) n k).length := by rw [part_len hk]; omega
    refine WX.skip ?_
    refine thenK_normal ?_
    refine WX.seq ?_
    refine WX.block ?_
    refine WX.region ?_
    refine WO.o (by simp only [aop, S0, Nat.reduceEqDiff, reduceIte, s4]; first | done | with_reducible rfl) ?_
    refine WO.o (by simp only [aop, S0, Nat.reduceEqDiff, reduceIte, s5]; first | done | with_reducible rfl) ?_
    refine WO.o (by simp only [aop, S0, Nat.reduceEqDiff, reduceIte, s5]; first | done | with_reducible rfl) ?_
    refine WO.o (SlI.idx' (by first | (simp only [S0, Nat.reduceEqDiff, reduceIte]; first | done | with_reducible rfl) | (simp only [S0, S1, decide_true, decide_false, Nat.reduceEqDiff, reduceIte, Int.reduceEq, Int.reduceLT, Int.reduceLE, *]; first | done | with_reducible rfl)) (by first | (simp only [S0, Nat.reduceEqDiff, reduceIte]; first | done | rfl) | (simp only [S0, S1, decide_true, decide_false, Nat.reduceEqDiff, reduceIte, Int.reduceEq, Int.reduceLT, Int.reduceLE, *]; first | done | rfl)) (by first | assumption | exact SlI.ext (by assumption) (by assumption) | exact OwnI.sl (by assumption) | exact OwnN.sl (by assumption)) (by first | omega | assumption | (simp only [List.length_map, List.length_set]; omega))) ?_
    refine WO.storeI (by first | (simp only [S0, Nat.reduceEqDiff, reduceIte]; first | done | with_reducible rfl) | (simp only [S0, S1, decide_true, decide_false, Nat.reduceEqDiff, reduceIte, Int.reduceEq, Int.reduceLT, Int.reduceLE, *]; first | done | with_reducible rfl)) (by first | (simp only [S0, Nat.reduceEqDiff, reduceIte]; first | done | with_reducible rfl) | (simp only [S0, S1, decide_true, decide_false, Nat.reduceEqDiff, reduceIte, Int.reduceEq, Int.reduceLT, Int.reduceLE, *]; first | done | with_reducible rfl)) (by assumption) (by assumption) (by first | omega | assumption | (simp only [List.length_map, List.length_set]; omega)) ?_
    intro h2 e2 o2 _
    refine WO.nil ?_
    refine blockK_normal ?_
    refine thenK_normal ?_
    refine WX.region ?_
    refine WO.o (by simp only [aop, S0, Nat.reduceEqDiff, reduceIte, s5]; first | done | with_reducible rfl) ?_
    refine WO.o (by simp only [aop, binV_add, Option.map_some, S0, Nat.reduceEqDiff, reduceIte]; first | (rw [wrap64 (by omega) (by omega)]) | with_reducible rfl) ?_
    refine WO.o (by simp only [aop, S0, Nat.reduceEqDiff, reduceIte]; first | done | with_reducible rfl) ?_
    refine WO.nil ?_
    rw [part_set (f := fun i => (i : Int)) (by omega)] at o2
    exact loopK_normal (k + 1) (by omega) ⟨e2, (by first | (simp only [S0, Nat.reduceEqDiff, reduceIte, s0, s5, s4]; first | done | rfl) | (simp only [S0, S1, decide_true, decide_false, Nat.reduceEqDiff, reduceIte, Int.reduceEq, Int.reduceLT, Int.reduceLE, *]; first | done | rfl)), (by first | (simp only [S0, Nat.reduceEqDiff, reduceIte, s0, s5, s4]; first | done | rfl) | (simp only [S0, S1, decide_true, decide_false, Nat.reduceEqDiff, reduceIte, Int.reduceEq, Int.reduceLT, Int.reduceLE, *]; first | done | rfl)), by omega, (by first | (simp only [S0, Nat.reduceEqDiff, reduceIte, s0, s5, s4]; first | done | rfl) | (simp only [S0, S1, decide_true, decide_false, Nat.reduceEqDiff, reduceIte, Int.reduceEq, Int.reduceLT, Int.reduceLE, *]; first | done | rfl)), o2⟩
  · refine WX.exit ?_
    refine thenK_exit ?_
    refine loopK_exit ?_
    refine blockK_exit ?_
    refine thenK_normal ?_
    refine WX.seq ?_
    refine WX.region ?_
    refine WO.o (by simp only [aop, S0, Nat.reduceEqDiff, reduceIte, s4]; first | done | with_reducible rfl) ?_
    refine WO.o (by simp only [aop, S0, Nat.reduceEqDiff, reduceIte]; first | done | with_reducible rfl) ?_
    refine WO.o (by simp only [aop, S0, Nat.reduceEqDiff, reduceIte]; first | done | with_reducible rfl) ?_
    refine WO.nil ?_
    refine thenK_normal ?_
    refine WX.ret ?_
    first | (refine retK_ret (by simp only [resultsA, resultA, S0, Nat.reduceEqDiff, reduceIte, s0, s5, s4]; rfl) ?_) | (refine retK_ret (by simp only [resultsA, resultA, S0, S1, decide_true, decide_false, Nat.reduceEqDiff, reduceIte, Int.reduceEq, Int.reduceLT, Int.reduceLE, *]; rfl) ?_)
    have : k = n := by omega
    subst this
    refine ⟨v13, rfl, e0, .inr ?_⟩
    rw [part_all] at o; exact o

noncomputable def body27_0 : ACode := (.seq (.region [⟨some 24, none, (.bin .lss (.tmp 23) (.tmp 22))⟩]) (.seq (.cond (.tmp 24) .skip (.exit 0)) (.seq (.block 1 (.seq (.region [⟨some 25, none, (.mov (.tmp 23))⟩, ⟨some 26, none, (.idx 1 (.tmp 21) (.tmp 23))⟩, ⟨some 27, none, (.load false 1 (.tmp 26))⟩, ⟨some 9, none, (.mov (.tmp 25))⟩, ⟨some 10, none, (.mov (.tmp 27))⟩]) (.seq (.region [⟨some 28, none, (.mov (.tmp 8))⟩, ⟨some 29, none, (.mov (.tmp 9))⟩, ⟨some 30, none, (.mov (.tmp 9))⟩, ⟨some 31, none, (.idx 1 (.tmp 28) (.tmp 29))⟩, ⟨none, none, (.store 1 (.tmp 31) (.tmp 30))⟩]) (.seq (.seq (.region [⟨some 32, none, (.mov (.tmp 10))⟩, ⟨some 33, none, (.mov (.tmp 9))⟩, ⟨some 34, none, (.bin .neq (.tmp 32) (.tmp 33))⟩]) (.cond (.tmp 34) (.region [⟨some 35, none, (.mov (.tmp 8))⟩, ⟨some 36, none, (.mov (.tmp 9))⟩, ⟨some 37, none, (.mov (.tmp 8))⟩, ⟨some 38, none, (.mov (.tmp 10))⟩, ⟨some 39, none, (.idx 1 (.tmp 37) (.tmp 38))⟩, ⟨some 40, none, (.load false 1 (.tmp 39))⟩, ⟨some 41, none, (.idx 1 (.tmp 35) (.tmp 36))⟩, ⟨none, none, (.store 1 (.tmp 41) (.tmp 40))⟩]) .skip)) (.seq (.region [⟨some 43, none, (.mov (.tmp 7))⟩, ⟨some 44, none, (.mov (.tmp 8))⟩, ⟨some 45, none, (.mov (.tmp 9))⟩, ⟨some 46, none, (.idx 1 (.tmp 44) (.tmp 45))⟩, ⟨some 47, none, (.load false 1 (.tmp 46))⟩, ⟨some 48, none, (.lookup true (.int .i64 0) (.tmp 43) (.tmp 47))⟩, ⟨some 42, none, (.mov (.tmp 48))⟩, ⟨some 49, none, (.extract (.tmp 42) 0)⟩, ⟨some 50, none, (.extract (.tmp 42) 1)⟩, ⟨some 11, none, (.mov (.tmp 49))⟩, ⟨some 12, none, (.mov (.tmp 50))⟩]) (.seq (.region [⟨some 51, none, (.mov (.tmp 12))⟩]) (.cond (.tmp 51) (.region [⟨some 52, none, (.mov (.tmp 8))⟩, ⟨some 53, none, (.mov (.tmp 9))⟩, ⟨some 54, none, (.mov (.tmp 11))⟩, ⟨some 55, none, (.idx 1 (.tmp 52) (.tmp 53))⟩, ⟨none, none, (.store 1 (.tmp 55) (.tmp 54))⟩]) .skip))))))) (.region [⟨some 56, none, (.bin .add (.tmp 23) (.const (.int .i64 1)))⟩, ⟨some 23, none, (.mov (.tmp 56))⟩]))))
noncomputable def body27 : ACode := (.seq (.region [⟨some 6, none, (.mov (.const (.slice none 0 0)))⟩]) (.seq (.region [⟨some 13, none, .mkMap⟩, ⟨some 14, none, (.mov (.tmp 1))⟩, ⟨some 15, none, (.mov (.tmp 2))⟩, ⟨none, none, (.update (.tmp 13) (.tmp 14) (.tmp 15))⟩, ⟨some 16, none, (.mov (.tmp 13))⟩, ⟨some 7, none, (.mov (.tmp 16))⟩]) (.seq (.region [⟨some 17, none, (.mov (.tmp 7))⟩, ⟨none, none, (.dfrClear 50 0 #[false] (.tmp 17))⟩]) (.seq (.region [⟨some 18, none, (.mov (.tmp 0))⟩, ⟨some 19, none, (.len (.tmp 18))⟩, ⟨some 20, none, (.mkSlice 1 [(.int .i64 0)] (.tmp 19) (.tmp 19))⟩, ⟨some 8, none, (.mov (.tmp 20))⟩]) (.seq (.seq (.region [⟨some 21, none, (.mov (.tmp 0))⟩, ⟨some 22, none, (.len (.tmp 21))⟩, ⟨some 23, none, (.mov (.const (.int .i64 0)))⟩]) (.block 0 (.loop body27_0))) (.seq (.region [⟨some 57, none, (.mov (.tmp 8))⟩, ⟨some 6, none, (.mov (.tmp 57))⟩]) .ret))))))
set_option maxRecDepth 100000 in
theorem tab27 : tb.code 27 = some ⟨58, [(6, none)], body27⟩ := by kernel_rfl
theorem flat_ok (h : AHeap) (v : Value) (l : List Int) (hs : SlI h v l) (m : May l) (hl : l.length ≤ 1000) (x y : Nat) :
    WC Try.prog tb 27 [v, I x, I y] h fun r h' => Ext h h' ∧ OwnI h h' r (flatOf l x y) := by
  refine WC.of (nostub _ rfl) tab27 ?_
  refine WX.seq ?_
  refine WX.region ?_
  refine WO.o (by simp only [aop, S0, Nat.reduceEqDiff, reduceIte]; first | done | with_reducible rfl) ?_
  refine WO.nil ?_
  refine thenK_normal ?_
  refine WX.seq ?_
  refine WX.region ?_
  refine WO.mkMap ?_
  intro mv h1 e1 om
  refine WO.o (by simp only [aop, S0, Nat.reduceEqDiff, reduceIte]; first | done | with_reducible rfl) ?_
  refine WO.o (by simp only [aop, S0, Nat.reduceEqDiff, reduceIte]; first | done | with_reducible rfl) ?_
  refine WO.updateNew (by first | (simp only [S0, Nat.reduceEqDiff, reduceIte]; first | done | with_reducible rfl) | (simp only [S0, S1, decide_true, decide_false, Nat.reduceEqDiff, reduceIte, Int.reduceEq, Int.reduceLT, Int.reduceLE, *]; first | done | with_reducible rfl)) (by first | (simp only [S0, Nat.reduceEqDiff, reduceIte]; first | done | with_reducible rfl) | (simp only [S0, S1, decide_true, decide_false, Nat.reduceEqDiff, reduceIte, Int.reduceEq, Int.reduceLT, Int.reduceLE, *]; first | done | with_reducible rfl)) (by first | (simp only [S0, Nat.reduceEqDiff, reduceIte]; first | done | with_reducible rfl) | (simp only [S0, S1, decide_true, decide_false, Nat.reduceEqDiff, reduceIte, Int.reduceEq, Int.reduceLT, Int.reduceLE, *]; first | done | with_reducible rfl)) om e1 rfl ?_
  intro h2 e2 om2 _
  refine WO.o (by simp only [aop, S0, Nat.reduceEqDiff, reduceIte]; first | done | with_reducible rfl) ?_
  refine WO.o (by simp only [aop, S0, Nat.reduceEqDiff, reduceIte]; first | done | with_reducible rfl) ?_
  refine WO.nil ?_
  refine thenK_normal ?_
  refine WX.seq ?_
  refine WX.region ?_
  refine WO.o (by simp only [aop, S0, Nat.reduceEqDiff, reduceIte]; first | done | with_reducible rfl) ?_
  obtain ⟨g, hg⟩ : ∃ g, Value.map (some g) = mv := by obtain ⟨g, _, _, _, _, e, _⟩ := om; exact ⟨g, e.symm⟩
  refine WO.deferClear (g := g) (by rw [hg]; first | (simp only [S0, Nat.reduceEqDiff, reduceIte]; first | done | with_reducible rfl) | (simp only [S0, S1, decide_true, decide_false, Nat.reduceEqDiff, reduceIte, Int.reduceEq, Int.reduceLT, Int.reduceLE, *]; first | done | with_reducible rfl)) ?_
  refine WO.nil ?_
  refine thenK_normal ?_
  refine WX.seq ?_
  refine WX.region ?_
  refine WO.o (by simp only [aop, S0, Nat.reduceEqDiff, reduceIte]; first | done | with_reducible rfl) ?_
  refine WO.o (SlI.len' (by first | (simp only [S0, Nat.reduceEqDiff, reduceIte]; first | done | with_reducible rfl) | (simp only [S0, S1, decide_true, decide_false, Nat.reduceEqDiff, reduceIte, Int.reduceEq, Int.reduceLT, Int.reduceLE, *]; first | done | with_reducible rfl)) (by first | assumption | exact SlI.ext (by assumption) (by assumption) | exact OwnI.sl (by assumption) | exact OwnN.sl (by assumption))) ?_
  refine WO.mkI l.length (by first | (simp only [S0, Nat.reduceEqDiff, reduceIte]; first | done | rfl) | (simp only [S0, S1, decide_true, decide_false, Nat.reduceEqDiff, reduceIte, Int.reduceEq, Int.reduceLT, Int.reduceLE, *]; first | done | rfl)) (by first | (simp only [S0, Nat.reduceEqDiff, reduceIte]; first | done | rfl) | (simp only [S0, S1, decide_true, decide_false, Nat.reduceEqDiff, reduceIte, Int.reduceEq, Int.reduceLT, Int.reduceLE, *]; first | done | rfl)) (by first | omega | assumption | (simp only [List.length_map, List.length_set]; omega)) ?_
  intro v20 h20 e20 o20
  have o20 := o20.since e2
  have om3 := om2.ext e20
  have e3 := e2.trans e20
  refine WO.o (by simp only [aop, S0, Nat.reduceEqDiff, reduceIte]; first | done | with_reducible rfl) ?_
  refine WO.nil ?_
  refine thenK_normal ?_
  refine WX.seq ?_
  refine WX.seq ?_
  refine WX.region ?_
  refine WO.o (by simp only [aop, S0, Nat.reduceEqDiff, reduceIte]; first | done | with_reducible rfl) ?_
  refine WO.o (SlI.len' (by first | (simp only [S0, Nat.reduceEqDiff, reduceIte]; first | done | with_reducible rfl) | (simp only [S0, S1, decide_true, decide_false, Nat.reduceEqDiff, reduceIte, Int.reduceEq, Int.reduceLT, Int.reduceLE, *]; first | done | with_reducible rfl)) (by first | assumption | exact SlI.ext (by assumption) (by assumption) | exact OwnI.sl (by assumption) | exact OwnN.sl (by assumption))) ?_
  refine WO.o (by simp only [aop, S0, Nat.reduceEqDiff, reduceIte]; first | done | with_reducible rfl) ?_
  refine WO.nil ?_
  refine thenK_normal ?_
  refine WX.block ?_
  refine WX.loop (fun k => l.length - k) (fun k t h1 => Ext h h1 ∧ tmGet t 7 = mv ∧ tmGet t 21 = v ∧ tmGet t 22 = I l.length ∧ tmGet t 23 = I k ∧ k ≤ l.length ∧ tmGet t 8 = v20 ∧ OwnM h h1 mv [((x : Int), (y : Int))] ∧
    OwnI h h1 v20 (part (fun i => (sub x y (headOf l i) : Nat)) l.length k)) 0 ?_ ?_
  · refine ⟨e3, (by first | (simp only [S0, Nat.reduceEqDiff, reduceIte]; first | done | rfl) | (simp only [S0, S1, decide_true, decide_false, Nat.reduceEqDiff, reduceIte, Int.reduceEq, Int.reduceLT, Int.reduceLE, *]; first | done | rfl)), (by first | (simp only [S0, Nat.reduceEqDiff, reduceIte]; first | done | rfl) | (simp only [S0, S1, decide_true, decide_false, Nat.reduceEqDiff, reduceIte, Int.reduceEq, Int.reduceLT, Int.reduceLE, *]; first | done | rfl)), (by first | (simp only [S0, Nat.reduceEqDiff, reduceIte]; first | done | rfl) | (simp only [S0, S1, decide_true, decide_false, Nat.reduceEqDiff, reduceIte, Int.reduceEq, Int.reduceLT, Int.reduceLE, *]; first | done | rfl)), (by first | (simp only [S0, Nat.reduceEqDiff, reduceIte]; first | done | rfl) | (simp only [S0, S1, decide_true, decide_false, Nat.reduceEqDiff, reduceIte, Int.reduceEq, Int.reduceLT, Int.reduceLE, *]; first | done | rfl)), Nat.zero_le _, (by first | (simp only [S0, Nat.reduceEqDiff, reduceIte]; first | done | rfl) | (simp only [S0, S1, decide_true, decide_false, Nat.reduceEqDiff, reduceIte, Int.reduceEq, Int.reduceLT, Int.reduceLE, *]; first | done | rfl)), om3, by rw [part_zero]; exact o20⟩
  rintro k t h1 ⟨e0, s7, s21, s22, s23, hk, s8, oM, o⟩
  refine WX.seq ?_
  refine WX.region ?_
  refine WO.o (by simp only [aop, binV_lss, Option.map_some, S0, Nat.reduceEqDiff, reduceIte, s22, s23]; first | done | with_reducible rfl) ?_
  refine WO.nil ?_
  refine thenK_normal ?_
  refine WX.seq ?_
  refine WX.cond _ (by simp only [S0, Nat.reduceEqDiff, reduceIte, s7, s21, s22, s23, s8]; first | done | with_reducible rfl) (fun hb => ?_) (fun hb => ?_) <;> (try simp only [Bool.or_eq_true, Bool.and_eq_true, Bool.or_eq_false_iff, Bool.and_eq_false_iff, Bool.not_eq_true', Bool.not_eq_false', decide_eq_true_eq, decide_eq_false_iff_not, Int.not_lt, Int.not_le] at hb)
  · have hlt : k < l.length := by omega
    have mk := m k hlt
    obtain ⟨j, hj⟩ : ∃ j : Nat, l.getD k 0 = (j : Int) := ⟨(l.getD k 0).toNat, by omega⟩
    have hjk : j ≤ k := by omega
    have hset := part_set (f := fun i => ((sub x y (headOf l i) : Nat) : Int)) hlt
    have hold : ∀ i, i < k → (part (fun i => (sub x y (headOf l i) : Nat)) l.length k).getD i 0 = (sub x y (headOf l i) : Nat) := fun i hi => part_get hi
    have hLl := part_len (f := fun i => ((sub x y (headOf l i) : Nat) : Int)) hk
    generalize part (fun i => (sub x y (headOf l i) : Nat)) l.length k = L at o hset hold hLl
    refine WX.skip ?_
    refine thenK_normal ?_
    refine WX.seq ?_
    refine WX.block ?_
    refine WX.seq ?_
    refine WX.region ?_
    refine WO.o (by simp only [aop, S0, Nat.reduceEqDiff, reduceIte, s23]; first | done | with_reducible rfl) ?_
    refine WO.o (SlI.idx' (by first | (simp only [S0, Nat.reduceEqDiff, reduceIte, s21, s23]; first | done | with_reducible rfl) | (simp only [S0, S1, decide_true, decide_false, Nat.reduceEqDiff, reduceIte, Int.reduceEq, Int.reduceLT, Int.reduceLE, *]; first | done | with_reducible rfl)) (by first | (simp only [S0, Nat.reduceEqDiff, reduceIte, s21, s23]; first | done | rfl) | (simp only [S0, S1, decide_true, decide_false, Nat.reduceEqDiff, reduceIte, Int.reduceEq, Int.reduceLT, Int.reduceLE, *]; first | done | rfl)) (by first | assumption | exact SlI.ext (by assumption) (by assumption) | exact OwnI.sl (by assumption) | exact OwnN.sl (by assumption)) (by first | omega | assumption | (simp only [List.length_map, List.length_set]; omega))) ?_
    first | (refine WO.o (SlI.loadD (by first | (simp only [S0, Nat.reduceEqDiff, reduceIte]; first | done | with_reducible rfl) | (simp only [S0, S1, decide_true, decide_false, Nat.reduceEqDiff, reduceIte, Int.reduceEq, Int.reduceLT, Int.reduceLE, *]; first | done | with_reducible rfl)) (by first | assumption | exact SlI.ext (by assumption) (by assumption) | exact OwnI.sl (by assumption) | exact OwnN.sl (by assumption)) (by first | omega | assumption | (simp only [List.length_map, List.length_set]; omega))) ?_) | (refine WO.o (OwnC.load (by first | (simp only [S0, Nat.reduceEqDiff, reduceIte]; first | done | with_reducible rfl) | (simp only [S0, S1, decide_true, decide_false, Nat.reduceEqDiff, reduceIte, Int.reduceEq, Int.reduceLT, Int.reduceLE, *]; first | done | with_reducible rfl)) (by assumption) rfl) ?_) | (refine WO.o (OwnC.load0 (by first | (simp only [S0, Nat.reduceEqDiff, reduceIte]; first | done | with_reducible rfl) | (simp only [S0, S1, decide_true, decide_false, Nat.reduceEqDiff, reduceIte, Int.reduceEq, Int.reduceLT, Int.reduceLE, *]; first | done | with_reducible rfl)) (by assumption) rfl) ?_)
    refine WO.o (by simp only [aop, S0, Nat.reduceEqDiff, reduceIte]; first | done | with_reducible rfl) ?_
    refine WO.o (by simp only [aop, S0, Nat.reduceEqDiff, reduceIte]; first | done | with_reducible rfl) ?_
    refine WO.nil ?_
    refine thenK_normal ?_
    refine WX.seq ?_
    refine WX.region ?_
    refine WO.o (by simp only [aop, S0, Nat.reduceEqDiff, reduceIte, s8]; first | done | with_reducible rfl) ?_
    refine WO.o (by simp only [aop, S0, Nat.reduceEqDiff, reduceIte]; first | done | with_reducible rfl) ?_
    refine WO.o (by simp only [aop, S0, Nat.reduceEqDiff, reduceIte]; first | done | with_reducible rfl) ?_
    refine WO.o (SlI.idx' (by first | (simp only [S0, Nat.reduceEqDiff, reduceIte]; first | done | with_reducible rfl) | (simp only [S0, S1, decide_true, decide_false, Nat.reduceEqDiff, reduceIte, Int.reduceEq, Int.reduceLT, Int.reduceLE, *]; first | done | with_reducible rfl)) (by first | (simp only [S0, Nat.reduceEqDiff, reduceIte]; first | done | rfl) | (simp only [S0, S1, decide_true, decide_false, Nat.reduceEqDiff, reduceIte, Int.reduceEq, Int.reduceLT, Int.reduceLE, *]; first | done | rfl)) (by first | assumption | exact SlI.ext (by assumption) (by assumption) | exact OwnI.sl (by assumption) | exact OwnN.sl (by assumption)) (by first | omega | assumption | (simp only [List.length_map, List.length_set]; omega))) ?_
    refine WO.storeI (by first | (simp only [S0, Nat.reduceEqDiff, reduceIte]; first | done | with_reducible rfl) | (simp only [S0, S1, decide_true, decide_false, Nat.reduceEqDiff, reduceIte, Int.reduceEq, Int.reduceLT, Int.reduceLE, *]; first | done | with_reducible rfl)) (by first | (simp only [S0, Nat.reduceEqDiff, reduceIte]; first | done | with_reducible rfl) | (simp only [S0, S1, decide_true, decide_false, Nat.reduceEqDiff, reduceIte, Int.reduceEq, Int.reduceLT, Int.reduceLE, *]; first | done | with_reducible rfl)) (by assumption) (by assumption) (by first | omega | assumption | (simp only [List.length_map, List.length_set]; omega)) ?_
    intro h2 e2 o2 u2
    have oM2 := oM.upd (.inr o) u2
    refine WO.nil ?_
    refine thenK_normal ?_
    refine WX.seq ?_
    refine WX.seq ?_
    refine WX.region ?_
    refine WO.o (by simp only [aop, S0, Nat.reduceEqDiff, reduceIte]; first | done | with_reducible rfl) ?_
    refine WO.o (by simp only [aop, S0, Nat.reduceEqDiff, reduceIte]; first | done | with_reducible rfl) ?_
    refine WO.o (by simp only [aop, binV_neq, Option.map_some, S0, Nat.reduceEqDiff, reduceIte]; first | done | with_reducible rfl) ?_
    refine WO.nil ?_
    refine thenK_normal ?_
    refine WX.cut (fun t h3 => Ext h h3 ∧ tmGet t 7 = mv ∧ tmGet t 9 = I k ∧ tmGet t 21 = v ∧ tmGet t 22 = I l.length ∧ tmGet t 23 = I k ∧ tmGet t 8 = v20 ∧ OwnM h h3 mv [((x : Int), (y : Int))] ∧
      ∃ q : Nat, sub x y q = sub x y (headOf l k) ∧ OwnI h h3 v20 (L.set k q)) ?_ ?_
    · refine WX.cond _ (by simp only [S0, Nat.reduceEqDiff, reduceIte, s7, s21, s22, s23, s8]; first | done | with_reducible rfl) (fun hb => ?_) (fun hb => ?_) <;> (try simp only [Bool.or_eq_true, Bool.and_eq_true, Bool.or_eq_false_iff, Bool.and_eq_false_iff, Bool.not_eq_true', Bool.not_eq_false', decide_eq_true_eq, decide_eq_false_iff_not, Int.not_lt, Int.not_le] at hb)
      · refine WX.region ?_
        refine WO.o (by simp only [aop, S0, Nat.reduceEqDiff, reduceIte, s8]; first | done | with_reducible rfl) ?_
        refine WO.o (by simp only [aop, S0, Nat.reduceEqDiff, reduceIte]; first | done | with_reducible rfl) ?_
        refine WO.o (by simp only [aop, S0, Nat.reduceEqDiff, reduceIte, s8]; first | done | with_reducible rfl) ?_
        refine WO.o (by simp only [aop, S0, Nat.reduceEqDiff, reduceIte]; first | done | with_reducible rfl) ?_
        refine WO.o (SlI.idx' (by first | (simp only [S0, Nat.reduceEqDiff, reduceIte]; first | done | with_reducible rfl) | (simp only [S0, S1, decide_true, decide_false, Nat.reduceEqDiff, reduceIte, Int.reduceEq, Int.reduceLT, Int.reduceLE, *]; first | done | with_reducible rfl)) (by first | (simp only [S0, Nat.reduceEqDiff, reduceIte]; first | done | rfl) | (simp only [S0, S1, decide_true, decide_false, Nat.reduceEqDiff, reduceIte, Int.reduceEq, Int.reduceLT, Int.reduceLE, *]; first | done | rfl)) (by first | assumption | exact SlI.ext (by assumption) (by assumption) | exact OwnI.sl (by assumption) | exact OwnN.sl (by assumption)) (by first | omega | assumption | (simp only [List.length_map, List.length_set]; omega))) ?_
        first | (refine WO.o (SlI.loadD (by first | (simp only [S0, Nat.reduceEqDiff, reduceIte]; first | done | with_reducible rfl) | (simp only [S0, S1, decide_true, decide_false, Nat.reduceEqDiff, reduceIte, Int.reduceEq, Int.reduceLT, Int.reduceLE, *]; first | done | with_reducible rfl)) (by first | assumption | exact SlI.ext (by assumption) (by assumption) | exact OwnI.sl (by assumption) | exact OwnN.sl (by assumption)) (by first | omega | assumption | (simp only [List.length_map, List.length_set]; omega))) ?_) | (refine WO.o (OwnC.load (by first | (simp only [S0, Nat.reduceEqDiff, reduceIte]; first | done | with_reducible rfl) | (simp only [S0, S1, decide_true, decide_false, Nat.reduceEqDiff, reduceIte, Int.reduceEq, Int.reduceLT, Int.reduceLE, *]; first | done | with_reducible rfl)) (by assumption) rfl) ?_) | (refine WO.o (OwnC.load0 (by first | (simp only [S0, Nat.reduceEqDiff, reduceIte]; first | done | with_reducible rfl) | (simp only [S0, S1, decide_true, decide_false, Nat.reduceEqDiff, reduceIte, Int.reduceEq, Int.reduceLT, Int.reduceLE, *]; first | done | with_reducible rfl)) (by assumption) rfl) ?_)
        refine WO.o (SlI.idx' (by first | (simp only [S0, Nat.reduceEqDiff, reduceIte]; first | done | with_reducible rfl) | (simp only [S0, S1, decide_true, decide_false, Nat.reduceEqDiff, reduceIte, Int.reduceEq, Int.reduceLT, Int.reduceLE, *]; first | done | with_reducible rfl)) (by first | (simp only [S0, Nat.reduceEqDiff, reduceIte]; first | done | rfl) | (simp only [S0, S1, decide_true, decide_false, Nat.reduceEqDiff, reduceIte, Int.reduceEq, Int.reduceLT, Int.reduceLE, *]; first | done | rfl)) (by first | assumption | exact SlI.ext (by assumption) (by assumption) | exact OwnI.sl (by assumption) | exact OwnN.sl (by assumption)) (by first | omega | assumption | (simp only [List.length_map, List.length_set]; omega))) ?_
        refine WO.storeI (by first | (simp only [S0, Nat.reduceEqDiff, reduceIte]; first | done | with_reducible rfl) | (simp only [S0, S1, decide_true, decide_false, Nat.reduceEqDiff, reduceIte, Int.reduceEq, Int.reduceLT, Int.reduceLE, *]; first | done | with_reducible rfl)) (by first | (simp only [S0, Nat.reduceEqDiff, reduceIte]; first | done | with_reducible rfl) | (simp only [S0, S1, decide_true, decide_false, Nat.reduceEqDiff, reduceIte, Int.reduceEq, Int.reduceLT, Int.reduceLE, *]; first | done | with_reducible rfl)) (by assumption) (by assumption) (by first | omega | assumption | (simp only [List.length_map, List.length_set]; omega)) ?_
        intro h3 e3 o3 u3
        have oM3 := oM2.upd (.inr o2) u3
        refine WO.nil ?_
        refine cutK_normal ⟨e3, (by first | (simp only [S0, Nat.reduceEqDiff, reduceIte, s7, s21, s22, s23, s8]; first | done | rfl) | (simp only [S0, S1, decide_true, decide_false, Nat.reduceEqDiff, reduceIte, Int.reduceEq, Int.reduceLT, Int.reduceLE, *]; first | done | rfl)), (by first | (simp only [S0, Nat.reduceEqDiff, reduceIte, s7, s21, s22, s23, s8]; first | done | rfl) | (simp only [S0, S1, decide_true, decide_false, Nat.reduceEqDiff, reduceIte, Int.reduceEq, Int.reduceLT, Int.reduceLE, *]; first | done | rfl)), (by first | (simp only [S0, Nat.reduceEqDiff, reduceIte, s7, s21, s22, s23, s8]; first | done | rfl) | (simp only [S0, S1, decide_true, decide_false, Nat.reduceEqDiff, reduceIte, Int.reduceEq, Int.reduceLT, Int.reduceLE, *]; first | done | rfl)), (by first | (simp only [S0, Nat.reduceEqDiff, reduceIte, s7, s21, s22, s23, s8]; first | done | rfl) | (simp only [S0, S1, decide_true, decide_false, Nat.reduceEqDiff, reduceIte, Int.reduceEq, Int.reduceLT, Int.reduceLE, *]; first | done | rfl)), (by first | (simp only [S0, Nat.reduceEqDiff, reduceIte, s7, s21, s22, s23, s8]; first | done | rfl) | (simp only [S0, S1, decide_true, decide_false, Nat.reduceEqDiff, reduceIte, Int.reduceEq, Int.reduceLT, Int.reduceLE, *]; first | done | rfl)), (by first | (simp only [S0, Nat.reduceEqDiff, reduceIte, s7, s21, s22, s23, s8]; first | done | rfl) | (simp only [S0, S1, decide_true, decide_false, Nat.reduceEqDiff, reduceIte, Int.reduceEq, Int.reduceLT, Int.reduceLE, *]; first | done | rfl)), oM3, sub x y (headOf l j), ?_, ?_⟩
        · rw [sub_sub, headOf_step m hlt (by omega), hj]; rfl
        · have := hold j (by omega)
          rw [getD_set_ne (by omega), this, set_set_self] at o3; exact o3
      · refine WX.skip ?_
        refine cutK_normal ⟨e2, (by first | (simp only [S0, Nat.reduceEqDiff, reduceIte, s7, s21, s22, s23, s8]; first | done | rfl) | (simp only [S0, S1, decide_true, decide_false, Nat.reduceEqDiff, reduceIte, Int.reduceEq, Int.reduceLT, Int.reduceLE, *]; first | done | rfl)), (by first | (simp only [S0, Nat.reduceEqDiff, reduceIte, s7, s21, s22, s23, s8]; first | done | rfl) | (simp only [S0, S1, decide_true, decide_false, Nat.reduceEqDiff, reduceIte, Int.reduceEq, Int.reduceLT, Int.reduceLE, *]; first | done | rfl)), (by first | (simp only [S0, Nat.reduceEqDiff, reduceIte, s7, s21, s22, s23, s8]; first | done | rfl) | (simp only [S0, S1, decide_true, decide_false, Nat.reduceEqDiff, reduceIte, Int.reduceEq, Int.reduceLT, Int.reduceLE, *]; first | done | rfl)), (by first | (simp only [S0, Nat.reduceEqDiff, reduceIte, s7, s21, s22, s23, s8]; first | done | rfl) | (simp only [S0, S1, decide_true, decide_false, Nat.reduceEqDiff, reduceIte, Int.reduceEq, Int.reduceLT, Int.reduceLE, *]; first | done | rfl)), (by first | (simp only [S0, Nat.reduceEqDiff, reduceIte, s7, s21, s22, s23, s8]; first | done | rfl) | (simp only [S0, S1, decide_true, decide_false, Nat.reduceEqDiff, reduceIte, Int.reduceEq, Int.reduceLT, Int.reduceLE, *]; first | done | rfl)), (by first | (simp only [S0, Nat.reduceEqDiff, reduceIte, s7, s21, s22, s23, s8]; first | done | rfl) | (simp only [S0, S1, decide_true, decide_false, Nat.reduceEqDiff, reduceIte, Int.reduceEq, Int.reduceLT, Int.reduceLE, *]; first | done | rfl)), oM2, k, ?_, o2⟩
        rw [headOf_self (by omega)]
    rintro t h3 ⟨e3, s7, s9, s21, s22, s23, s8, oM3, q, hq, o3⟩
    have hg3 := getD_set_self (l := L) (i := k) (a := (q : Int)) (by omega)
    have hl3 : (L.set k (q : Int)).length = l.length := by simpa using hLl
    have hss : ∀ b : Int, (L.set k (q : Int)).set k b = L.set k b := fun b => set_set_self
    generalize L.set k (q : Int) = L3 at o3 hg3 hl3 hss
    refine thenK_normal ?_
    refine WX.seq ?_
    refine WX.region ?_
    refine WO.o (by simp only [aop, S0, Nat.reduceEqDiff, reduceIte, s7]; first | done | with_reducible rfl) ?_
    refine WO.o (by simp only [aop, S0, Nat.reduceEqDiff, reduceIte, s8]; first | done | with_reducible rfl) ?_
    refine WO.o (by simp only [aop, S0, Nat.reduceEqDiff, reduceIte, s9]; first | done | with_reducible rfl) ?_
    refine WO.o (SlI.idx' (by first | (simp only [S0, Nat.reduceEqDiff, reduceIte]; first | done | with_reducible rfl) | (simp only [S0, S1, decide_true, decide_false, Nat.reduceEqDiff, reduceIte, Int.reduceEq, Int.reduceLT, Int.reduceLE, *]; first | done | with_reducible rfl)) (by first | (simp only [S0, Nat.reduceEqDiff, reduceIte]; first | done | rfl) | (simp only [S0, S1, decide_true, decide_false, Nat.reduceEqDiff, reduceIte, Int.reduceEq, Int.reduceLT, Int.reduceLE, *]; first | done | rfl)) (by first | assumption | exact SlI.ext (by assumption) (by assumption) | exact OwnI.sl (by assumption) | exact OwnN.sl (by assumption)) (by first | omega | assumption | (simp only [List.length_map, List.length_set]; omega))) ?_
    first | (refine WO.o (SlI.loadD (by first | (simp only [S0, Nat.reduceEqDiff, reduceIte]; first | done | with_reducible rfl) | (simp only [S0, S1, decide_true, decide_false, Nat.reduceEqDiff, reduceIte, Int.reduceEq, Int.reduceLT, Int.reduceLE, *]; first | done | with_reducible rfl)) (by first | assumption | exact SlI.ext (by assumption) (by assumption) | exact OwnI.sl (by assumption) | exact OwnN.sl (by assumption)) (by first | omega | assumption | (simp only [List.length_map, List.length_set]; omega))) ?_) | (refine WO.o (OwnC.load (by first | (simp only [S0, Nat.reduceEqDiff, reduceIte]; first | done | with_reducible rfl) | (simp only [S0, S1, decide_true, decide_false, Nat.reduceEqDiff, reduceIte, Int.reduceEq, Int.reduceLT, Int.reduceLE, *]; first | done | with_reducible rfl)) (by assumption) rfl) ?_) | (refine WO.o (OwnC.load0 (by first | (simp only [S0, Nat.reduceEqDiff, reduceIte]; first | done | with_reducible rfl) | (simp only [S0, S1, decide_true, decide_false, Nat.reduceEqDiff, reduceIte, Int.reduceEq, Int.reduceLT, Int.reduceLE, *]; first | done | with_reducible rfl)) (by assumption) rfl) ?_)
    refine WO.lookup2 (by first | (simp only [S0, Nat.reduceEqDiff, reduceIte]; first | done | with_reducible rfl) | (simp only [S0, S1, decide_true, decide_false, Nat.reduceEqDiff, reduceIte, Int.reduceEq, Int.reduceLT, Int.reduceLE, *]; first | done | with_reducible rfl)) (by first | (simp only [S0, Nat.reduceEqDiff, reduceIte]; first | done | with_reducible rfl) | (simp only [S0, S1, decide_true, decide_false, Nat.reduceEqDiff, reduceIte, Int.reduceEq, Int.reduceLT, Int.reduceLE, *]; first | done | with_reducible rfl)) (by assumption) ?_
    by_cases hqx : q = x
    · have hlk : List.lookup (q : Int) [((x : Int), (y : Int))] = some (y : Int) := by rw [hqx]; simp
      rw [hg3, hlk]
      refine WO.o (by simp only [aop, S0, Nat.reduceEqDiff, reduceIte]; first | done | with_reducible rfl) ?_
      refine WO.o (by simp only [aop, List.getElem?_toArray, List.getElem?_cons_zero, List.getElem?_cons_succ, Option.some.injEq, S0, Nat.reduceEqDiff, reduceIte]; first | done | with_reducible rfl) ?_
      refine WO.o (by simp only [aop, List.getElem?_toArray, List.getElem?_cons_zero, List.getElem?_cons_succ, Option.some.injEq, S0, Nat.reduceEqDiff, reduceIte]; first | done | with_reducible rfl) ?_
      refine WO.o (by simp only [aop, S0, Nat.reduceEqDiff, reduceIte]; first | done | with_reducible rfl) ?_
      refine WO.o (by simp only [aop, S0, Nat.reduceEqDiff, reduceIte]; first | done | with_reducible rfl) ?_
      refine WO.nil ?_
      refine thenK_normal ?_
      refine WX.seq ?_
      refine WX.region ?_
      refine WO.o (by simp only [aop, S0, Nat.reduceEqDiff, reduceIte]; first | done | with_reducible rfl) ?_
      refine WO.nil ?_
      refine thenK_normal ?_
      first | (refine WX.condT (by simp only [S0, Nat.reduceEqDiff, reduceIte, s7, s9, s21, s22, s23, s8]; first | done | with_reducible rfl) ?_) | (refine WX.condT (by simp only [S0, S1, decide_true, decide_false, Nat.reduceEqDiff, reduceIte, Int.reduceEq, Int.reduceLT, Int.reduceLE, *]; first | done | with_reducible rfl) ?_)
      refine WX.region ?_
      refine WO.o (by simp only [aop, S0, Nat.reduceEqDiff, reduceIte, s8]; first | done | with_reducible rfl) ?_
      refine WO.o (by simp only [aop, S0, Nat.reduceEqDiff, reduceIte, s9]; first | done | with_reducible rfl) ?_
      refine WO.o (by simp only [aop, S0, Nat.reduceEqDiff, reduceIte]; first | done | with_reducible rfl) ?_
      refine WO.o (SlI.idx' (by first | (simp only [S0, Nat.reduceEqDiff, reduceIte]; first | done | with_reducible rfl) | (simp only [S0, S1, decide_true, decide_false, Nat.reduceEqDiff, reduceIte, Int.reduceEq, Int.reduceLT, Int.reduceLE, *]; first | done | with_reducible rfl)) (by first | (simp only [S0, Nat.reduceEqDiff, reduceIte]; first | done | rfl) | (simp only [S0, S1, decide_true, decide_false, Nat.reduceEqDiff, reduceIte, Int.reduceEq, Int.reduceLT, Int.reduceLE, *]; first | done | rfl)) (by first | assumption | exact SlI.ext (by assumption) (by assumption) | exact OwnI.sl (by assumption) | exact OwnN.sl (by assumption)) (by first | omega | assumption | (simp only [List.length_map, List.length_set]; omega))) ?_
      refine WO.storeI (by first | (simp only [S0, Nat.reduceEqDiff, reduceIte]; first | done | with_reducible rfl) | (simp only [S0, S1, decide_true, decide_false, Nat.reduceEqDiff, reduceIte, Int.reduceEq, Int.reduceLT, Int.reduceLE, *]; first | done | with_reducible rfl)) (by first | (simp only [S0, Nat.reduceEqDiff, reduceIte]; first | done | with_reducible rfl) | (simp only [S0, S1, decide_true, decide_false, Nat.reduceEqDiff, reduceIte, Int.reduceEq, Int.reduceLT, Int.reduceLE, *]; first | done | with_reducible rfl)) (by assumption) (by assumption) (by first | omega | assumption | (simp only [List.length_map, List.length_set]; omega)) ?_
      intro h4 e4 o4 u4
      refine WO.nil ?_
      refine blockK_normal ?_
      refine thenK_normal ?_
      refine WX.region ?_
      refine WO.o (by simp only [aop, binV_add, Option.map_some, S0, Nat.reduceEqDiff, reduceIte, s23]; first | (rw [wrap64 (by omega) (by omega)]) | with_reducible rfl) ?_
      refine WO.o (by simp only [aop, S0, Nat.reduceEqDiff, reduceIte]; first | done | with_reducible rfl) ?_
      refine WO.nil ?_
      rw [hss, show (y : Int) = ((sub x y (headOf l k) : Nat) : Int) by rw [← hq]; simp [sub, hqx], hset] at o4
      exact loopK_normal (k + 1) (by omega) ⟨e4, (by first | (simp only [S0, Nat.reduceEqDiff, reduceIte, s7, s9, s21, s22, s23, s8]; first | done | rfl) | (simp only [S0, S1, decide_true, decide_false, Nat.reduceEqDiff, reduceIte, Int.reduceEq, Int.reduceLT, Int.reduceLE, *]; first | done | rfl)), (by first | (simp only [S0, Nat.reduceEqDiff, reduceIte, s7, s9, s21, s22, s23, s8]; first | done | rfl) | (simp only [S0, S1, decide_true, decide_false, Nat.reduceEqDiff, reduceIte, Int.reduceEq, Int.reduceLT, Int.reduceLE, *]; first | done | rfl)), (by first | (simp only [S0, Nat.reduceEqDiff, reduceIte, s7, s9, s21, s22, s23, s8]; first | done | rfl) | (simp only [S0, S1, decide_true, decide_false, Nat.reduceEqDiff, reduceIte, Int.reduceEq, Int.reduceLT, Int.reduceLE, *]; first | done | rfl)), (by first | (simp only [S0, Nat.reduceEqDiff, reduceIte, s7, s9, s21, s22, s23, s8]; first | done | rfl) | (simp only [S0, S1, decide_true, decide_false, Nat.reduceEqDiff, reduceIte, Int.reduceEq, Int.reduceLT, Int.reduceLE, *]; first | done | rfl)), by omega, (by first | (simp only [S0, Nat.reduceEqDiff, reduceIte, s7, s9, s21, s22, s23, s8]; first | done | rfl) | (simp only [S0, S1, decide_true, decide_false, Nat.reduceEqDiff, reduceIte, Int.reduceEq, Int.reduceLT, Int.reduceLE, *]; first | done | rfl)), oM3.upd (.inr o3) u4, o4⟩
    · have hlk : List.lookup (q : Int) [((x : Int), (y : Int))] = none := by
        have e : ((q : Int) == (x : Int)) = false := by rw [beq_eq_false_iff_ne]; omega
        simp only [List.lookup, e]
      rw [hg3, hlk]
      refine WO.o (by simp only [aop, S0, Nat.reduceEqDiff, reduceIte]; first | done | with_reducible rfl) ?_
      refine WO.o (by simp only [aop, List.getElem?_toArray, List.getElem?_cons_zero, List.getElem?_cons_succ, Option.some.injEq, S0, Nat.reduceEqDiff, reduceIte]; first | done | with_reducible rfl) ?_
      refine WO.o (by simp only [aop, List.getElem?_toArray, List.getElem?_cons_zero, List.getElem?_cons_succ, Option.some.injEq, S0, Nat.reduceEqDiff, reduceIte]; first | done | with_reducible rfl) ?_
      refine WO.o (by simp only [aop, S0, Nat.reduceEqDiff, reduceIte]; first | done | with_reducible rfl) ?_
      refine WO.o (by simp only [aop, S0, Nat.reduceEqDiff, reduceIte]; first | done | with_reducible rfl) ?_
      refine WO.nil ?_
      refine thenK_normal ?_
      refine WX.seq ?_
      refine WX.region ?_
      refine WO.o (by simp only [aop, S0, Nat.reduceEqDiff, reduceIte]; first | done | with_reducible rfl) ?_
      refine WO.nil ?_
      refine thenK_normal ?_
      first | (refine WX.condF (by simp only [S0, Nat.reduceEqDiff, reduceIte, s7, s9, s21, s22, s23, s8]; first | done | with_reducible rfl) ?_) | (refine WX.condF (by simp only [S0, S1, decide_true, decide_false, Nat.reduceEqDiff, reduceIte, Int.reduceEq, Int.reduceLT, Int.reduceLE, *]; first | done | with_reducible rfl) ?_)
      refine WX.skip ?_
      refine blockK_normal ?_
      refine thenK_normal ?_
      refine WX.region ?_
      refine WO.o (by simp only [aop, binV_add, Option.map_some, S0, Nat.reduceEqDiff, reduceIte, s23]; first | (rw [wrap64 (by omega) (by omega)]) | with_reducible rfl) ?_
      refine WO.o (by simp only [aop, S0, Nat.reduceEqDiff, reduceIte]; first | done | with_reducible rfl) ?_
      refine WO.nil ?_
      refine loopK_normal (k + 1) (by omega) ⟨e3, (by first | (simp only [S0, Nat.reduceEqDiff, reduceIte, s7, s9, s21, s22, s23, s8]; first | done | rfl) | (simp only [S0, S1, decide_true, decide_false, Nat.reduceEqDiff, reduceIte, Int.reduceEq, Int.reduceLT, Int.reduceLE, *]; first | done | rfl)), (by first | (simp only [S0, Nat.reduceEqDiff, reduceIte, s7, s9, s21, s22, s23, s8]; first | done | rfl) | (simp only [S0, S1, decide_true, decide_false, Nat.reduceEqDiff, reduceIte, Int.reduceEq, Int.reduceLT, Int.reduceLE, *]; first | done | rfl)), (by first | (simp only [S0, Nat.reduceEqDiff, reduceIte, s7, s9, s21, s22, s23, s8]; first | done | rfl) | (simp only [S0, S1, decide_true, decide_false, Nat.reduceEqDiff, reduceIte, Int.reduceEq, Int.reduceLT, Int.reduceLE, *]; first | done | rfl)), (by first | (simp only [S0, Nat.reduceEqDiff, reduceIte, s7, s9, s21, s22, s23, s8]; first | done | rfl) | (simp only [S0, S1, decide_true, decide_false, Nat.reduceEqDiff, reduceIte, Int.reduceEq, Int.reduceLT, Int.reduceLE, *]; first | done | rfl)), by omega, (by first | (simp only [S0, Nat.reduceEqDiff, reduceIte, s7, s9, s21, s22, s23, s8]; first | done | rfl) | (simp only [S0, S1, decide_true, decide_false, Nat.reduceEqDiff, reduceIte, Int.reduceEq, Int.reduceLT, Int.reduceLE, *]; first | done | rfl)), oM3, ?_⟩
      have : L3 = L.set k q := by
        have := hss q
        rw [← this]
        apply ext_getD (by simp)
        intro i hi
        by_cases e : i = k
        · subst e; rw [getD_set_self (by omega), hg3]
        · rw [getD_set_ne e]
      rw [this, show (q : Int) = ((sub x y (headOf l k) : Nat) : Int) by rw [← hq]; simp [sub, hqx], hset] at o3
      exact o3
  · refine WX.exit ?_
    refine thenK_exit ?_
    refine loopK_exit ?_
    refine blockK_exit ?_
    refine thenK_normal ?_
    refine WX.seq ?_
    refine WX.region ?_
    refine WO.o (by simp only [aop, S0, Nat.reduceEqDiff, reduceIte, s8]; first | done | with_reducible rfl) ?_
    refine WO.o (by simp only [aop, S0, Nat.reduceEqDiff, reduceIte]; first | done | with_reducible rfl) ?_
    refine WO.nil ?_
    refine thenK_normal ?_
    refine WX.ret ?_
    refine retK_defer ?_
    have : k = l.length := by omega
    subst this
    refine WD.clearM hg.symm oM e0 fun h4 e4 u4 => WD.nil ⟨_, by simp only [resultsA, resultA, ev, tmGet_set, mkTm, tmGet_leaf, Nat.reduceEqDiff, if_true, if_false, reduceIte, *]; rfl, e4, ?_⟩
    rw [part_all] at o
    exact o.updM oM u4

noncomputable def body15_0 : ACode := (.seq (.seq (.region [⟨some 12, none, (.mov (.tmp 5))⟩, ⟨some 13, none, (.mov (.tmp 0))⟩, ⟨some 14, none, (.len (.tmp 13))⟩, ⟨some 15, none, (.bin .lss (.tmp 12) (.tmp 14))⟩]) (.cond (.tmp 15) .skip (.exit 0))) (.seq (.block 1 (.region [⟨some 18, none, (.mov (.tmp 4))⟩, ⟨some 19, none, (.mov (.tmp 5))⟩, ⟨some 20, none, (.mov (.tmp 0))⟩, ⟨some 21, none, (.mov (.tmp 5))⟩, ⟨some 22, none, (.call (.func 26) [(.tmp 20), (.tmp 21)])⟩, ⟨some 23, none, (.idx 1 (.tmp 18) (.tmp 19))⟩, ⟨none, none, (.store 1 (.tmp 23) (.tmp 22))⟩])) (.region [⟨some 16, none, (.mov (.tmp 5))⟩, ⟨some 17, none, (.bin .add (.tmp 16) (.const (.int .i64 1)))⟩, ⟨some 5, none, (.mov (.tmp 17))⟩])))
noncomputable def body15 : ACode := (.seq (.region [⟨some 2, none, (.mov (.const (.slice none 0 0)))⟩, ⟨some 3, none, (.mov (.const (.int .i64 0)))⟩]) (.seq (.seq (.region [⟨some 6, none, (.mov (.tmp 0))⟩, ⟨some 7, none, (.call (.func 25) [(.tmp 6)])⟩, ⟨some 8, none, (.un .not (.tmp 7))⟩]) (.cond (.tmp 8) (.seq (.region [⟨some 2, none, (.mov (.const (.slice none 0 0)))⟩, ⟨some 3, none, (.mov (.const (.int .i64 8)))⟩]) .ret) .skip)) (.seq (.region [⟨some 9, none, (.mov (.tmp 0))⟩, ⟨some 10, none, (.len (.tmp 9))⟩, ⟨some 11, none, (.mkSlice 1 [(.int .i64 0)] (.tmp 10) (.tmp 10))⟩, ⟨some 4, none, (.mov (.tmp 11))⟩]) (.seq (.seq (.region [⟨some 5, none, (.mov (.const (.int .i64 0)))⟩]) (.block 0 (.loop body15_0))) (.seq (.region [⟨some 24, none, (.mov (.tmp 4))⟩, ⟨some 2, none, (.mov (.tmp 24))⟩, ⟨some 3, none, (.mov (.const (.int .i64 0)))⟩]) .ret)))))
set_option maxRecDepth 100000 in
theorem tab15 : tb.code 15 = some ⟨25, [(2, none), (3, none)], body15⟩ := by kernel_rfl
theorem rflat_ok (h : AHeap) (v : Value) (l : List Int) (hs : SlI h v l) (hl : l.length ≤ 1000) :
    WC Try.prog tb 15 [v] h fun r h' => ∃ w, r = .tuple #[w, I (if May l then 0 else 8)] ∧ Ext h h' ∧ OwnN h h' w (if May l then flatOf l 0 0 else []) := by
  refine WC.of (nostub _ rfl) tab15 ?_
  refine WX.seq ?_
  refine WX.region ?_
  refine WO.o (by simp only [aop, S0, Nat.reduceEqDiff, reduceIte]; first | done | with_reducible rfl) ?_
  refine WO.o (by simp only [aop, S0, Nat.reduceEqDiff, reduceIte]; first | done | with_reducible rfl) ?_
  refine WO.nil ?_
  refine thenK_normal ?_
  refine WX.seq ?_
  refine WX.seq ?_
  refine WX.region ?_
  refine WO.o (by simp only [aop, S0, Nat.reduceEqDiff, reduceIte]; first | done | with_reducible rfl) ?_
  first | (refine WO.call (by simp only [List.map, S0, Nat.reduceEqDiff, reduceIte]; first | done | with_reducible rfl) ?_) | (refine WO.call (by simp only [List.map, S0, S1, decide_true, decide_false, Nat.reduceEqDiff, reduceIte, Int.reduceEq, Int.reduceLT, Int.reduceLE, *]; first | done | with_reducible rfl) ?_)
  refine (may_ok h v l hs (by omega)).mono ?_
  rintro _ _ ⟨rfl, rfl⟩
  refine WO.o (by simp only [aop, unV, Option.map_some, S0, Nat.reduceEqDiff, reduceIte]; first | done | with_reducible rfl) ?_
  refine WO.nil ?_
  refine thenK_normal ?_
  refine WX.cond _ (by simp only [S0, Nat.reduceEqDiff, reduceIte]; first | done | with_reducible rfl) (fun hb => ?_) (fun hb => ?_) <;> (try simp only [Bool.or_eq_true, Bool.and_eq_true, Bool.or_eq_false_iff, Bool.and_eq_false_iff, Bool.not_eq_true', Bool.not_eq_false', decide_eq_true_eq, decide_eq_false_iff_not, Int.not_lt, Int.not_le] at hb)
  · refine WX.seq ?_
    refine WX.region ?_
    refine WO.o (by simp only [aop, S0, Nat.reduceEqDiff, reduceIte]; first | done | with_reducible rfl) ?_
    refine WO.o (by simp only [aop, S0, Nat.reduceEqDiff, reduceIte]; first | done | with_reducible rfl) ?_
    refine WO.nil ?_
    refine thenK_normal ?_
    refine WX.ret ?_
    refine thenK_ret ?_
    first | (refine retK_ret (by simp only [resultsA, resultA, S0, Nat.reduceEqDiff, reduceIte]; rfl) ?_) | (refine retK_ret (by simp only [resultsA, resultA, S0, S1, decide_true, decide_false, Nat.reduceEqDiff, reduceIte, Int.reduceEq, Int.reduceLT, Int.reduceLE, *]; rfl) ?_)
    rw [if_neg hb, if_neg hb]
    exact ⟨_, rfl, Ext.refl h, .inl ⟨rfl, rfl⟩⟩
  rw [if_pos hb, if_pos hb]
  have hb_1 := hb
  refine WX.skip ?_
  refine thenK_normal ?_
  refine WX.seq ?_
  refine WX.region ?_
  refine WO.o (by simp only [aop, S0, Nat.reduceEqDiff, reduceIte]; first | done | with_reducible rfl) ?_
  refine WO.o (SlI.len' (by first | (simp only [S0, Nat.reduceEqDiff, reduceIte]; first | done | with_reducible rfl) | (simp only [S0, S1, decide_true, decide_false, Nat.reduceEqDiff, reduceIte, Int.reduceEq, Int.reduceLT, Int.reduceLE, *]; first | done | with_reducible rfl)) (by first | assumption | exact SlI.ext (by assumption) (by assumption) | exact OwnI.sl (by assumption) | exact OwnN.sl (by assumption))) ?_
  refine WO.mkI l.length (by first | (simp only [S0, Nat.reduceEqDiff, reduceIte]; first | done | rfl) | (simp only [S0, S1, decide_true, decide_false, Nat.reduceEqDiff, reduceIte, Int.reduceEq, Int.reduceLT, Int.reduceLE, *]; first | done | rfl)) (by first | (simp only [S0, Nat.reduceEqDiff, reduceIte]; first | done | rfl) | (simp only [S0, S1, decide_true, decide_false, Nat.reduceEqDiff, reduceIte, Int.reduceEq, Int.reduceLT, Int.reduceLE, *]; first | done | rfl)) (by first | omega | assumption | (simp only [List.length_map, List.length_set]; omega)) ?_
  intro v11 h11 e11 o11
  refine WO.o (by simp only [aop, S0, Nat.reduceEqDiff, reduceIte]; first | done | with_reducible rfl) ?_
  refine WO.nil ?_
  refine thenK_normal ?_
  refine WX.seq ?_
  refine WX.seq ?_
  refine WX.region ?_
  refine WO.o (by simp only [aop, S0, Nat.reduceEqDiff, reduceIte]; first | done | with_reducible rfl) ?_
  refine WO.nil ?_
  refine thenK_normal ?_
  refine WX.block ?_
  refine WX.loop (fun k => l.length - k) (fun k t h1 => Ext h h1 ∧ tmGet t 0 = v ∧ tmGet t 5 = I k ∧ k ≤ l.length ∧ tmGet t 4 = v11 ∧ OwnI h h1 v11 (part (fun i => (sub 0 0 (headOf l i) : Nat)) l.length k)) 0 ?_ ?_
  · refine ⟨e11, (by first | (simp only [S0, Nat.reduceEqDiff, reduceIte]; first | done | rfl) | (simp only [S0, S1, decide_true, decide_false, Nat.reduceEqDiff, reduceIte, Int.reduceEq, Int.reduceLT, Int.reduceLE, *]; first | done | rfl)), (by first | (simp only [S0, Nat.reduceEqDiff, reduceIte]; first | done | rfl) | (simp only [S0, S1, decide_true, decide_false, Nat.reduceEqDiff, reduceIte, Int.reduceEq, Int.reduceLT, Int.reduceLE, *]; first | done | rfl)), Nat.zero_le _, (by first | (simp only [S0, Nat.reduceEqDiff, reduceIte]; first | done | rfl) | (simp only [S0, S1, decide_true, decide_false, Nat.reduceEqDiff, reduceIte, Int.reduceEq, Int.reduceLT, Int.reduceLE, *]; first | done | rfl)), by rw [part_zero]; exact o11⟩
  rintro k t h1 ⟨e0, s0, s5, hk, s4, o⟩
  refine WX.seq ?_
  refine WX.seq ?_
  refine WX.region ?_
  refine WO.o (by simp only [aop, S0, Nat.reduceEqDiff, reduceIte, s5]; first | done | with_reducible rfl) ?_
  refine WO.o (by simp only [aop, S0, Nat.reduceEqDiff, reduceIte, s0]; first | done | with_reducible rfl) ?_
  refine WO.o (SlI.len' (by first | (simp only [S0, Nat.reduceEqDiff, reduceIte]; first | done | with_reducible rfl) | (simp only [S0, S1, decide_true, decide_false, Nat.reduceEqDiff, reduceIte, Int.reduceEq, Int.reduceLT, Int.reduceLE, *]; first | done | with_reducible rfl)) (by first | assumption | exact SlI.ext (by assumption) (by assumption) | exact OwnI.sl (by assumption) | exact OwnN.sl (by assumption))) ?_
  refine WO.o (by simp only [aop, binV_lss, Option.map_some, S0, Nat.reduceEqDiff, reduceIte]; first | done | with_reducible rfl) ?_
  refine WO.nil ?_
  refine thenK_normal ?_
  refine WX.cond _ (by simp only [S0, Nat.reduceEqDiff, reduceIte, s0, s5, s4]; first | done | with_reducible rfl) (fun hb => ?_) (fun hb => ?_) <;> (try simp only [Bool.or_eq_true, Bool.and_eq_true, Bool.or_eq_false_iff, Bool.and_eq_false_iff, Bool.not_eq_true', Bool.not_eq_false', decide_eq_true_eq, decide_eq_false_iff_not, Int.not_lt, Int.not_le] at hb)
  · have hlen : k < (part (fun i => (sub 0 0 (headOf l i) : Nat)) l.length k).length := by rw [part_len hk]; omega
    refine WX.skip ?_
    refine thenK_normal ?_
    refine WX.seq ?_
    refine WX.block ?_
    refine WX.region ?_
    refine WO.o (by simp only [aop, S0, Nat.reduceEqDiff, reduceIte, s4]; first | done | with_reducible rfl) ?_
    refine WO.o (by simp only [aop, S0, Nat.reduceEqDiff, reduceIte, s5]; first | done | with_reducible rfl) ?_
    refine WO.o (by simp only [aop, S0, Nat.reduceEqDiff, reduceIte, s0]; first | done | with_reducible rfl) ?_
    refine WO.o (by simp only [aop, S0, Nat.reduceEqDiff, reduceIte, s5]; first | done | with_reducible rfl) ?_
    first | (refine WO.call (by simp only [List.map, S0, Nat.reduceEqDiff, reduceIte]; first | done | with_reducible rfl) ?_) | (refine WO.call (by simp only [List.map, S0, S1, decide_true, decide_false, Nat.reduceEqDiff, reduceIte, Int.reduceEq, Int.reduceLT, Int.reduceLE, *]; first | done | with_reducible rfl) ?_)
    refine (rhead_ok h1 v l (hs.ext e0) hb_1 k (by omega)).mono ?_
    rintro _ _ ⟨rfl, rfl⟩
    refine WO.o (SlI.idx' (by first | (simp only [S0, Nat.reduceEqDiff, reduceIte]; first | done | with_reducible rfl) | (simp only [S0, S1, decide_true, decide_false, Nat.reduceEqDiff, reduceIte, Int.reduceEq, Int.reduceLT, Int.reduceLE, *]; first | done | with_reducible rfl)) (by first | (simp only [S0, Nat.reduceEqDiff, reduceIte]; first | done | rfl) | (simp only [S0, S1, decide_true, decide_false, Nat.reduceEqDiff, reduceIte, Int.reduceEq, Int.reduceLT, Int.reduceLE, *]; first | done | rfl)) (by first | assumption | exact SlI.ext (by assumption) (by assumption) | exact OwnI.sl (by assumption) | exact OwnN.sl (by assumption)) (by first | omega | assumption | (simp only [List.length_map, List.length_set]; omega))) ?_
    refine WO.storeI (by first | (simp only [S0, Nat.reduceEqDiff, reduceIte]; first | done | with_reducible rfl) | (simp only [S0, S1, decide_true, decide_false, Nat.reduceEqDiff, reduceIte, Int.reduceEq, Int.reduceLT, Int.reduceLE, *]; first | done | with_reducible rfl)) (by first | (simp only [S0, Nat.reduceEqDiff, reduceIte]; first | done | with_reducible rfl) | (simp only [S0, S1, decide_true, decide_false, Nat.reduceEqDiff, reduceIte, Int.reduceEq, Int.reduceLT, Int.reduceLE, *]; first | done | with_reducible rfl)) (by assumption) (by assumption) (by first | omega | assumption | (simp only [List.length_map, List.length_set]; omega)) ?_
    intro h2 e2 o2 _
    refine WO.nil ?_
    refine blockK_normal ?_
    refine thenK_normal ?_
    refine WX.region ?_
    refine WO.o (by simp only [aop, S0, Nat.reduceEqDiff, reduceIte, s5]; first | done | with_reducible rfl) ?_
    refine WO.o (by simp only [aop, binV_add, Option.map_some, S0, Nat.reduceEqDiff, reduceIte]; first | (rw [wrap64 (by omega) (by omega)]) | with_reducible rfl) ?_
    refine WO.o (by simp only [aop, S0, Nat.reduceEqDiff, reduceIte]; first | done | with_reducible rfl) ?_
    refine WO.nil ?_
    rw [show ((headOf l k : Nat) : Int) = ((sub 0 0 (headOf l k) : Nat) : Int) by unfold sub; split <;> simp_all, part_set (f := fun i => ((sub 0 0 (headOf l i) : Nat) : Int)) (by omega)] at o2
    exact loopK_normal (k + 1) (by omega) ⟨e2, (by first | (simp only [S0, Nat.reduceEqDiff, reduceIte, s0, s5, s4]; first | done | rfl) | (simp only [S0, S1, decide_true, decide_false, Nat.reduceEqDiff, reduceIte, Int.reduceEq, Int.reduceLT, Int.reduceLE, *]; first | done | rfl)), (by first | (simp only [S0, Nat.reduceEqDiff, reduceIte, s0, s5, s4]; first | done | rfl) | (simp only [S0, S1, decide_true, decide_false, Nat.reduceEqDiff, reduceIte, Int.reduceEq, Int.reduceLT, Int.reduceLE, *]; first | done | rfl)), by omega, (by first | (simp only [S0, Nat.reduceEqDiff, reduceIte, s0, s5, s4]; first | done | rfl) | (simp only [S0, S1, decide_true, decide_false, Nat.reduceEqDiff, reduceIte, Int.reduceEq, Int.reduceLT, Int.reduceLE, *]; first | done | rfl)), o2⟩
  · refine WX.exit ?_
    refine thenK_exit ?_
    refine loopK_exit ?_
    refine blockK_exit ?_
    refine thenK_normal ?_
    refine WX.seq ?_
    refine WX.region ?_
    refine WO.o (by simp only [aop, S0, Nat.reduceEqDiff, reduceIte, s4]; first | done | with_reducible rfl) ?_
    refine WO.o (by simp only [aop, S0, Nat.reduceEqDiff, reduceIte]; first | done | with_reducible rfl) ?_
    refine WO.o (by simp only [aop, S0, Nat.reduceEqDiff, reduceIte]; first | done | with_reducible rfl) ?_
    refine WO.nil ?_
    refine thenK_normal ?_
    refine WX.ret ?_
    first | (refine retK_ret (by simp only [resultsA, resultA, S0, Nat.reduceEqDiff, reduceIte, s0, s5, s4]; rfl) ?_) | (refine retK_ret (by simp only [resultsA, resultA, S0, S1, decide_true, decide_false, Nat.reduceEqDiff, reduceIte, Int.reduceEq, Int.reduceLT, Int.reduceLE, *]; rfl) ?_)
    have : k = l.length := by omega
    subst this
    rw [part_all] at o
    exact ⟨_, rfl, e0, .inr o⟩

noncomputable def body28_0 : ACode := (.seq (.seq (.region [⟨some 20, none, (.mov (.tmp 10))⟩, ⟨some 21, none, (.mov (.tmp 0))⟩, ⟨some 22, none, (.len (.tmp 21))⟩, ⟨some 23, none, (.bin .lss (.tmp 20) (.tmp 22))⟩]) (.cond (.tmp 23) .skip (.exit 0))) (.seq (.block 1 (.seq (.region [⟨some 26, none, (.mov (.tmp 9))⟩, ⟨some 27, none, (.mov (.tmp 10))⟩, ⟨some 28, none, (.mov (.tmp 0))⟩, ⟨some 29, none, (.mov (.tmp 10))⟩, ⟨some 30, none, (.call (.func 26) [(.tmp 28), (.tmp 29)])⟩, ⟨some 31, none, (.idx 1 (.tmp 26) (.tmp 27))⟩, ⟨none, none, (.store 1 (.tmp 31) (.tmp 30))⟩]) (.seq (.region [⟨some 32, none, (.mov (.tmp 9))⟩, ⟨some 33, none, (.mov (.tmp 10))⟩, ⟨some 34, none, (.idx 1 (.tmp 32) (.tmp 33))⟩, ⟨some 35, none, (.load false 1 (.tmp 34))⟩, ⟨some 36, none, (.mov (.tmp 7))⟩, ⟨some 37, none, (.mov (.tmp 8))⟩, ⟨some 38, none, (.maxmin true [(.tmp 36), (.tmp 37)])⟩, ⟨some 39, none, (.bin .eql (.tmp 35) (.tmp 38))⟩]) (.cond (.tmp 39) (.region [⟨some 40, none, (.mov (.tmp 9))⟩, ⟨some 41, none, (.mov (.tmp 10))⟩, ⟨some 42, none, (.mov (.tmp 7))⟩, ⟨some 43, none, (.mov (.tmp 8))⟩, ⟨some 44, none, (.maxmin false [(.tmp 42), (.tmp 43)])⟩, ⟨some 45, none, (.idx 1 (.tmp 40) (.tmp 41))⟩, ⟨none, none, (.store 1 (.tmp 45) (.tmp 44))⟩]) .skip)))) (.region [⟨some 24, none, (.mov (.tmp 10))⟩, ⟨some 25, none, (.bin .add (.tmp 24) (.const (.int .i64 1)))⟩, ⟨some 10, none, (.mov (.tmp 25))⟩])))
noncomputable def body28 : ACode := (.seq (.region [⟨some 6, none, (.mov (.const (.slice none 0 0)))⟩]) (.seq (.region [⟨some 11, none, (.mov (.tmp 0))⟩, ⟨some 12, none, (.mov (.tmp 1))⟩, ⟨some 13, none, (.call (.func 26) [(.tmp 11), (.tmp 12)])⟩, ⟨some 14, none, (.mov (.tmp 0))⟩, ⟨some 15, none, (.mov (.tmp 2))⟩, ⟨some 16, none, (.call (.func 26) [(.tmp 14), (.tmp 15)])⟩, ⟨some 7, none, (.mov (.tmp 13))⟩, ⟨some 8, none, (.mov (.tmp 16))⟩]) (.seq (.region [⟨some 17, none, (.mov (.tmp 0))⟩, ⟨some 18, none, (.len (.tmp 17))⟩, ⟨some 19, none, (.mkSlice 1 [(.int .i64 0)] (.tmp 18) (.tmp 18))⟩, ⟨some 9, none, (.mov (.tmp 19))⟩]) (.seq (.seq (.region [⟨some 10, none, (.mov (.const (.int .i64 0)))⟩]) (.block 0 (.loop body28_0))) (.seq (.region [⟨some 46, none, (.mov (.tmp 9))⟩, ⟨some 6, none, (.mov (.tmp 46))⟩]) .ret)))))
set_option maxRecDepth 100000 in
theorem tab28 : tb.code 28 = some ⟨47, [(6, none)], body28⟩ := by kernel_rfl
theorem joined_ok (h : AHeap) (v : Value) (l : List Int) (hs : SlI h v l) (m : May l) (hl : l.length ≤ 1000) (a b : Nat) (ha : a < l.length) (hb : b < l.length) :
    WC Try.prog tb 28 [v, I a, I b] h fun r h' => Ext h h' ∧ OwnI h h' r (flatOf l (max (headOf l a) (headOf l b)) (min (headOf l a) (headOf l b))) := by
  refine WC.of (nostub _ rfl) tab28 ?_
  refine WX.seq ?_
  refine WX.region ?_
  refine WO.o (by simp only [aop, S0, Nat.reduceEqDiff, reduceIte]; first | done | with_reducible rfl) ?_
  refine WO.nil ?_
  refine thenK_normal ?_
  refine WX.seq ?_
  refine WX.region ?_
  refine WO.o (by simp only [aop, S0, Nat.reduceEqDiff, reduceIte]; first | done | with_reducible rfl) ?_
  refine WO.o (by simp only [aop, S0, Nat.reduceEqDiff, reduceIte]; first | done | with_reducible rfl) ?_
  first | (refine WO.call (by simp only [List.map, S0, Nat.reduceEqDiff, reduceIte]; first | done | with_reducible rfl) ?_) | (refine WO.call (by simp only [List.map, S0, S1, decide_true, decide_false, Nat.reduceEqDiff, reduceIte, Int.reduceEq, Int.reduceLT, Int.reduceLE, *]; first | done | with_reducible rfl) ?_)
  refine (rhead_ok h v l hs m a ha).mono ?_
  rintro _ _ ⟨rfl, rfl⟩
  refine WO.o (by simp only [aop, S0, Nat.reduceEqDiff, reduceIte]; first | done | with_reducible rfl) ?_
  refine WO.o (by simp only [aop, S0, Nat.reduceEqDiff, reduceIte]; first | done | with_reducible rfl) ?_
  first | (refine WO.call (by simp only [List.map, S0, Nat.reduceEqDiff, reduceIte]; first | done | with_reducible rfl) ?_) | (refine WO.call (by simp only [List.map, S0, S1, decide_true, decide_false, Nat.reduceEqDiff, reduceIte, Int.reduceEq, Int.reduceLT, Int.reduceLE, *]; first | done | with_reducible rfl) ?_)
  refine (rhead_ok h v l hs m b hb).mono ?_
  rintro _ _ ⟨rfl, rfl⟩
  generalize headOf l a = x
  generalize headOf l b = y
  refine WO.o (by simp only [aop, S0, Nat.reduceEqDiff, reduceIte]; first | done | with_reducible rfl) ?_
  refine WO.o (by simp only [aop, S0, Nat.reduceEqDiff, reduceIte]; first | done | with_reducible rfl) ?_
  refine WO.nil ?_
  refine thenK_normal ?_
  refine WX.seq ?_
  refine WX.region ?_
  refine WO.o (by simp only [aop, S0, Nat.reduceEqDiff, reduceIte]; first | done | with_reducible rfl) ?_
  refine WO.o (SlI.len' (by first | (simp only [S0, Nat.reduceEqDiff, reduceIte]; first | done | with_reducible rfl) | (simp only [S0, S1, decide_true, decide_false, Nat.reduceEqDiff, reduceIte, Int.reduceEq, Int.reduceLT, Int.reduceLE, *]; first | done | with_reducible rfl)) (by first | assumption | exact SlI.ext (by assumption) (by assumption) | exact OwnI.sl (by assumption) | exact OwnN.sl (by assumption))) ?_
  refine WO.mkI l.length (by first | (simp only [S0, Nat.reduceEqDiff, reduceIte]; first | done | rfl) | (simp only [S0, S1, decide_true, decide_false, Nat.reduceEqDiff, reduceIte, Int.reduceEq, Int.reduceLT, Int.reduceLE, *]; first | done | rfl)) (by first | (simp only [S0, Nat.reduceEqDiff, reduceIte]; first | done | rfl) | (simp only [S0, S1, decide_true, decide_false, Nat.reduceEqDiff, reduceIte, Int.reduceEq, Int.reduceLT, Int.reduceLE, *]; first | done | rfl)) (by first | omega | assumption | (simp only [List.length_map, List.length_set]; omega)) ?_
  intro v19 h19 e19 o19
  refine WO.o (by simp only [aop, S0, Nat.reduceEqDiff, reduceIte]; first | done | with_reducible rfl) ?_
  refine WO.nil ?_
  refine thenK_normal ?_
  refine WX.seq ?_
  refine WX.seq ?_
  refine WX.region ?_
  refine WO.o (by simp only [aop, S0, Nat.reduceEqDiff, reduceIte]; first | done | with_reducible rfl) ?_
  refine WO.nil ?_
  refine thenK_normal ?_
  refine WX.block ?_
  refine WX.loop (fun k => l.length - k) (fun k t h1 => Ext h h1 ∧ tmGet t 0 = v ∧ tmGet t 7 = I x ∧ tmGet t 8 = I y ∧ tmGet t 10 = I k ∧ k ≤ l.length ∧ tmGet t 9 = v19 ∧ OwnI h h1 v19 (part (fun i => (sub (max x y) (min x y) (headOf l i) : Nat)) l.length k)) 0 ?_ ?_
  · refine ⟨e19, (by first | (simp only [S0, Nat.reduceEqDiff, reduceIte]; first | done | rfl) | (simp only [S0, S1, decide_true, decide_false, Nat.reduceEqDiff, reduceIte, Int.reduceEq, Int.reduceLT, Int.reduceLE, *]; first | done | rfl)), (by first | (simp only [S0, Nat.reduceEqDiff, reduceIte]; first | done | rfl) | (simp only [S0, S1, decide_true, decide_false, Nat.reduceEqDiff, reduceIte, Int.reduceEq, Int.reduceLT, Int.reduceLE, *]; first | done | rfl)), (by first | (simp only [S0, Nat.reduceEqDiff, reduceIte]; first | done | rfl) | (simp only [S0, S1, decide_true, decide_false, Nat.reduceEqDiff, reduceIte, Int.reduceEq, Int.reduceLT, Int.reduceLE, *]; first | done | rfl)), (by first | (simp only [S0, Nat.reduceEqDiff, reduceIte]; first | done | rfl) | (simp only [S0, S1, decide_true, decide_false, Nat.reduceEqDiff, reduceIte, Int.reduceEq, Int.reduceLT, Int.reduceLE, *]; first | done | rfl)), Nat.zero_le _, (by first | (simp only [S0, Nat.reduceEqDiff, reduceIte]; first | done | rfl) | (simp only [S0, S1, decide_true, decide_false, Nat.reduceEqDiff, reduceIte, Int.reduceEq, Int.reduceLT, Int.reduceLE, *]; first | done | rfl)), by rw [part_zero]; exact o19⟩
  rintro k t h1 ⟨e0, s0, s7, s8, s10, hk, s9, o⟩
  refine WX.seq ?_
  refine WX.seq ?_
  refine WX.region ?_
  refine WO.o (by simp only [aop, S0, Nat.reduceEqDiff, reduceIte, s10]; first | done | with_reducible rfl) ?_
  refine WO.o (by simp only [aop, S0, Nat.reduceEqDiff, reduceIte, s0]; first | done | with_reducible rfl) ?_
  refine WO.o (SlI.len' (by first | (simp only [S0, Nat.reduceEqDiff, reduceIte]; first | done | with_reducible rfl) | (simp only [S0, S1, decide_true, decide_false, Nat.reduceEqDiff, reduceIte, Int.reduceEq, Int.reduceLT, Int.reduceLE, *]; first | done | with_reducible rfl)) (by first | assumption | exact SlI.ext (by assumption) (by assumption) | exact OwnI.sl (by assumption) | exact OwnN.sl (by assumption))) ?_
  refine WO.o (by simp only [aop, binV_lss, Option.map_some, S0, Nat.reduceEqDiff, reduceIte]; first | done | with_reducible rfl) ?_
  refine WO.nil ?_
  refine thenK_normal ?_
  refine WX.cond _ (by simp only [S0, Nat.reduceEqDiff, reduceIte, s0, s7, s8, s10, s9]; first | done | with_reducible rfl) (fun hb => ?_) (fun hb => ?_) <;> (try simp only [Bool.or_eq_true, Bool.and_eq_true, Bool.or_eq_false_iff, Bool.and_eq_false_iff, Bool.not_eq_true', Bool.not_eq_false', decide_eq_true_eq, decide_eq_false_iff_not, Int.not_lt, Int.not_le] at hb)
  · have hlen : k < (part (fun i => (sub (max x y) (min x y) (headOf l i) : Nat)) l.length k).length := by rw [part_len hk]; omega
    have hset := part_set (f := fun i => ((sub (max x y) (min x y) (headOf l i) : Nat) : Int)) (n := l.length) (k := k) (by omega)
    generalize part (fun i => (sub (max x y) (min x y) (headOf l i) : Nat)) l.length k = L at o hlen hset
    refine WX.skip ?_
    refine thenK_normal ?_
    refine WX.seq ?_
    refine WX.block ?_
    refine WX.seq ?_
    refine WX.region ?_
    refine WO.o (by simp only [aop, S0, Nat.reduceEqDiff, reduceIte, s9]; first | done | with_reducible rfl) ?_
    refine WO.o (by simp only [aop, S0, Nat.reduceEqDiff, reduceIte, s10]; first | done | with_reducible rfl) ?_
    refine WO.o (by simp only [aop, S0, Nat.reduceEqDiff, reduceIte, s0]; first | done | with_reducible rfl) ?_
    refine WO.o (by simp only [aop, S0, Nat.reduceEqDiff, reduceIte, s10]; first | done | with_reducible rfl) ?_
    first | (refine WO.call (by simp only [List.map, S0, Nat.reduceEqDiff, reduceIte]; first | done | with_reducible rfl) ?_) | (refine WO.call (by simp only [List.map, S0, S1, decide_true, decide_false, Nat.reduceEqDiff, reduceIte, Int.reduceEq, Int.reduceLT, Int.reduceLE, *]; first | done | with_reducible rfl) ?_)
    refine (rhead_ok h1 v l (hs.ext e0) m k (by omega)).mono ?_
    rintro _ _ ⟨rfl, rfl⟩
    refine WO.o (SlI.idx' (by first | (simp only [S0, Nat.reduceEqDiff, reduceIte]; first | done | with_reducible rfl) | (simp only [S0, S1, decide_true, decide_false, Nat.reduceEqDiff, reduceIte, Int.reduceEq, Int.reduceLT, Int.reduceLE, *]; first | done | with_reducible rfl)) (by first | (simp only [S0, Nat.reduceEqDiff, reduceIte]; first | done | rfl) | (simp only [S0, S1, decide_true, decide_false, Nat.reduceEqDiff, reduceIte, Int.reduceEq, Int.reduceLT, Int.reduceLE, *]; first | done | rfl)) (by first | assumption | exact SlI.ext (by assumption) (by assumption) | exact OwnI.sl (by assumption) | exact OwnN.sl (by assumption)) (by first | omega | assumption | (simp only [List.length_map, List.length_set]; omega))) ?_
    refine WO.storeI (by first | (simp only [S0, Nat.reduceEqDiff, reduceIte]; first | done | with_reducible rfl) | (simp only [S0, S1, decide_true, decide_false, Nat.reduceEqDiff, reduceIte, Int.reduceEq, Int.reduceLT, Int.reduceLE, *]; first | done | with_reducible rfl)) (by first | (simp only [S0, Nat.reduceEqDiff, reduceIte]; first | done | with_reducible rfl) | (simp only [S0, S1, decide_true, decide_false, Nat.reduceEqDiff, reduceIte, Int.reduceEq, Int.reduceLT, Int.reduceLE, *]; first | done | with_reducible rfl)) (by assumption) (by assumption) (by first | omega | assumption | (simp only [List.length_map, List.length_set]; omega)) ?_
    intro h2 e2 o2 _
    have hg2 := getD_set_self (l := L) (i := k) (a := (headOf l k : Int)) (by omega)
    refine WO.nil ?_
    refine thenK_normal ?_
    refine WX.seq ?_
    refine WX.region ?_
    refine WO.o (by simp only [aop, S0, Nat.reduceEqDiff, reduceIte, s9]; first | done | with_reducible rfl) ?_
    refine WO.o (by simp only [aop, S0, Nat.reduceEqDiff, reduceIte, s10]; first | done | with_reducible rfl) ?_
    refine WO.o (SlI.idx' (by first | (simp only [S0, Nat.reduceEqDiff, reduceIte]; first | done | with_reducible rfl) | (simp only [S0, S1, decide_true, decide_false, Nat.reduceEqDiff, reduceIte, Int.reduceEq, Int.reduceLT, Int.reduceLE, *]; first | done | with_reducible rfl)) (by first | (simp only [S0, Nat.reduceEqDiff, reduceIte]; first | done | rfl) | (simp only [S0, S1, decide_true, decide_false, Nat.reduceEqDiff, reduceIte, Int.reduceEq, Int.reduceLT, Int.reduceLE, *]; first | done | rfl)) (by first | assumption | exact SlI.ext (by assumption) (by assumption) | exact OwnI.sl (by assumption) | exact OwnN.sl (by assumption)) (by first | omega | assumption | (simp only [List.length_map, List.length_set]; omega))) ?_
    first | (refine WO.o (SlI.loadD (by first | (simp only [S0, Nat.reduceEqDiff, reduceIte]; first | done | with_reducible rfl) | (simp only [S0, S1, decide_true, decide_false, Nat.reduceEqDiff, reduceIte, Int.reduceEq, Int.reduceLT, Int.reduceLE, *]; first | done | with_reducible rfl)) (by first | assumption | exact SlI.ext (by assumption) (by assumption) | exact OwnI.sl (by assumption) | exact OwnN.sl (by assumption)) (by first | omega | assumption | (simp only [List.length_map, List.length_set]; omega))) ?_) | (refine WO.o (OwnC.load (by first | (simp only [S0, Nat.reduceEqDiff, reduceIte]; first | done | with_reducible rfl) | (simp only [S0, S1, decide_true, decide_false, Nat.reduceEqDiff, reduceIte, Int.reduceEq, Int.reduceLT, Int.reduceLE, *]; first | done | with_reducible rfl)) (by assumption) rfl) ?_) | (refine WO.o (OwnC.load0 (by first | (simp only [S0, Nat.reduceEqDiff, reduceIte]; first | done | with_reducible rfl) | (simp only [S0, S1, decide_true, decide_false, Nat.reduceEqDiff, reduceIte, Int.reduceEq, Int.reduceLT, Int.reduceLE, *]; first | done | with_reducible rfl)) (by assumption) rfl) ?_)
    refine WO.o (by simp only [aop, S0, Nat.reduceEqDiff, reduceIte, s7]; first | done | with_reducible rfl) ?_
    refine WO.o (by simp only [aop, S0, Nat.reduceEqDiff, reduceIte, s8]; first | done | with_reducible rfl) ?_
    refine WO.o (by simp only [aop, maxV_two, minV_two, List.map, Option.map_some, S0, Nat.reduceEqDiff, reduceIte]; first | done | with_reducible rfl) ?_
    refine WO.o (by simp only [aop, binV_eql, Option.map_some, S0, Nat.reduceEqDiff, reduceIte]; first | done | with_reducible rfl) ?_
    refine WO.nil ?_
    refine thenK_normal ?_
    refine WX.cond _ (by simp only [S0, Nat.reduceEqDiff, reduceIte, s0, s7, s8, s10, s9]; first | done | with_reducible rfl) (fun hb => ?_) (fun hb => ?_) <;> (try simp only [Bool.or_eq_true, Bool.and_eq_true, Bool.or_eq_false_iff, Bool.and_eq_false_iff, Bool.not_eq_true', Bool.not_eq_false', decide_eq_true_eq, decide_eq_false_iff_not, Int.not_lt, Int.not_le] at hb)
    · refine WX.region ?_
      refine WO.o (by simp only [aop, S0, Nat.reduceEqDiff, reduceIte, s9]; first | done | with_reducible rfl) ?_
      refine WO.o (by simp only [aop, S0, Nat.reduceEqDiff, reduceIte, s10]; first | done | with_reducible rfl) ?_
      refine WO.o (by simp only [aop, S0, Nat.reduceEqDiff, reduceIte, s7]; first | done | with_reducible rfl) ?_
      refine WO.o (by simp only [aop, S0, Nat.reduceEqDiff, reduceIte, s8]; first | done | with_reducible rfl) ?_
      refine WO.o (by simp only [aop, maxV_two, minV_two, List.map, Option.map_some, S0, Nat.reduceEqDiff, reduceIte]; first | done | with_reducible rfl) ?_
      refine WO.abs fun t1_ ht1_ => ?_
      have q1_0 := (ht1_ 0).trans (by simp only [S0, Nat.reduceEqDiff, reduceIte, s0]; first | done | with_reducible rfl)
      have q1_7 := (ht1_ 7).trans (by simp only [S0, Nat.reduceEqDiff, reduceIte, s7]; first | done | with_reducible rfl)
      have q1_8 := (ht1_ 8).trans (by simp only [S0, Nat.reduceEqDiff, reduceIte, s8]; first | done | with_reducible rfl)
      have q1_9 := (ht1_ 9).trans (by simp only [S0, Nat.reduceEqDiff, reduceIte, s9]; first | done | with_reducible rfl)
      have q1_10 := (ht1_ 10).trans (by simp only [S0, Nat.reduceEqDiff, reduceIte, s10]; first | done | with_reducible rfl)
      have q1_40 := (ht1_ 40).trans (by simp only [S0, Nat.reduceEqDiff, reduceIte]; first | done | with_reducible rfl)
      have q1_41 := (ht1_ 41).trans (by simp only [S0, Nat.reduceEqDiff, reduceIte]; first | done | with_reducible rfl)
      have q1_44 := (ht1_ 44).trans (by simp only [S0, Nat.reduceEqDiff, reduceIte]; first | done | with_reducible rfl)
      clear ht1_
      clear s0 s7 s8 s10 s9
      refine WO.o (SlI.idx' (by first | (simp only [S0, Nat.reduceEqDiff, reduceIte, q1_40, q1_41]; first | done | with_reducible rfl) | (simp only [S0, S1, decide_true, decide_false, Nat.reduceEqDiff, reduceIte, Int.reduceEq, Int.reduceLT, Int.reduceLE, *]; first | done | with_reducible rfl)) (by first | (simp only [S0, Nat.reduceEqDiff, reduceIte, q1_40, q1_41]; first | done | rfl) | (simp only [S0, S1, decide_true, decide_false, Nat.reduceEqDiff, reduceIte, Int.reduceEq, Int.reduceLT, Int.reduceLE, *]; first | done | rfl)) (by first | assumption | exact SlI.ext (by assumption) (by assumption) | exact OwnI.sl (by assumption) | exact OwnN.sl (by assumption)) (by first | omega | assumption | (simp only [List.length_map, List.length_set]; omega))) ?_
      refine WO.storeI (by first | (simp only [S0, Nat.reduceEqDiff, reduceIte, q1_44]; first | done | with_reducible rfl) | (simp only [S0, S1, decide_true, decide_false, Nat.reduceEqDiff, reduceIte, Int.reduceEq, Int.reduceLT, Int.reduceLE, *]; first | done | with_reducible rfl)) (by first | (simp only [S0, Nat.reduceEqDiff, reduceIte, q1_44]; first | done | with_reducible rfl) | (simp only [S0, S1, decide_true, decide_false, Nat.reduceEqDiff, reduceIte, Int.reduceEq, Int.reduceLT, Int.reduceLE, *]; first | done | with_reducible rfl)) (by assumption) (by assumption) (by first | omega | assumption | (simp only [List.length_map, List.length_set]; omega)) ?_
      intro h3 e3 o3 _
      refine WO.nil ?_
      refine blockK_normal ?_
      refine thenK_normal ?_
      refine WX.region ?_
      refine WO.o (by simp only [aop, S0, Nat.reduceEqDiff, reduceIte, q1_10]; first | done | with_reducible rfl) ?_
      refine WO.o (by simp only [aop, binV_add, Option.map_some, S0, Nat.reduceEqDiff, reduceIte]; first | (rw [wrap64 (by omega) (by omega)]) | with_reducible rfl) ?_
      refine WO.o (by simp only [aop, S0, Nat.reduceEqDiff, reduceIte]; first | done | with_reducible rfl) ?_
      refine WO.nil ?_
      rw [set_set_self, show min (x : Int) y = ((sub (max x y) (min x y) (headOf l k) : Nat) : Int) by unfold sub; rw [if_pos (by omega)]; omega, hset] at o3
      exact loopK_normal (k + 1) (by omega) ⟨e3, (by first | (simp only [S0, Nat.reduceEqDiff, reduceIte, s0, s7, s8, s10, s9]; first | done | rfl) | (simp only [S0, S1, decide_true, decide_false, Nat.reduceEqDiff, reduceIte, Int.reduceEq, Int.reduceLT, Int.reduceLE, *]; first | done | rfl)), (by first | (simp only [S0, Nat.reduceEqDiff, reduceIte, s0, s7, s8, s10, s9]; first | done | rfl) | (simp only [S0, S1, decide_true, decide_false, Nat.reduceEqDiff, reduceIte, Int.reduceEq, Int.reduceLT, Int.reduceLE, *]; first | done | rfl)), (by first | (simp only [S0, Nat.reduceEqDiff, reduceIte, s0, s7, s8, s10, s9]; first | done | rfl) | (simp only [S0, S1, decide_true, decide_false, Nat.reduceEqDiff, reduceIte, Int.reduceEq, Int.reduceLT, Int.reduceLE, *]; first | done | rfl)), (by first | (simp only [S0, Nat.reduceEqDiff, reduceIte, s0, s7, s8, s10, s9]; first | done | rfl) | (simp only [S0, S1, decide_true, decide_false, Nat.reduceEqDiff, reduceIte, Int.reduceEq, Int.reduceLT, Int.reduceLE, *]; first | done | rfl)), by omega, (by first | (simp only [S0, Nat.reduceEqDiff, reduceIte, s0, s7, s8, s10, s9]; first | done | rfl) | (simp only [S0, S1, decide_true, decide_false, Nat.reduceEqDiff, reduceIte, Int.reduceEq, Int.reduceLT, Int.reduceLE, *]; first | done | rfl)), o3⟩
    · refine WX.skip ?_
      refine blockK_normal ?_
      refine thenK_normal ?_
      refine WX.region ?_
      refine WO.o (by simp only [aop, S0, Nat.reduceEqDiff, reduceIte, s10]; first | done | with_reducible rfl) ?_
      refine WO.o (by simp only [aop, binV_add, Option.map_some, S0, Nat.reduceEqDiff, reduceIte]; first | (rw [wrap64 (by omega) (by omega)]) | with_reducible rfl) ?_
      refine WO.o (by simp only [aop, S0, Nat.reduceEqDiff, reduceIte]; first | done | with_reducible rfl) ?_
      refine WO.nil ?_
      rw [show (headOf l k : Int) = ((sub (max x y) (min x y) (headOf l k) : Nat) : Int) by unfold sub; rw [if_neg (by omega)], hset] at o2
      exact loopK_normal (k + 1) (by omega) ⟨e2, (by first | (simp only [S0, Nat.reduceEqDiff, reduceIte, s0, s7, s8, s10, s9]; first | done | rfl) | (simp only [S0, S1, decide_true, decide_false, Nat.reduceEqDiff, reduceIte, Int.reduceEq, Int.reduceLT, Int.reduceLE, *]; first | done | rfl)), (by first | (simp only [S0, Nat.reduceEqDiff, reduceIte, s0, s7, s8, s10, s9]; first | done | rfl) | (simp only [S0, S1, decide_true, decide_false, Nat.reduceEqDiff, reduceIte, Int.reduceEq, Int.reduceLT, Int.reduceLE, *]; first | done | rfl)), (by first | (simp only [S0, Nat.reduceEqDiff, reduceIte, s0, s7, s8, s10, s9]; first | done | rfl) | (simp only [S0, S1, decide_true, decide_false, Nat.reduceEqDiff, reduceIte, Int.reduceEq, Int.reduceLT, Int.reduceLE, *]; first | done | rfl)), (by first | (simp only [S0, Nat.reduceEqDiff, reduceIte, s0, s7, s8, s10, s9]; first | done | rfl) | (simp only [S0, S1, decide_true, decide_false, Nat.reduceEqDiff, reduceIte, Int.reduceEq, Int.reduceLT, Int.reduceLE, *]; first | done | rfl)), by omega, (by first | (simp only [S0, Nat.reduceEqDiff, reduceIte, s0, s7, s8, s10, s9]; first | done | rfl) | (simp only [S0, S1, decide_true, decide_false, Nat.reduceEqDiff, reduceIte, Int.reduceEq, Int.reduceLT, Int.reduceLE, *]; first | done | rfl)), o2⟩
  · refine WX.exit ?_
    refine thenK_exit ?_
    refine loopK_exit ?_
    refine blockK_exit ?_
    refine thenK_normal ?_
    refine WX.seq ?_
    refine WX.region ?_
    refine WO.o (by simp only [aop, S0, Nat.reduceEqDiff, reduceIte, s9]; first | done | with_reducible rfl) ?_
    refine WO.o (by simp only [aop, S0, Nat.reduceEqDiff, reduceIte]; first | done | with_reducible rfl) ?_
    refine WO.nil ?_
    refine thenK_normal ?_
    refine WX.ret ?_
    first | (refine retK_ret (by simp only [resultsA, resultA, S0, Nat.reduceEqDiff, reduceIte, s0, s7, s8, s10, s9]; rfl) ?_) | (refine retK_ret (by simp only [resultsA, resultA, S0, S1, decide_true, decide_false, Nat.reduceEqDiff, reduceIte, Int.reduceEq, Int.reduceLT, Int.reduceLE, *]; rfl) ?_)
    have : k = l.length := by omega
    subst this
    rw [part_all] at o
    exact ⟨e0, o⟩

def headS (l : List Int) (a : Int) : Int := if askOf l [a] = 0 then headOf l a.toNat else 0
theorem ask_one {l : List Int} {a : Int} (h : askOf l [a] = 0) : May l ∧ 0 ≤ a ∧ a < l.length := by
  unfold askOf at h
  split at h
  · split at h
    · rename_i m q; exact ⟨m, q a (by simp)⟩
    · cases h
  · cases h
theorem ask_two {l : List Int} {a b : Int} (h : askOf l [a, b] = 0) : May l ∧ (0 ≤ a ∧ a < l.length) ∧ 0 ≤ b ∧ b < l.length := by
  unfold askOf at h
  split at h
  · split at h
    · rename_i m q; exact ⟨m, q a (by simp), q b (by simp)⟩
    · cases h
  · cases h
theorem ask_none {l : List Int} : askOf l [] = if May l then 0 else 8 := by unfold askOf; simp

noncomputable def body12 : ACode := (.seq (.region [⟨some 4, none, (.mov (.const (.int .i64 0)))⟩, ⟨some 5, none, (.mov (.const (.int .i64 0)))⟩]) (.seq (.seq (.region [⟨some 7, none, (.mov (.tmp 0))⟩, ⟨some 8, none, (.mov (.tmp 1))⟩, ⟨some 9, none, (.buildSlice 1 1 [(.int .i64 0)] [(0, 1, (.tmp 8))])⟩, ⟨some 10, none, (.call (.func 23) [(.tmp 7), (.tmp 9)])⟩, ⟨some 6, none, (.mov (.tmp 10))⟩]) (.seq (.region [⟨some 11, none, (.mov (.tmp 6))⟩, ⟨some 12, none, (.bin .neq (.tmp 11) (.const (.int .i64 0)))⟩]) (.cond (.tmp 12) (.seq (.region [⟨some 13, none, (.mov (.tmp 6))⟩, ⟨some 4, none, (.mov (.const (.int .i64 0)))⟩, ⟨some 5, none, (.mov (.tmp 13))⟩]) .ret) .skip))) (.seq (.region [⟨some 14, none, (.mov (.tmp 0))⟩, ⟨some 15, none, (.mov (.tmp 1))⟩, ⟨some 16, none, (.call (.func 24) [(.tmp 14), (.tmp 15)])⟩, ⟨some 4, none, (.mov (.tmp 16))⟩, ⟨some 5, none, (.mov (.const (.int .i64 0)))⟩]) .ret)))
set_option maxRecDepth 100000 in
theorem tab12 : tb.code 12 = some ⟨17, [(4, none), (5, none)], body12⟩ := by kernel_rfl
theorem Head_ok (h : AHeap) (v : Value) (l : List Int) (hs : SlI h v l) (hl : l.length ≤ 1000) (a : Int) :
    WC Try.prog tb 12 [v, I a] h fun r h' => r = .tuple #[I (headS l a), I (askOf l [a])] ∧ Ext h h' := by
  refine WC.of (nostub _ rfl) tab12 ?_
  refine WX.seq ?_
  refine WX.region ?_
  refine WO.o (by simp only [aop, S0, Nat.reduceEqDiff, reduceIte]; first | done | with_reducible rfl) ?_
  refine WO.o (by simp only [aop, S0, Nat.reduceEqDiff, reduceIte]; first | done | with_reducible rfl) ?_
  refine WO.nil ?_
  refine thenK_normal ?_
  refine WX.seq ?_
  refine WX.seq ?_
  refine WX.region ?_
  refine WO.o (by simp only [aop, S0, Nat.reduceEqDiff, reduceIte]; first | done | with_reducible rfl) ?_
  refine WO.o (by simp only [aop, S0, Nat.reduceEqDiff, reduceIte]; first | done | with_reducible rfl) ?_
  refine WO.buildI [a] rfl (by first | rfl | (simp only [evParts, fillA, repl, putAt, List.map, S0, Nat.reduceEqDiff, reduceIte]; rfl)) ?_
  intro v9 h9 e9 o9
  have s9 := hs.ext e9
  first | (refine WO.call (by simp only [List.map, S0, Nat.reduceEqDiff, reduceIte]; first | done | with_reducible rfl) ?_) | (refine WO.call (by simp only [List.map, S0, S1, decide_true, decide_false, Nat.reduceEqDiff, reduceIte, Int.reduceEq, Int.reduceLT, Int.reduceLE, *]; first | done | with_reducible rfl) ?_)
  refine (asked_ok h9 v v9 l [a] s9 o9.sl (by omega) (by simp)).mono ?_
  rintro _ _ ⟨rfl, rfl⟩
  refine WO.o (by simp only [aop, S0, Nat.reduceEqDiff, reduceIte]; first | done | with_reducible rfl) ?_
  refine WO.nil ?_
  refine thenK_normal ?_
  refine WX.seq ?_
  refine WX.region ?_
  refine WO.o (by simp only [aop, S0, Nat.reduceEqDiff, reduceIte]; first | done | with_reducible rfl) ?_
  refine WO.o (by simp only [aop, binV_neq, Option.map_some, S0, Nat.reduceEqDiff, reduceIte]; first | done | with_reducible rfl) ?_
  refine WO.nil ?_
  refine thenK_normal ?_
  refine WX.cond _ (by simp only [S0, Nat.reduceEqDiff, reduceIte]; first | done | with_reducible rfl) (fun hb => ?_) (fun hb => ?_) <;> (try simp only [Bool.or_eq_true, Bool.and_eq_true, Bool.or_eq_false_iff, Bool.and_eq_false_iff, Bool.not_eq_true', Bool.not_eq_false', decide_eq_true_eq, decide_eq_false_iff_not, Int.not_lt, Int.not_le] at hb)
  · refine WX.seq ?_
    refine WX.region ?_
    refine WO.o (by simp only [aop, S0, Nat.reduceEqDiff, reduceIte]; first | done | with_reducible rfl) ?_
    refine WO.o (by simp only [aop, S0, Nat.reduceEqDiff, reduceIte]; first | done | with_reducible rfl) ?_
    refine WO.o (by simp only [aop, S0, Nat.reduceEqDiff, reduceIte]; first | done | with_reducible rfl) ?_
    refine WO.nil ?_
    refine thenK_normal ?_
    refine WX.ret ?_
    refine thenK_ret ?_
    first | (refine retK_ret (by simp only [resultsA, resultA, S0, Nat.reduceEqDiff, reduceIte]; rfl) ?_) | (refine retK_ret (by simp only [resultsA, resultA, S0, S1, decide_true, decide_false, Nat.reduceEqDiff, reduceIte, Int.reduceEq, Int.reduceLT, Int.reduceLE, *]; rfl) ?_)
    refine ⟨?_, e9⟩
    unfold headS; rw [if_neg hb]; rfl
  · obtain ⟨m, h1, h2⟩ := ask_one hb
    obtain ⟨n, rfl⟩ := Int.eq_ofNat_of_zero_le h1
    refine WX.skip ?_
    refine thenK_normal ?_
    refine WX.seq ?_
    refine WX.region ?_
    refine WO.o (by simp only [aop, S0, Nat.reduceEqDiff, reduceIte]; first | done | with_reducible rfl) ?_
    refine WO.o (by simp only [aop, S0, Nat.reduceEqDiff, reduceIte]; first | done | with_reducible rfl) ?_
    first | (refine WO.call (by simp only [List.map, S0, Nat.reduceEqDiff, reduceIte]; first | done | with_reducible rfl) ?_) | (refine WO.call (by simp only [List.map, S0, S1, decide_true, decide_false, Nat.reduceEqDiff, reduceIte, Int.reduceEq, Int.reduceLT, Int.reduceLE, *]; first | done | with_reducible rfl) ?_)
    refine (head_ok h9 v l s9 m n (by omega) hl).mono ?_
    rintro _ _ ⟨rfl, rfl⟩
    refine WO.o (by simp only [aop, S0, Nat.reduceEqDiff, reduceIte]; first | done | with_reducible rfl) ?_
    refine WO.o (by simp only [aop, S0, Nat.reduceEqDiff, reduceIte]; first | done | with_reducible rfl) ?_
    refine WO.nil ?_
    refine thenK_normal ?_
    refine WX.ret ?_
    first | (refine retK_ret (by simp only [resultsA, resultA, S0, Nat.reduceEqDiff, reduceIte]; rfl) ?_) | (refine retK_ret (by simp only [resultsA, resultA, S0, S1, decide_true, decide_false, Nat.reduceEqDiff, reduceIte, Int.reduceEq, Int.reduceLT, Int.reduceLE, *]; rfl) ?_)
    refine ⟨?_, e9⟩
    unfold headS; rw [if_pos hb, hb]; rfl

noncomputable def body13 : ACode := (.seq (.region [⟨some 4, none, (.mov (.const (.int .i64 0)))⟩, ⟨some 5, none, (.mov (.const (.int .i64 0)))⟩]) (.seq (.seq (.region [⟨some 6, none, (.mov (.tmp 0))⟩, ⟨some 7, none, (.call (.func 25) [(.tmp 6)])⟩, ⟨some 8, none, (.un .not (.tmp 7))⟩]) (.cond (.tmp 8) (.seq (.region [⟨some 4, none, (.mov (.const (.int .i64 0)))⟩, ⟨some 5, none, (.mov (.const (.int .i64 8)))⟩]) .ret) .skip)) (.seq (.seq (.region [⟨some 9, none, (.mov (.tmp 1))⟩, ⟨some 10, none, (.bin .lss (.tmp 9) (.const (.int .i64 0)))⟩, ⟨some 11, none, (.mov (.tmp 10))⟩, ⟨some 12, some (11, false), (.mov (.tmp 1))⟩, ⟨some 13, some (11, false), (.mov (.tmp 0))⟩, ⟨some 14, some (11, false), (.len (.tmp 13))⟩, ⟨some 15, some (11, false), (.bin .geq (.tmp 12) (.tmp 14))⟩, ⟨some 16, none, (.pick (.tmp 11) (.const (.bool true)) (.tmp 15))⟩]) (.cond (.tmp 16) (.seq (.region [⟨some 4, none, (.mov (.const (.int .i64 0)))⟩, ⟨some 5, none, (.mov (.const (.int .i64 2)))⟩]) .ret) .skip)) (.seq (.region [⟨some 17, none, (.mov (.tmp 0))⟩, ⟨some 18, none, (.mov (.tmp 1))⟩, ⟨some 19, none, (.call (.func 26) [(.tmp 17), (.tmp 18)])⟩, ⟨some 4, none, (.mov (.tmp 19))⟩, ⟨some 5, none, (.mov (.const (.int .i64 0)))⟩]) .ret))))
set_option maxRecDepth 100000 in
theorem tab13 : tb.code 13 = some ⟨20, [(4, none), (5, none)], body13⟩ := by kernel_rfl
theorem rHead_ok (h : AHeap) (v : Value) (l : List Int) (hs : SlI h v l) (hl : l.length ≤ 1000) (a : Int) :
    WC Try.prog tb 13 [v, I a] h fun r h' => r = .tuple #[I (headS l a), I (askOf l [a])] ∧ h = h' := by
  refine WC.of (nostub _ rfl) tab13 ?_
  refine WX.seq ?_
  refine WX.region ?_
  refine WO.o (by simp only [aop, S0, Nat.reduceEqDiff, reduceIte]; first | done | with_reducible rfl) ?_
  refine WO.o (by simp only [aop, S0, Nat.reduceEqDiff, reduceIte]; first | done | with_reducible rfl) ?_
  refine WO.nil ?_
  refine thenK_normal ?_
  refine WX.seq ?_
  refine WX.seq ?_
  refine WX.region ?_
  refine WO.o (by simp only [aop, S0, Nat.reduceEqDiff, reduceIte]; first | done | with_reducible rfl) ?_
  first | (refine WO.call (by simp only [List.map, S0, Nat.reduceEqDiff, reduceIte]; first | done | with_reducible rfl) ?_) | (refine WO.call (by simp only [List.map, S0, S1, decide_true, decide_false, Nat.reduceEqDiff, reduceIte, Int.reduceEq, Int.reduceLT, Int.reduceLE, *]; first | done | with_reducible rfl) ?_)
  refine (may_ok h v l hs (by omega)).mono ?_
  rintro _ _ ⟨rfl, rfl⟩
  refine WO.o (by simp only [aop, unV, Option.map_some, S0, Nat.reduceEqDiff, reduceIte]; first | done | with_reducible rfl) ?_
  refine WO.nil ?_
  refine thenK_normal ?_
  refine WX.cond _ (by simp only [S0, Nat.reduceEqDiff, reduceIte]; first | done | with_reducible rfl) (fun hb => ?_) (fun hb => ?_) <;> (try simp only [Bool.or_eq_true, Bool.and_eq_true, Bool.or_eq_false_iff, Bool.and_eq_false_iff, Bool.not_eq_true', Bool.not_eq_false', decide_eq_true_eq, decide_eq_false_iff_not, Int.not_lt, Int.not_le] at hb)
  · refine WX.seq ?_
    refine WX.region ?_
    refine WO.o (by simp only [aop, S0, Nat.reduceEqDiff, reduceIte]; first | done | with_reducible rfl) ?_
    refine WO.o (by simp only [aop, S0, Nat.reduceEqDiff, reduceIte]; first | done | with_reducible rfl) ?_
    refine WO.nil ?_
    refine thenK_normal ?_
    refine WX.ret ?_
    refine thenK_ret ?_
    first | (refine retK_ret (by simp only [resultsA, resultA, S0, Nat.reduceEqDiff, reduceIte]; rfl) ?_) | (refine retK_ret (by simp only [resultsA, resultA, S0, S1, decide_true, decide_false, Nat.reduceEqDiff, reduceIte, Int.reduceEq, Int.reduceLT, Int.reduceLE, *]; rfl) ?_)
    have : askOf l [a] = 8 := by unfold askOf; rw [if_neg hb]
    refine ⟨?_, rfl⟩
    unfold headS; rw [this]; rfl
  have m := hb
  refine WX.skip ?_
  refine thenK_normal ?_
  refine WX.seq ?_
  refine WX.seq ?_
  refine WX.region ?_
  refine WO.o (by simp only [aop, S0, Nat.reduceEqDiff, reduceIte]; first | done | with_reducible rfl) ?_
  refine WO.o (by simp only [aop, binV_lss, Option.map_some, S0, Nat.reduceEqDiff, reduceIte]; first | done | with_reducible rfl) ?_
  refine WO.o (by simp only [aop, S0, Nat.reduceEqDiff, reduceIte]; first | done | with_reducible rfl) ?_
  first | (refine WO.guard _ _ rfl (by simp only [S0, Nat.reduceEqDiff, reduceIte]; first | done | with_reducible rfl) (fun hb => (by simp only [aop, S0, Nat.reduceEqDiff, reduceIte, hb]; first | done | with_reducible rfl)) ?_) | (refine WO.guardT (by simp only [S0, S1, decide_true, decide_false, Nat.reduceEqDiff, reduceIte, Int.reduceEq, Int.reduceLT, Int.reduceLE, *]; first | done | with_reducible rfl) ?_; refine WO.o (by simp only [aop, S0, Nat.reduceEqDiff, reduceIte]; first | done | with_reducible rfl) ?_) | (refine WO.guardF (by simp only [S0, S1, decide_true, decide_false, Nat.reduceEqDiff, reduceIte, Int.reduceEq, Int.reduceLT, Int.reduceLE, *]; first | done | with_reducible rfl) ?_) | (refine WO.guardU (by simp only [S0, S1, decide_true, decide_false, Nat.reduceEqDiff, reduceIte, Int.reduceEq, Int.reduceLT, Int.reduceLE, *]; first | done | with_reducible rfl) ?_)
  first | (refine WO.guard _ _ rfl (by simp only [S0, Nat.reduceEqDiff, reduceIte]; first | done | with_reducible rfl) (fun hb => (by simp only [aop, S0, Nat.reduceEqDiff, reduceIte, hb]; first | done | with_reducible rfl)) ?_) | (refine WO.guardT (by simp only [S0, S1, decide_true, decide_false, Nat.reduceEqDiff, reduceIte, Int.reduceEq, Int.reduceLT, Int.reduceLE, *]; first | done | with_reducible rfl) ?_; refine WO.o (by simp only [aop, S0, Nat.reduceEqDiff, reduceIte]; first | done | with_reducible rfl) ?_) | (refine WO.guardF (by simp only [S0, S1, decide_true, decide_false, Nat.reduceEqDiff, reduceIte, Int.reduceEq, Int.reduceLT, Int.reduceLE, *]; first | done | with_reducible rfl) ?_) | (refine WO.guardU (by simp only [S0, S1, decide_true, decide_false, Nat.reduceEqDiff, reduceIte, Int.reduceEq, Int.reduceLT, Int.reduceLE, *]; first | done | with_reducible rfl) ?_)
  first | (refine WO.guard _ _ rfl (by simp only [S0, Nat.reduceEqDiff, reduceIte]; first | done | with_reducible rfl) (fun hb => (SlI.len' (by first | (simp only [S0, Nat.reduceEqDiff, reduceIte, hb]; first | done | with_reducible rfl) | (simp only [S0, S1, decide_true, decide_false, Nat.reduceEqDiff, reduceIte, Int.reduceEq, Int.reduceLT, Int.reduceLE, *]; first | done | with_reducible rfl)) (by first | assumption | exact SlI.ext (by assumption) (by assumption) | exact OwnI.sl (by assumption) | exact OwnN.sl (by assumption)))) ?_) | (refine WO.guardT (by simp only [S0, S1, decide_true, decide_false, Nat.reduceEqDiff, reduceIte, Int.reduceEq, Int.reduceLT, Int.reduceLE, *]; first | done | with_reducible rfl) ?_; refine WO.o (SlI.len' (by first | (simp only [S0, Nat.reduceEqDiff, reduceIte]; first | done | with_reducible rfl) | (simp only [S0, S1, decide_true, decide_false, Nat.reduceEqDiff, reduceIte, Int.reduceEq, Int.reduceLT, Int.reduceLE, *]; first | done | with_reducible rfl)) (by first | assumption | exact SlI.ext (by assumption) (by assumption) | exact OwnI.sl (by assumption) | exact OwnN.sl (by assumption))) ?_) | (refine WO.guardF (by simp only [S0, S1, decide_true, decide_false, Nat.reduceEqDiff, reduceIte, Int.reduceEq, Int.reduceLT, Int.reduceLE, *]; first | done | with_reducible rfl) ?_) | (refine WO.guardU (by simp only [S0, S1, decide_true, decide_false, Nat.reduceEqDiff, reduceIte, Int.reduceEq, Int.reduceLT, Int.reduceLE, *]; first | done | with_reducible rfl) ?_)
  first | (refine WO.guard _ _ rfl (by simp only [S0, Nat.reduceEqDiff, reduceIte]; first | done | with_reducible rfl) (fun hb => (by simp only [aop, binV_geq, Option.map_some, S0, Nat.reduceEqDiff, reduceIte, hb]; first | done | with_reducible rfl)) ?_) | (refine WO.guardT (by simp only [S0, S1, decide_true, decide_false, Nat.reduceEqDiff, reduceIte, Int.reduceEq, Int.reduceLT, Int.reduceLE, *]; first | done | with_reducible rfl) ?_; refine WO.o (by simp only [aop, binV_geq, Option.map_some, S0, Nat.reduceEqDiff, reduceIte]; first | done | with_reducible rfl) ?_) | (refine WO.guardF (by simp only [S0, S1, decide_true, decide_false, Nat.reduceEqDiff, reduceIte, Int.reduceEq, Int.reduceLT, Int.reduceLE, *]; first | done | with_reducible rfl) ?_) | (refine WO.guardU (by simp only [S0, S1, decide_true, decide_false, Nat.reduceEqDiff, reduceIte, Int.reduceEq, Int.reduceLT, Int.reduceLE, *]; first | done | with_reducible rfl) ?_)
  refine WO.o (by simp only [aop, pick_or, pick_and, S0, Nat.reduceEqDiff, reduceIte]; first | done | with_reducible rfl) ?_
  refine WO.nil ?_
  refine thenK_normal ?_
  refine WX.cond _ (by simp only [S0, Nat.reduceEqDiff, reduceIte]; first | done | with_reducible rfl) (fun hb => ?_) (fun hb => ?_) <;> (try simp only [Bool.or_eq_true, Bool.and_eq_true, Bool.or_eq_false_iff, Bool.and_eq_false_iff, Bool.not_eq_true', Bool.not_eq_false', decide_eq_true_eq, decide_eq_false_iff_not, Int.not_lt, Int.not_le] at hb)
  · refine WX.seq ?_
    refine WX.region ?_
    refine WO.o (by simp only [aop, S0, Nat.reduceEqDiff, reduceIte]; first | done | with_reducible rfl) ?_
    refine WO.o (by simp only [aop, S0, Nat.reduceEqDiff, reduceIte]; first | done | with_reducible rfl) ?_
    refine WO.nil ?_
    refine thenK_normal ?_
    refine WX.ret ?_
    refine thenK_ret ?_
    first | (refine retK_ret (by simp only [resultsA, resultA, S0, Nat.reduceEqDiff, reduceIte]; rfl) ?_) | (refine retK_ret (by simp only [resultsA, resultA, S0, S1, decide_true, decide_false, Nat.reduceEqDiff, reduceIte, Int.reduceEq, Int.reduceLT, Int.reduceLE, *]; rfl) ?_)
    have : askOf l [a] = 2 := by unfold askOf; rw [if_pos m, if_neg (fun q => by have := q a (by simp); omega)]
    refine ⟨?_, rfl⟩
    unfold headS; rw [this]; rfl
  · obtain ⟨n, rfl⟩ := Int.eq_ofNat_of_zero_le hb.1
    refine WX.skip ?_
    refine thenK_normal ?_
    refine WX.seq ?_
    refine WX.region ?_
    refine WO.o (by simp only [aop, S0, Nat.reduceEqDiff, reduceIte]; first | done | with_reducible rfl) ?_
    refine WO.o (by simp only [aop, S0, Nat.reduceEqDiff, reduceIte]; first | done | with_reducible rfl) ?_
    first | (refine WO.call (by simp only [List.map, S0, Nat.reduceEqDiff, reduceIte]; first | done | with_reducible rfl) ?_) | (refine WO.call (by simp only [List.map, S0, S1, decide_true, decide_false, Nat.reduceEqDiff, reduceIte, Int.reduceEq, Int.reduceLT, Int.reduceLE, *]; first | done | with_reducible rfl) ?_)
    refine (rhead_ok h v l hs m n (by omega)).mono ?_
    rintro _ _ ⟨rfl, rfl⟩
    refine WO.o (by simp only [aop, S0, Nat.reduceEqDiff, reduceIte]; first | done | with_reducible rfl) ?_
    refine WO.o (by simp only [aop, S0, Nat.reduceEqDiff, reduceIte]; first | done | with_reducible rfl) ?_
    refine WO.nil ?_
    refine thenK_normal ?_
    refine WX.ret ?_
    first | (refine retK_ret (by simp only [resultsA, resultA, S0, Nat.reduceEqDiff, reduceIte]; rfl) ?_) | (refine retK_ret (by simp only [resultsA, resultA, S0, S1, decide_true, decide_false, Nat.reduceEqDiff, reduceIte, Int.reduceEq, Int.reduceLT, Int.reduceLE, *]; rfl) ?_)
    have : askOf l [(n : Int)] = 0 := by unfold askOf; rw [if_pos m, if_pos (fun a ha => by simp at ha; omega)]
    refine ⟨?_, rfl⟩
    unfold headS; rw [this]; rfl

def flatS (l : List Int) : List Int := if May l then flatOf l 0 0 else []
noncomputable def body14 : ACode := (.seq (.region [⟨some 2, none, (.mov (.const (.slice none 0 0)))⟩, ⟨some 3, none, (.mov (.const (.int .i64 0)))⟩]) (.seq (.seq (.region [⟨some 5, none, (.mov (.tmp 0))⟩, ⟨some 6, none, (.call (.func 23) [(.tmp 5), (.const (.slice none 0 0))])⟩, ⟨some 4, none, (.mov (.tmp 6))⟩]) (.seq (.region [⟨some 7, none, (.mov (.tmp 4))⟩, ⟨some 8, none, (.bin .neq (.tmp 7) (.const (.int .i64 0)))⟩]) (.cond (.tmp 8) (.seq (.region [⟨some 9, none, (.mov (.tmp 4))⟩, ⟨some 2, none, (.mov (.const (.slice none 0 0)))⟩, ⟨some 3, none, (.mov (.tmp 9))⟩]) .ret) .skip))) (.seq (.region [⟨some 10, none, (.mov (.tmp 0))⟩, ⟨some 11, none, (.call (.func 27) [(.tmp 10), (.const (.int .i64 0)), (.const (.int .i64 0))])⟩, ⟨some 2, none, (.mov (.tmp 11))⟩, ⟨some 3, none, (.mov (.const (.int .i64 0)))⟩]) .ret)))
set_option maxRecDepth 100000 in
theorem tab14 : tb.code 14 = some ⟨12, [(2, none), (3, none)], body14⟩ := by kernel_rfl
theorem Flat_ok (h : AHeap) (v : Value) (l : List Int) (hs : SlI h v l) (hl : l.length ≤ 1000) :
    WC Try.prog tb 14 [v] h fun r h' => ∃ w, r = .tuple #[w, I (if May l then 0 else 8)] ∧ Ext h h' ∧ OwnN h h' w (flatS l) := by
  refine WC.of (nostub _ rfl) tab14 ?_
  refine WX.seq ?_
  refine WX.region ?_
  refine WO.o (by simp only [aop, S0, Nat.reduceEqDiff, reduceIte]; first | done | with_reducible rfl) ?_
  refine WO.o (by simp only [aop, S0, Nat.reduceEqDiff, reduceIte]; first | done | with_reducible rfl) ?_
  refine WO.nil ?_
  refine thenK_normal ?_
  refine WX.seq ?_
  refine WX.seq ?_
  refine WX.region ?_
  refine WO.o (by simp only [aop, S0, Nat.reduceEqDiff, reduceIte]; first | done | with_reducible rfl) ?_
  first | (refine WO.call (by simp only [List.map, S0, Nat.reduceEqDiff, reduceIte]; first | done | with_reducible rfl) ?_) | (refine WO.call (by simp only [List.map, S0, S1, decide_true, decide_false, Nat.reduceEqDiff, reduceIte, Int.reduceEq, Int.reduceLT, Int.reduceLE, *]; first | done | with_reducible rfl) ?_)
  refine (asked_ok h v _ l [] hs (SlI.nil h) (by omega) (by simp)).mono ?_
  rintro _ _ ⟨rfl, rfl⟩
  rw [ask_none]
  unfold flatS
  by_cases m : May l
  case neg =>
    rw [if_neg m, if_neg m]
    refine WO.o (by simp only [aop, S0, Nat.reduceEqDiff, reduceIte]; first | done | with_reducible rfl) ?_
    refine WO.nil ?_
    refine thenK_normal ?_
    refine WX.seq ?_
    refine WX.region ?_
    refine WO.o (by simp only [aop, S0, Nat.reduceEqDiff, reduceIte]; first | done | with_reducible rfl) ?_
    refine WO.o (by simp only [aop, binV_neq, Option.map_some, S0, Nat.reduceEqDiff, reduceIte]; first | done | with_reducible rfl) ?_
    refine WO.nil ?_
    refine thenK_normal ?_
    first | (refine WX.condT (by simp only [S0, Nat.reduceEqDiff, reduceIte]; first | done | with_reducible rfl) ?_) | (refine WX.condT (by simp only [S0, S1, decide_true, decide_false, Nat.reduceEqDiff, reduceIte, Int.reduceEq, Int.reduceLT, Int.reduceLE, *]; first | done | with_reducible rfl) ?_)
    refine WX.seq ?_
    refine WX.region ?_
    refine WO.o (by simp only [aop, S0, Nat.reduceEqDiff, reduceIte]; first | done | with_reducible rfl) ?_
    refine WO.o (by simp only [aop, S0, Nat.reduceEqDiff, reduceIte]; first | done | with_reducible rfl) ?_
    refine WO.o (by simp only [aop, S0, Nat.reduceEqDiff, reduceIte]; first | done | with_reducible rfl) ?_
    refine WO.nil ?_
    refine thenK_normal ?_
    refine WX.ret ?_
    refine thenK_ret ?_
    first | (refine retK_ret (by simp only [resultsA, resultA, S0, Nat.reduceEqDiff, reduceIte]; rfl) ?_) | (refine retK_ret (by simp only [resultsA, resultA, S0, S1, decide_true, decide_false, Nat.reduceEqDiff, reduceIte, Int.reduceEq, Int.reduceLT, Int.reduceLE, *]; rfl) ?_)
    exact ⟨_, rfl, Ext.refl h, .inl ⟨rfl, rfl⟩⟩
  rw [if_pos m, if_pos m]
  refine WO.o (by simp only [aop, S0, Nat.reduceEqDiff, reduceIte]; first | done | with_reducible rfl) ?_
  refine WO.nil ?_
  refine thenK_normal ?_
  refine WX.seq ?_
  refine WX.region ?_
  refine WO.o (by simp only [aop, S0, Nat.reduceEqDiff, reduceIte]; first | done | with_reducible rfl) ?_
  refine WO.o (by simp only [aop, binV_neq, Option.map_some, S0, Nat.reduceEqDiff, reduceIte]; first | done | with_reducible rfl) ?_
  refine WO.nil ?_
  refine thenK_normal ?_
  first | (refine WX.condF (by simp only [S0, Nat.reduceEqDiff, reduceIte]; first | done | with_reducible rfl) ?_) | (refine WX.condF (by simp only [S0, S1, decide_true, decide_false, Nat.reduceEqDiff, reduceIte, Int.reduceEq, Int.reduceLT, Int.reduceLE, *]; first | done | with_reducible rfl) ?_)
  refine WX.skip ?_
  refine thenK_normal ?_
  refine WX.seq ?_
  refine WX.region ?_
  refine WO.o (by simp only [aop, S0, Nat.reduceEqDiff, reduceIte]; first | done | with_reducible rfl) ?_
  first | (refine WO.call (by simp only [List.map, S0, Nat.reduceEqDiff, reduceIte]; first | done | with_reducible rfl) ?_) | (refine WO.call (by simp only [List.map, S0, S1, decide_true, decide_false, Nat.reduceEqDiff, reduceIte, Int.reduceEq, Int.reduceLT, Int.reduceLE, *]; first | done | with_reducible rfl) ?_)
  refine (flat_ok h v l hs m hl 0 0).mono ?_
  rintro r h1 ⟨e1, o1⟩
  refine WO.o (by simp only [aop, S0, Nat.reduceEqDiff, reduceIte]; first | done | with_reducible rfl) ?_
  refine WO.o (by simp only [aop, S0, Nat.reduceEqDiff, reduceIte]; first | done | with_reducible rfl) ?_
  refine WO.nil ?_
  refine thenK_normal ?_
  refine WX.ret ?_
  first | (refine retK_ret (by simp only [resultsA, resultA, S0, Nat.reduceEqDiff, reduceIte]; rfl) ?_) | (refine retK_ret (by simp only [resultsA, resultA, S0, S1, decide_true, decide_false, Nat.reduceEqDiff, reduceIte, Int.reduceEq, Int.reduceLT, Int.reduceLE, *]; rfl) ?_)
  exact ⟨r, rfl, e1, .inr o1⟩

def joinS (l : List Int) (a b : Int) : List Int := if askOf l [a, b] = 0 then jn l a.toNat b.toNat else []
noncomputable def body16 : ACode := (.seq (.region [⟨some 6, none, (.mov (.const (.slice none 0 0)))⟩, ⟨some 7, none, (.mov (.const (.int .i64 0)))⟩]) (.seq (.seq (.region [⟨some 11, none, (.mov (.tmp 0))⟩, ⟨some 12, none, (.mov (.tmp 1))⟩, ⟨some 13, none, (.mov (.tmp 2))⟩, ⟨some 14, none, (.buildSlice 2 1 [(.int .i64 0)] [(0, 1, (.tmp 12)), (1, 1, (.tmp 13))])⟩, ⟨some 15, none, (.call (.func 23) [(.tmp 11), (.tmp 14)])⟩, ⟨some 8, none, (.mov (.tmp 15))⟩]) (.seq (.region [⟨some 16, none, (.mov (.tmp 8))⟩, ⟨some 17, none, (.bin .neq (.tmp 16) (.const (.int .i64 0)))⟩]) (.cond (.tmp 17) (.seq (.region [⟨some 18, none, (.mov (.tmp 8))⟩, ⟨some 6, none, (.mov (.const (.slice none 0 0)))⟩, ⟨some 7, none, (.mov (.tmp 18))⟩]) .ret) .skip))) (.seq (.region [⟨some 19, none, (.mov (.tmp 0))⟩, ⟨some 20, none, (.mov (.tmp 1))⟩, ⟨some 21, none, (.call (.func 24) [(.tmp 19), (.tmp 20)])⟩, ⟨some 22, none, (.mov (.tmp 0))⟩, ⟨some 23, none, (.mov (.tmp 2))⟩, ⟨some 24, none, (.call (.func 24) [(.tmp 22), (.tmp 23)])⟩, ⟨some 9, none, (.mov (.tmp 21))⟩, ⟨some 10, none, (.mov (.tmp 24))⟩]) (.seq (.region [⟨some 25, none, (.mov (.tmp 0))⟩, ⟨some 26, none, (.mov (.tmp 9))⟩, ⟨some 27, none, (.mov (.tmp 10))⟩, ⟨some 28, none, (.maxmin true [(.tmp 26), (.tmp 27)])⟩, ⟨some 29, none, (.mov (.tmp 9))⟩, ⟨some 30, none, (.mov (.tmp 10))⟩, ⟨some 31, none, (.maxmin false [(.tmp 29), (.tmp 30)])⟩, ⟨some 32, none, (.call (.func 27) [(.tmp 25), (.tmp 28), (.tmp 31)])⟩, ⟨some 6, none, (.mov (.tmp 32))⟩, ⟨some 7, none, (.mov (.const (.int .i64 0)))⟩]) .ret))))
set_option maxRecDepth 100000 in
theorem tab16 : tb.code 16 = some ⟨33, [(6, none), (7, none)], body16⟩ := by kernel_rfl
theorem Join_ok (h : AHeap) (v : Value) (l : List Int) (hs : SlI h v l) (hl : l.length ≤ 1000) (a b : Int) :
    WC Try.prog tb 16 [v, I a, I b] h fun r h' => ∃ w, r = .tuple #[w, I (askOf l [a, b])] ∧ Ext h h' ∧ OwnN h h' w (joinS l a b) := by
  refine WC.of (nostub _ rfl) tab16 ?_
  refine WX.seq ?_
  refine WX.region ?_
  refine WO.o (by simp only [aop, S0, Nat.reduceEqDiff, reduceIte]; first | done | with_reducible rfl) ?_
  refine WO.o (by simp only [aop, S0, Nat.reduceEqDiff, reduceIte]; first | done | with_reducible rfl) ?_
  refine WO.nil ?_
  refine thenK_normal ?_
  refine WX.seq ?_
  refine WX.seq ?_
  refine WX.region ?_
  refine WO.o (by simp only [aop, S0, Nat.reduceEqDiff, reduceIte]; first | done | with_reducible rfl) ?_
  refine WO.o (by simp only [aop, S0, Nat.reduceEqDiff, reduceIte]; first | done | with_reducible rfl) ?_
  refine WO.o (by simp only [aop, S0, Nat.reduceEqDiff, reduceIte]; first | done | with_reducible rfl) ?_
  refine WO.buildI [a, b] rfl (by first | rfl | (simp only [evParts, fillA, repl, putAt, List.map, S0, Nat.reduceEqDiff, reduceIte]; rfl)) ?_
  intro v14 h14 e14 o14
  have s14 := hs.ext e14
  first | (refine WO.call (by simp only [List.map, S0, Nat.reduceEqDiff, reduceIte]; first | done | with_reducible rfl) ?_) | (refine WO.call (by simp only [List.map, S0, S1, decide_true, decide_false, Nat.reduceEqDiff, reduceIte, Int.reduceEq, Int.reduceLT, Int.reduceLE, *]; first | done | with_reducible rfl) ?_)
  refine (asked_ok h14 v v14 l [a, b] s14 o14.sl (by omega) (by simp)).mono ?_
  rintro _ _ ⟨rfl, rfl⟩
  unfold joinS
  refine WO.o (by simp only [aop, S0, Nat.reduceEqDiff, reduceIte]; first | done | with_reducible rfl) ?_
  refine WO.nil ?_
  refine thenK_normal ?_
  refine WX.seq ?_
  refine WX.region ?_
  refine WO.o (by simp only [aop, S0, Nat.reduceEqDiff, reduceIte]; first | done | with_reducible rfl) ?_
  refine WO.o (by simp only [aop, binV_neq, Option.map_some, S0, Nat.reduceEqDiff, reduceIte]; first | done | with_reducible rfl) ?_
  refine WO.nil ?_
  refine thenK_normal ?_
  refine WX.cond _ (by simp only [S0, Nat.reduceEqDiff, reduceIte]; first | done | with_reducible rfl) (fun hb => ?_) (fun hb => ?_) <;> (try simp only [Bool.or_eq_true, Bool.and_eq_true, Bool.or_eq_false_iff, Bool.and_eq_false_iff, Bool.not_eq_true', Bool.not_eq_false', decide_eq_true_eq, decide_eq_false_iff_not, Int.not_lt, Int.not_le] at hb)
  · refine WX.seq ?_
    refine WX.region ?_
    refine WO.o (by simp only [aop, S0, Nat.reduceEqDiff, reduceIte]; first | done | with_reducible rfl) ?_
    refine WO.o (by simp only [aop, S0, Nat.reduceEqDiff, reduceIte]; first | done | with_reducible rfl) ?_
    refine WO.o (by simp only [aop, S0, Nat.reduceEqDiff, reduceIte]; first | done | with_reducible rfl) ?_
    refine WO.nil ?_
    refine thenK_normal ?_
    refine WX.ret ?_
    refine thenK_ret ?_
    first | (refine retK_ret (by simp only [resultsA, resultA, S0, Nat.reduceEqDiff, reduceIte]; rfl) ?_) | (refine retK_ret (by simp only [resultsA, resultA, S0, S1, decide_true, decide_false, Nat.reduceEqDiff, reduceIte, Int.reduceEq, Int.reduceLT, Int.reduceLE, *]; rfl) ?_)
    rw [if_neg hb]
    exact ⟨_, rfl, e14, .inl ⟨rfl, rfl⟩⟩
  · obtain ⟨m, ⟨h1, h2⟩, h3, h4⟩ := ask_two hb
    rw [if_pos hb, hb]
    obtain ⟨n, rfl⟩ := Int.eq_ofNat_of_zero_le h1
    obtain ⟨k, rfl⟩ := Int.eq_ofNat_of_zero_le h3
    clear hb
    refine WX.skip ?_
    refine thenK_normal ?_
    refine WX.seq ?_
    refine WX.region ?_
    refine WO.o (by simp only [aop, S0, Nat.reduceEqDiff, reduceIte]; first | done | with_reducible rfl) ?_
    refine WO.o (by simp only [aop, S0, Nat.reduceEqDiff, reduceIte]; first | done | with_reducible rfl) ?_
    first | (refine WO.call (by simp only [List.map, S0, Nat.reduceEqDiff, reduceIte]; first | done | with_reducible rfl) ?_) | (refine WO.call (by simp only [List.map, S0, S1, decide_true, decide_false, Nat.reduceEqDiff, reduceIte, Int.reduceEq, Int.reduceLT, Int.reduceLE, *]; first | done | with_reducible rfl) ?_)
    refine (head_ok h14 v l s14 m n (by omega) hl).mono ?_
    rintro _ _ ⟨rfl, rfl⟩
    refine WO.o (by simp only [aop, S0, Nat.reduceEqDiff, reduceIte]; first | done | with_reducible rfl) ?_
    refine WO.o (by simp only [aop, S0, Nat.reduceEqDiff, reduceIte]; first | done | with_reducible rfl) ?_
    first | (refine WO.call (by simp only [List.map, S0, Nat.reduceEqDiff, reduceIte]; first | done | with_reducible rfl) ?_) | (refine WO.call (by simp only [List.map, S0, S1, decide_true, decide_false, Nat.reduceEqDiff, reduceIte, Int.reduceEq, Int.reduceLT, Int.reduceLE, *]; first | done | with_reducible rfl) ?_)
    refine (head_ok h14 v l s14 m k (by omega) hl).mono ?_
    rintro _ _ ⟨rfl, rfl⟩
    refine WO.o (by simp only [aop, S0, Nat.reduceEqDiff, reduceIte]; first | done | with_reducible rfl) ?_
    refine WO.o (by simp only [aop, S0, Nat.reduceEqDiff, reduceIte]; first | done | with_reducible rfl) ?_
    refine WO.nil ?_
    refine thenK_normal ?_
    refine WX.seq ?_
    refine WX.region ?_
    refine WO.o (by simp only [aop, S0, Nat.reduceEqDiff, reduceIte]; first | done | with_reducible rfl) ?_
    refine WO.o (by simp only [aop, S0, Nat.reduceEqDiff, reduceIte]; first | done | with_reducible rfl) ?_
    refine WO.o (by simp only [aop, S0, Nat.reduceEqDiff, reduceIte]; first | done | with_reducible rfl) ?_
    refine WO.o (by simp only [aop, maxV_two, minV_two, List.map, Option.map_some, S0, Nat.reduceEqDiff, reduceIte]; first | done | with_reducible rfl) ?_
    refine WO.o (by simp only [aop, S0, Nat.reduceEqDiff, reduceIte]; first | done | with_reducible rfl) ?_
    refine WO.o (by simp only [aop, S0, Nat.reduceEqDiff, reduceIte]; first | done | with_reducible rfl) ?_
    refine WO.abs fun t2_ ht2_ => ?_
    have q2_25 := (ht2_ 25).trans (by simp only [S0, Nat.reduceEqDiff, reduceIte]; first | done | with_reducible rfl)
    have q2_28 := (ht2_ 28).trans (by simp only [S0, Nat.reduceEqDiff, reduceIte]; first | done | with_reducible rfl)
    have q2_29 := (ht2_ 29).trans (by simp only [S0, Nat.reduceEqDiff, reduceIte]; first | done | with_reducible rfl)
    have q2_30 := (ht2_ 30).trans (by simp only [S0, Nat.reduceEqDiff, reduceIte]; first | done | with_reducible rfl)
    clear ht2_
    refine WO.o (by simp only [aop, maxV_two, minV_two, List.map, Option.map_some, S0, Nat.reduceEqDiff, reduceIte, q2_29, q2_30]; first | done | with_reducible rfl) ?_
    first | (refine WO.call (by simp only [List.map, S0, Nat.reduceEqDiff, reduceIte, q2_25, q2_28]; first | done | with_reducible rfl) ?_) | (refine WO.call (by simp only [List.map, S0, S1, decide_true, decide_false, Nat.reduceEqDiff, reduceIte, Int.reduceEq, Int.reduceLT, Int.reduceLE, *]; first | done | with_reducible rfl) ?_)
    rw [show max (headOf l n : Int) (headOf l k) = ((max (headOf l n) (headOf l k) : Nat) : Int) by omega, show min (headOf l n : Int) (headOf l k) = ((min (headOf l n) (headOf l k) : Nat) : Int) by omega]
    refine (flat_ok h14 v l s14 m hl _ _).mono ?_
    rintro r h5 ⟨e5, o5⟩
    refine WO.o (by simp only [aop, S0, Nat.reduceEqDiff, reduceIte]; first | done | with_reducible rfl) ?_
    refine WO.o (by simp only [aop, S0, Nat.reduceEqDiff, reduceIte]; first | done | with_reducible rfl) ?_
    refine WO.nil ?_
    refine thenK_normal ?_
    refine WX.ret ?_
    first | (refine retK_ret (by simp only [resultsA, resultA, S0, Nat.reduceEqDiff, reduceIte, q2_25, q2_28, q2_29, q2_30]; rfl) ?_) | (refine retK_ret (by simp only [resultsA, resultA, S0, S1, decide_true, decide_false, Nat.reduceEqDiff, reduceIte, Int.reduceEq, Int.reduceLT, Int.reduceLE, *]; rfl) ?_)
    exact ⟨r, rfl, e14.trans e5, .inr (o5.since e14)⟩

noncomputable def body17 : ACode := (.seq (.region [⟨some 6, none, (.mov (.const (.slice none 0 0)))⟩, ⟨some 7, none, (.mov (.const (.int .i64 0)))⟩]) (.seq (.seq (.region [⟨some 8, none, (.mov (.tmp 0))⟩, ⟨some 9, none, (.call (.func 25) [(.tmp 8)])⟩, ⟨some 10, none, (.un .not (.tmp 9))⟩]) (.cond (.tmp 10) (.seq (.region [⟨some 6, none, (.mov (.const (.slice none 0 0)))⟩, ⟨some 7, none, (.mov (.const (.int .i64 8)))⟩]) .ret) .skip)) (.seq (.seq (.region [⟨some 11, none, (.mov (.tmp 1))⟩, ⟨some 12, none, (.bin .lss (.tmp 11) (.const (.int .i64 0)))⟩, ⟨some 13, none, (.mov (.tmp 12))⟩, ⟨some 14, some (13, false), (.mov (.tmp 2))⟩, ⟨some 15, some (13, false), (.bin .lss (.tmp 14) (.const (.int .i64 0)))⟩, ⟨some 16, none, (.pick (.tmp 13) (.const (.bool true)) (.tmp 15))⟩, ⟨some 17, none, (.mov (.tmp 16))⟩, ⟨some 18, some (17, false), (.mov (.tmp 1))⟩, ⟨some 19, some (17, false), (.mov (.tmp 0))⟩, ⟨some 20, some (17, false), (.len (.tmp 19))⟩, ⟨some 21, some (17, false), (.bin .geq (.tmp 18) (.tmp 20))⟩, ⟨some 22, none, (.pick (.tmp 17) (.const (.bool true)) (.tmp 21))⟩, ⟨some 23, none, (.mov (.tmp 22))⟩, ⟨some 24, some (23, false), (.mov (.tmp 2))⟩, ⟨some 25, some (23, false), (.mov (.tmp 0))⟩, ⟨some 26, some (23, false), (.len (.tmp 25))⟩, ⟨some 27, some (23, false), (.bin .geq (.tmp 24) (.tmp 26))⟩, ⟨some 28, none, (.pick (.tmp 23) (.const (.bool true)) (.tmp 27))⟩]) (.cond (.tmp 28) (.seq (.region [⟨some 6, none, (.mov (.const (.slice none 0 0)))⟩, ⟨some 7, none, (.mov (.const (.int .i64 2)))⟩]) .ret) .skip)) (.seq (.region [⟨some 29, none, (.mov (.tmp 0))⟩, ⟨some 30, none, (.mov (.tmp 1))⟩, ⟨some 31, none, (.mov (.tmp 2))⟩, ⟨some 32, none, (.call (.func 28) [(.tmp 29), (.tmp 30), (.tmp 31)])⟩, ⟨some 6, none, (.mov (.tmp 32))⟩, ⟨some 7, none, (.mov (.const (.int .i64 0)))⟩]) .ret))))
set_option maxRecDepth 100000 in
theorem tab17 : tb.code 17 = some ⟨33, [(6, none), (7, none)], body17⟩ := by kernel_rfl
theorem rJoin_ok (h : AHeap) (v : Value) (l : List Int) (hs : SlI h v l) (hl : l.length ≤ 1000) (a b : Int) :
    WC Try.prog tb 17 [v, I a, I b] h fun r h' => ∃ w, r = .tuple #[w, I (askOf l [a, b])] ∧ Ext h h' ∧ OwnN h h' w (joinS l a b) := by
  refine WC.of (nostub _ rfl) tab17 ?_
  refine WX.seq ?_
  refine WX.region ?_
  refine WO.o (by simp only [aop, S0, Nat.reduceEqDiff, reduceIte]; first | done | with_reducible rfl) ?_
  refine WO.o (by simp only [aop, S0, Nat.reduceEqDiff, reduceIte]; first | done | with_reducible rfl) ?_
  refine WO.nil ?_
  refine thenK_normal ?_
  refine WX.seq ?_
  refine WX.seq ?_
  refine WX.region ?_
  refine WO.o (by simp only [aop, S0, Nat.reduceEqDiff, reduceIte]; first | done | with_reducible rfl) ?_
  first | (refine WO.call (by simp only [List.map, S0, Nat.reduceEqDiff, reduceIte]; first | done | with_reducible rfl) ?_) | (refine WO.call (by simp only [List.map, S0, S1, decide_true, decide_false, Nat.reduceEqDiff, reduceIte, Int.reduceEq, Int.reduceLT, Int.reduceLE, *]; first | done | with_reducible rfl) ?_)
  refine (may_ok h v l hs (by omega)).mono ?_
  rintro _ _ ⟨rfl, rfl⟩
  unfold joinS
  refine WO.o (by simp only [aop, unV, Option.map_some, S0, Nat.reduceEqDiff, reduceIte]; first | done | with_reducible rfl) ?_
  refine WO.nil ?_
  refine thenK_normal ?_
  refine WX.cond _ (by simp only [S0, Nat.reduceEqDiff, reduceIte]; first | done | with_reducible rfl) (fun hb => ?_) (fun hb => ?_) <;> (try simp only [Bool.or_eq_true, Bool.and_eq_true, Bool.or_eq_false_iff, Bool.and_eq_false_iff, Bool.not_eq_true', Bool.not_eq_false', decide_eq_true_eq, decide_eq_false_iff_not, Int.not_lt, Int.not_le] at hb)
  · refine WX.seq ?_
    refine WX.region ?_
    refine WO.o (by simp only [aop, S0, Nat.reduceEqDiff, reduceIte]; first | done | with_reducible rfl) ?_
    refine WO.o (by simp only [aop, S0, Nat.reduceEqDiff, reduceIte]; first | done | with_reducible rfl) ?_
    refine WO.nil ?_
    refine thenK_normal ?_
    refine WX.ret ?_
    refine thenK_ret ?_
    first | (refine retK_ret (by simp only [resultsA, resultA, S0, Nat.reduceEqDiff, reduceIte]; rfl) ?_) | (refine retK_ret (by simp only [resultsA, resultA, S0, S1, decide_true, decide_false, Nat.reduceEqDiff, reduceIte, Int.reduceEq, Int.reduceLT, Int.reduceLE, *]; rfl) ?_)
    have : askOf l [a, b] = 8 := by unfold askOf; rw [if_neg hb]
    rw [this]
    exact ⟨_, rfl, Ext.refl h, .inl ⟨rfl, rfl⟩⟩
  have m := hb
  refine WX.skip ?_
  refine thenK_normal ?_
  refine WX.seq ?_
  refine WX.seq ?_
  refine WX.region ?_
  refine WO.o (by simp only [aop, S0, Nat.reduceEqDiff, reduceIte]; first | done | with_reducible rfl) ?_
  refine WO.o (by simp only [aop, binV_lss, Option.map_some, S0, Nat.reduceEqDiff, reduceIte]; first | done | with_reducible rfl) ?_
  refine WO.o (by simp only [aop, S0, Nat.reduceEqDiff, reduceIte]; first | done | with_reducible rfl) ?_
  first | (refine WO.guard _ _ rfl (by simp only [S0, Nat.reduceEqDiff, reduceIte]; first | done | with_reducible rfl) (fun hb => (by simp only [aop, S0, Nat.reduceEqDiff, reduceIte, hb]; first | done | with_reducible rfl)) ?_) | (refine WO.guardT (by simp only [S0, S1, decide_true, decide_false, Nat.reduceEqDiff, reduceIte, Int.reduceEq, Int.reduceLT, Int.reduceLE, *]; first | done | with_reducible rfl) ?_; refine WO.o (by simp only [aop, S0, Nat.reduceEqDiff, reduceIte]; first | done | with_reducible rfl) ?_) | (refine WO.guardF (by simp only [S0, S1, decide_true, decide_false, Nat.reduceEqDiff, reduceIte, Int.reduceEq, Int.reduceLT, Int.reduceLE, *]; first | done | with_reducible rfl) ?_) | (refine WO.guardU (by simp only [S0, S1, decide_true, decide_false, Nat.reduceEqDiff, reduceIte, Int.reduceEq, Int.reduceLT, Int.reduceLE, *]; first | done | with_reducible rfl) ?_)
  first | (refine WO.guard _ _ rfl (by simp only [S0, Nat.reduceEqDiff, reduceIte]; first | done | with_reducible rfl) (fun hb => (by simp only [aop, binV_lss, Option.map_some, S0, Nat.reduceEqDiff, reduceIte, hb]; first | done | with_reducible rfl)) ?_) | (refine WO.guardT (by simp only [S0, S1, decide_true, decide_false, Nat.reduceEqDiff, reduceIte, Int.reduceEq, Int.reduceLT, Int.reduceLE, *]; first | done | with_reducible rfl) ?_; refine WO.o (by simp only [aop, binV_lss, Option.map_some, S0, Nat.reduceEqDiff, reduceIte]; first | done | with_reducible rfl) ?_) | (refine WO.guardF (by simp only [S0, S1, decide_true, decide_false, Nat.reduceEqDiff, reduceIte, Int.reduceEq, Int.reduceLT, Int.reduceLE, *]; first | done | with_reducible rfl) ?_) | (refine WO.guardU (by simp only [S0, S1, decide_true, decide_false, Nat.reduceEqDiff, reduceIte, Int.reduceEq, Int.reduceLT, Int.reduceLE, *]; first | done | with_reducible rfl) ?_)
  refine WO.o (by simp only [aop, pick_or, pick_and, S0, Nat.reduceEqDiff, reduceIte]; first | done | with_reducible rfl) ?_
  refine WO.o (by simp only [aop, S0, Nat.reduceEqDiff, reduceIte]; first | done | with_reducible rfl) ?_
  first | (refine WO.guard _ _ rfl (by simp only [S0, Nat.reduceEqDiff, reduceIte]; first | done | with_reducible rfl) (fun hb => (by simp only [aop, S0, Nat.reduceEqDiff, reduceIte, hb]; first | done | with_reducible rfl)) ?_) | (refine WO.guardT (by simp only [S0, S1, decide_true, decide_false, Nat.reduceEqDiff, reduceIte, Int.reduceEq, Int.reduceLT, Int.reduceLE, *]; first | done | with_reducible rfl) ?_; refine WO.o (by simp only [aop, S0, Nat.reduceEqDiff, reduceIte]; first | done | with_reducible rfl) ?_) | (refine WO.guardF (by simp only [S0, S1, decide_true, decide_false, Nat.reduceEqDiff, reduceIte, Int.reduceEq, Int.reduceLT, Int.reduceLE, *]; first | done | with_reducible rfl) ?_) | (refine WO.guardU (by simp only [S0, S1, decide_true, decide_false, Nat.reduceEqDiff, reduceIte, Int.reduceEq, Int.reduceLT, Int.reduceLE, *]; first | done | with_reducible rfl) ?_)
  first | (refine WO.guard _ _ rfl (by simp only [S0, Nat.reduceEqDiff, reduceIte]; first | done | with_reducible rfl) (fun hb => (by simp only [aop, S0, Nat.reduceEqDiff, reduceIte, hb]; first | done | with_reducible rfl)) ?_) | (refine WO.guardT (by simp only [S0, S1, decide_true, decide_false, Nat.reduceEqDiff, reduceIte, Int.reduceEq, Int.reduceLT, Int.reduceLE, *]; first | done | with_reducible rfl) ?_; refine WO.o (by simp only [aop, S0, Nat.reduceEqDiff, reduceIte]; first | done | with_reducible rfl) ?_) | (refine WO.guardF (by simp only [S0, S1, decide_true, decide_false, Nat.reduceEqDiff, reduceIte, Int.reduceEq, Int.reduceLT, Int.reduceLE, *]; first | done | with_reducible rfl) ?_) | (refine WO.guardU (by simp only [S0, S1, decide_true, decide_false, Nat.reduceEqDiff, reduceIte, Int.reduceEq, Int.reduceLT, Int.reduceLE, *]; first | done | with_reducible rfl) ?_)
  first | (refine WO.guard _ _ rfl (by simp only [S0, Nat.reduceEqDiff, reduceIte]; first | done | with_reducible rfl) (fun hb => (SlI.len' (by first | (simp only [S0, Nat.reduceEqDiff, reduceIte, hb]; first | done | with_reducible rfl) | (simp only [S0, S1, decide_true, decide_false, Nat.reduceEqDiff, reduceIte, Int.reduceEq, Int.reduceLT, Int.reduceLE, *]; first | done | with_reducible rfl)) (by first | assumption | exact SlI.ext (by assumption) (by assumption) | exact OwnI.sl (by assumption) | exact OwnN.sl (by assumption)))) ?_) | (refine WO.guardT (by simp only [S0, S1, decide_true, decide_false, Nat.reduceEqDiff, reduceIte, Int.reduceEq, Int.reduceLT, Int.reduceLE, *]; first | done | with_reducible rfl) ?_; refine WO.o (SlI.len' (by first | (simp only [S0, Nat.reduceEqDiff, reduceIte]; first | done | with_reducible rfl) | (simp only [S0, S1, decide_true, decide_false, Nat.reduceEqDiff, reduceIte, Int.reduceEq, Int.reduceLT, Int.reduceLE, *]; first | done | with_reducible rfl)) (by first | assumption | exact SlI.ext (by assumption) (by assumption) | exact OwnI.sl (by assumption) | exact OwnN.sl (by assumption))) ?_) | (refine WO.guardF (by simp only [S0, S1, decide_true, decide_false, Nat.reduceEqDiff, reduceIte, Int.reduceEq, Int.reduceLT, Int.reduceLE, *]; first | done | with_reducible rfl) ?_) | (refine WO.guardU (by simp only [S0, S1, decide_true, decide_false, Nat.reduceEqDiff, reduceIte, Int.reduceEq, Int.reduceLT, Int.reduceLE, *]; first | done | with_reducible rfl) ?_)
  first | (refine WO.guard _ _ rfl (by simp only [S0, Nat.reduceEqDiff, reduceIte]; first | done | with_reducible rfl) (fun hb => (by simp only [aop, binV_geq, Option.map_some, S0, Nat.reduceEqDiff, reduceIte, hb]; first | done | with_reducible rfl)) ?_) | (refine WO.guardT (by simp only [S0, S1, decide_true, decide_false, Nat.reduceEqDiff, reduceIte, Int.reduceEq, Int.reduceLT, Int.reduceLE, *]; first | done | with_reducible rfl) ?_; refine WO.o (by simp only [aop, binV_geq, Option.map_some, S0, Nat.reduceEqDiff, reduceIte]; first | done | with_reducible rfl) ?_) | (refine WO.guardF (by simp only [S0, S1, decide_true, decide_false, Nat.reduceEqDiff, reduceIte, Int.reduceEq, Int.reduceLT, Int.reduceLE, *]; first | done | with_reducible rfl) ?_) | (refine WO.guardU (by simp only [S0, S1, decide_true, decide_false, Nat.reduceEqDiff, reduceIte, Int.reduceEq, Int.reduceLT, Int.reduceLE, *]; first | done | with_reducible rfl) ?_)
  refine WO.o (by simp only [aop, pick_or, pick_and, S0, Nat.reduceEqDiff, reduceIte]; first | done | with_reducible rfl) ?_
  refine WO.o (by simp only [aop, S0, Nat.reduceEqDiff, reduceIte]; first | done | with_reducible rfl) ?_
  first | (refine WO.guard _ _ rfl (by simp only [S0, Nat.reduceEqDiff, reduceIte]; first | done | with_reducible rfl) (fun hb => (by simp only [aop, S0, Nat.reduceEqDiff, reduceIte, hb]; first | done | with_reducible rfl)) ?_) | (refine WO.guardT (by simp only [S0, S1, decide_true, decide_false, Nat.reduceEqDiff, reduceIte, Int.reduceEq, Int.reduceLT, Int.reduceLE, *]; first | done | with_reducible rfl) ?_; refine WO.o (by simp only [aop, S0, Nat.reduceEqDiff, reduceIte]; first | done | with_reducible rfl) ?_) | (refine WO.guardF (by simp only [S0, S1, decide_true, decide_false, Nat.reduceEqDiff, reduceIte, Int.reduceEq, Int.reduceLT, Int.reduceLE, *]; first | done | with_reducible rfl) ?_) | (refine WO.guardU (by simp only [S0, S1, decide_true, decide_false, Nat.reduceEqDiff, reduceIte, Int.reduceEq, Int.reduceLT, Int.reduceLE, *]; first | done | with_reducible rfl) ?_)
  first | (refine WO.guard _ _ rfl (by simp only [S0, Nat.reduceEqDiff, reduceIte]; first | done | with_reducible rfl) (fun hb => (by simp only [aop, S0, Nat.reduceEqDiff, reduceIte, hb]; first | done | with_reducible rfl)) ?_) | (refine WO.guardT (by simp only [S0, S1, decide_true, decide_false, Nat.reduceEqDiff, reduceIte, Int.reduceEq, Int.reduceLT, Int.reduceLE, *]; first | done | with_reducible rfl) ?_; refine WO.o (by simp only [aop, S0, Nat.reduceEqDiff, reduceIte]; first | done | with_reducible rfl) ?_) | (refine WO.guardF (by simp only [S0, S1, decide_true, decide_false, Nat.reduceEqDiff, reduceIte, Int.reduceEq, Int.reduceLT, Int.reduceLE, *]; first | done | with_reducible rfl) ?_) | (refine WO.guardU (by simp only [S0, S1, decide_true, decide_false, Nat.reduceEqDiff, reduceIte, Int.reduceEq, Int.reduceLT, Int.reduceLE, *]; first | done | with_reducible rfl) ?_)
  first | (refine WO.guard _ _ rfl (by simp only [S0, Nat.reduceEqDiff, reduceIte]; first | done | with_reducible rfl) (fun hb => (SlI.len' (by first | (simp only [S0, Nat.reduceEqDiff, reduceIte, hb]; first | done | with_reducible rfl) | (simp only [S0, S1, decide_true, decide_false, Nat.reduceEqDiff, reduceIte, Int.reduceEq, Int.reduceLT, Int.reduceLE, *]; first | done | with_reducible rfl)) (by first | assumption | exact SlI.ext (by assumption) (by assumption) | exact OwnI.sl (by assumption) | exact OwnN.sl (by assumption)))) ?_) | (refine WO.guardT (by simp only [S0, S1, decide_true, decide_false, Nat.reduceEqDiff, reduceIte, Int.reduceEq, Int.reduceLT, Int.reduceLE, *]; first | done | with_reducible rfl) ?_; refine WO.o (SlI.len' (by first | (simp only [S0, Nat.reduceEqDiff, reduceIte]; first | done | with_reducible rfl) | (simp only [S0, S1, decide_true, decide_false, Nat.reduceEqDiff, reduceIte, Int.reduceEq, Int.reduceLT, Int.reduceLE, *]; first | done | with_reducible rfl)) (by first | assumption | exact SlI.ext (by assumption) (by assumption) | exact OwnI.sl (by assumption) | exact OwnN.sl (by assumption))) ?_) | (refine WO.guardF (by simp only [S0, S1, decide_true, decide_false, Nat.reduceEqDiff, reduceIte, Int.reduceEq, Int.reduceLT, Int.reduceLE, *]; first | done | with_reducible rfl) ?_) | (refine WO.guardU (by simp only [S0, S1, decide_true, decide_false, Nat.reduceEqDiff, reduceIte, Int.reduceEq, Int.reduceLT, Int.reduceLE, *]; first | done | with_reducible rfl) ?_)
  first | (refine WO.guard _ _ rfl (by simp only [S0, Nat.reduceEqDiff, reduceIte]; first | done | with_reducible rfl) (fun hb => (by simp only [aop, binV_geq, Option.map_some, S0, Nat.reduceEqDiff, reduceIte, hb]; first | done | with_reducible rfl)) ?_) | (refine WO.guardT (by simp only [S0, S1, decide_true, decide_false, Nat.reduceEqDiff, reduceIte, Int.reduceEq, Int.reduceLT, Int.reduceLE, *]; first | done | with_reducible rfl) ?_; refine WO.o (by simp only [aop, binV_geq, Option.map_some, S0, Nat.reduceEqDiff, reduceIte]; first | done | with_reducible rfl) ?_) | (refine WO.guardF (by simp only [S0, S1, decide_true, decide_false, Nat.reduceEqDiff, reduceIte, Int.reduceEq, Int.reduceLT, Int.reduceLE, *]; first | done | with_reducible rfl) ?_) | (refine WO.guardU (by simp only [S0, S1, decide_true, decide_false, Nat.reduceEqDiff, reduceIte, Int.reduceEq, Int.reduceLT, Int.reduceLE, *]; first | done | with_reducible rfl) ?_)
  refine WO.o (by simp only [aop, pick_or, pick_and, S0, Nat.reduceEqDiff, reduceIte]; first | done | with_reducible rfl) ?_
  refine WO.nil ?_
  refine thenK_normal ?_
  refine WX.cond _ (by simp only [S0, Nat.reduceEqDiff, reduceIte]; first | done | with_reducible rfl) (fun hb => ?_) (fun hb => ?_) <;> (try simp only [Bool.or_eq_true, Bool.and_eq_true, Bool.or_eq_false_iff, Bool.and_eq_false_iff, Bool.not_eq_true', Bool.not_eq_false', decide_eq_true_eq, decide_eq_false_iff_not, Int.not_lt, Int.not_le] at hb)
  · refine WX.seq ?_
    refine WX.region ?_
    refine WO.o (by simp only [aop, S0, Nat.reduceEqDiff, reduceIte]; first | done | with_reducible rfl) ?_
    refine WO.abs fun t3_ ht3_ => ?_
    have q3_6 := (ht3_ 6).trans (by simp only [S0, Nat.reduceEqDiff, reduceIte]; first | done | with_reducible rfl)
    clear ht3_
    refine WO.o (by simp only [aop, S0, Nat.reduceEqDiff, reduceIte]; first | done | with_reducible rfl) ?_
    refine WO.nil ?_
    refine thenK_normal ?_
    refine WX.ret ?_
    refine thenK_ret ?_
    first | (refine retK_ret (by simp only [resultsA, resultA, S0, Nat.reduceEqDiff, reduceIte, q3_6]; rfl) ?_) | (refine retK_ret (by simp only [resultsA, resultA, S0, S1, decide_true, decide_false, Nat.reduceEqDiff, reduceIte, Int.reduceEq, Int.reduceLT, Int.reduceLE, *]; rfl) ?_)
    have : askOf l [a, b] = 2 := by unfold askOf; rw [if_pos m, if_neg (fun q => by have := q a (by simp); have := q b (by simp); omega)]
    rw [this]
    exact ⟨_, rfl, Ext.refl h, .inl ⟨rfl, rfl⟩⟩
  · obtain ⟨n, rfl⟩ := Int.eq_ofNat_of_zero_le (a := a) (by omega)
    obtain ⟨k, rfl⟩ := Int.eq_ofNat_of_zero_le (a := b) (by omega)
    have : askOf l [(n : Int), (k : Int)] = 0 := by unfold askOf; rw [if_pos m, if_pos (fun a ha => by simp at ha; omega)]
    rw [if_pos this, this]
    clear this
    refine WX.skip ?_
    refine thenK_normal ?_
    refine WX.seq ?_
    refine WX.region ?_
    refine WO.o (by simp only [aop, S0, Nat.reduceEqDiff, reduceIte]; first | done | with_reducible rfl) ?_
    refine WO.abs fun t4_ ht4_ => ?_
    have q4_1 := (ht4_ 1).trans (by simp only [S0, Nat.reduceEqDiff, reduceIte]; first | done | with_reducible rfl)
    have q4_2 := (ht4_ 2).trans (by simp only [S0, Nat.reduceEqDiff, reduceIte]; first | done | with_reducible rfl)
    have q4_29 := (ht4_ 29).trans (by simp only [S0, Nat.reduceEqDiff, reduceIte]; first | done | with_reducible rfl)
    clear ht4_
    refine WO.o (by simp only [aop, S0, Nat.reduceEqDiff, reduceIte, q4_1]; first | done | with_reducible rfl) ?_
    refine WO.o (by simp only [aop, S0, Nat.reduceEqDiff, reduceIte, q4_2]; first | done | with_reducible rfl) ?_
    first | (refine WO.call (by simp only [List.map, S0, Nat.reduceEqDiff, reduceIte, q4_29]; first | done | with_reducible rfl) ?_) | (refine WO.call (by simp only [List.map, S0, S1, decide_true, decide_false, Nat.reduceEqDiff, reduceIte, Int.reduceEq, Int.reduceLT, Int.reduceLE, *]; first | done | with_reducible rfl) ?_)
    refine (joined_ok h v l hs m hl n k (by omega) (by omega)).mono ?_
    rintro r h5 ⟨e5, o5⟩
    refine WO.o (by simp only [aop, S0, Nat.reduceEqDiff, reduceIte]; first | done | with_reducible rfl) ?_
    refine WO.o (by simp only [aop, S0, Nat.reduceEqDiff, reduceIte]; first | done | with_reducible rfl) ?_
    refine WO.nil ?_
    refine thenK_normal ?_
    refine WX.ret ?_
    first | (refine retK_ret (by simp only [resultsA, resultA, S0, Nat.reduceEqDiff, reduceIte, q4_1, q4_2, q4_29]; rfl) ?_) | (refine retK_ret (by simp only [resultsA, resultA, S0, S1, decide_true, decide_false, Nat.reduceEqDiff, reduceIte, Int.reduceEq, Int.reduceLT, Int.reduceLE, *]; rfl) ?_)
    exact ⟨r, rfl, e5, .inr o5⟩

def countS (l : List Int) : Int := if May l then countTo l l.length else 0
noncomputable def body18_0 : ACode := (.seq (.region [⟨some 15, none, (.bin .lss (.tmp 14) (.tmp 13))⟩]) (.seq (.cond (.tmp 15) .skip (.exit 0)) (.seq (.block 1 (.seq (.region [⟨some 16, none, (.mov (.tmp 14))⟩, ⟨some 17, none, (.idx 1 (.tmp 12) (.tmp 14))⟩, ⟨some 18, none, (.load false 1 (.tmp 17))⟩, ⟨some 5, none, (.mov (.tmp 16))⟩, ⟨some 6, none, (.mov (.tmp 18))⟩]) (.seq (.region [⟨some 19, none, (.mov (.tmp 5))⟩, ⟨some 20, none, (.mov (.tmp 6))⟩, ⟨some 21, none, (.bin .eql (.tmp 19) (.tmp 20))⟩]) (.cond (.tmp 21) (.region [⟨some 22, none, (.mov (.tmp 2))⟩, ⟨some 23, none, (.bin .add (.tmp 22) (.const (.int .i64 1)))⟩, ⟨some 2, none, (.mov (.tmp 23))⟩]) .skip)))) (.region [⟨some 24, none, (.bin .add (.tmp 14) (.const (.int .i64 1)))⟩, ⟨some 14, none, (.mov (.tmp 24))⟩]))))
noncomputable def body18 : ACode := (.seq (.region [⟨some 2, none, (.mov (.const (.int .i64 0)))⟩, ⟨some 3, none, (.mov (.const (.int .i64 0)))⟩]) (.seq (.seq (.region [⟨some 7, none, (.mov (.tmp 0))⟩, ⟨some 8, none, (.call (.func 23) [(.tmp 7), (.const (.slice none 0 0))])⟩, ⟨some 4, none, (.mov (.tmp 8))⟩]) (.seq (.region [⟨some 9, none, (.mov (.tmp 4))⟩, ⟨some 10, none, (.bin .neq (.tmp 9) (.const (.int .i64 0)))⟩]) (.cond (.tmp 10) (.seq (.region [⟨some 11, none, (.mov (.tmp 4))⟩, ⟨some 2, none, (.mov (.const (.int .i64 0)))⟩, ⟨some 3, none, (.mov (.tmp 11))⟩]) .ret) .skip))) (.seq (.seq (.region [⟨some 12, none, (.mov (.tmp 0))⟩, ⟨some 13, none, (.len (.tmp 12))⟩, ⟨some 14, none, (.mov (.const (.int .i64 0)))⟩]) (.block 0 (.loop body18_0))) (.seq (.region [⟨some 25, none, (.mov (.tmp 2))⟩, ⟨some 2, none, (.mov (.tmp 25))⟩, ⟨some 3, none, (.mov (.const (.int .i64 0)))⟩]) .ret))))
set_option maxRecDepth 100000 in
theorem tab18 : tb.code 18 = some ⟨26, [(2, none), (3, none)], body18⟩ := by kernel_rfl
theorem Count_ok (h : AHeap) (v : Value) (l : List Int) (hs : SlI h v l) (hl : l.length ≤ 1000) :
    WC Try.prog tb 18 [v] h fun r h' => r = .tuple #[I (countS l), I (if May l then 0 else 8)] ∧ h = h' := by
  refine WC.of (nostub _ rfl) tab18 ?_
  refine WX.seq ?_
  refine WX.region ?_
  refine WO.o (by simp only [aop, S0, Nat.reduceEqDiff, reduceIte]; first | done | with_reducible rfl) ?_
  refine WO.o (by simp only [aop, S0, Nat.reduceEqDiff, reduceIte]; first | done | with_reducible rfl) ?_
  refine WO.nil ?_
  refine thenK_normal ?_
  refine WX.seq ?_
  refine WX.seq ?_
  refine WX.region ?_
  refine WO.o (by simp only [aop, S0, Nat.reduceEqDiff, reduceIte]; first | done | with_reducible rfl) ?_
  first | (refine WO.call (by simp only [List.map, S0, Nat.reduceEqDiff, reduceIte]; first | done | with_reducible rfl) ?_) | (refine WO.call (by simp only [List.map, S0, S1, decide_true, decide_false, Nat.reduceEqDiff, reduceIte, Int.reduceEq, Int.reduceLT, Int.reduceLE, *]; first | done | with_reducible rfl) ?_)
  refine (asked_ok h v _ l [] hs (SlI.nil h) (by omega) (by simp)).mono ?_
  rintro _ _ ⟨rfl, rfl⟩
  rw [ask_none]
  unfold countS
  by_cases m : May l
  case neg =>
    rw [if_neg m, if_neg m]
    refine WO.o (by simp only [aop, S0, Nat.reduceEqDiff, reduceIte]; first | done | with_reducible rfl) ?_
    refine WO.nil ?_
    refine thenK_normal ?_
    refine WX.seq ?_
    refine WX.region ?_
    refine WO.o (by simp only [aop, S0, Nat.reduceEqDiff, reduceIte]; first | done | with_reducible rfl) ?_
    refine WO.o (by simp only [aop, binV_neq, Option.map_some, S0, Nat.reduceEqDiff, reduceIte]; first | done | with_reducible rfl) ?_
    refine WO.nil ?_
    refine thenK_normal ?_
    first | (refine WX.condT (by simp only [S0, Nat.reduceEqDiff, reduceIte]; first | done | with_reducible rfl) ?_) | (refine WX.condT (by simp only [S0, S1, decide_true, decide_false, Nat.reduceEqDiff, reduceIte, Int.reduceEq, Int.reduceLT, Int.reduceLE, *]; first | done | with_reducible rfl) ?_)
    refine WX.seq ?_
    refine WX.region ?_
    refine WO.o (by simp only [aop, S0, Nat.reduceEqDiff, reduceIte]; first | done | with_reducible rfl) ?_
    refine WO.o (by simp only [aop, S0, Nat.reduceEqDiff, reduceIte]; first | done | with_reducible rfl) ?_
    refine WO.o (by simp only [aop, S0, Nat.reduceEqDiff, reduceIte]; first | done | with_reducible rfl) ?_
    refine WO.nil ?_
    refine thenK_normal ?_
    refine WX.ret ?_
    refine thenK_ret ?_
    first | (refine retK_ret (by simp only [resultsA, resultA, S0, Nat.reduceEqDiff, reduceIte]; rfl) ?_) | (refine retK_ret (by simp only [resultsA, resultA, S0, S1, decide_true, decide_false, Nat.reduceEqDiff, reduceIte, Int.reduceEq, Int.reduceLT, Int.reduceLE, *]; rfl) ?_)
    exact ⟨rfl, rfl⟩
  rw [if_pos m, if_pos m]
  refine WO.o (by simp only [aop, S0, Nat.reduceEqDiff, reduceIte]; first | done | with_reducible rfl) ?_
  refine WO.nil ?_
  refine thenK_normal ?_
  refine WX.seq ?_
  refine WX.region ?_
  refine WO.o (by simp only [aop, S0, Nat.reduceEqDiff, reduceIte]; first | done | with_reducible rfl) ?_
  refine WO.o (by simp only [aop, binV_neq, Option.map_some, S0, Nat.reduceEqDiff, reduceIte]; first | done | with_reducible rfl) ?_
  refine WO.nil ?_
  refine thenK_normal ?_
  first | (refine WX.condF (by simp only [S0, Nat.reduceEqDiff, reduceIte]; first | done | with_reducible rfl) ?_) | (refine WX.condF (by simp only [S0, S1, decide_true, decide_false, Nat.reduceEqDiff, reduceIte, Int.reduceEq, Int.reduceLT, Int.reduceLE, *]; first | done | with_reducible rfl) ?_)
  refine WX.skip ?_
  refine thenK_normal ?_
  refine WX.seq ?_
  refine WX.seq ?_
  refine WX.region ?_
  refine WO.o (by simp only [aop, S0, Nat.reduceEqDiff, reduceIte]; first | done | with_reducible rfl) ?_
  refine WO.o (SlI.len' (by first | (simp only [S0, Nat.reduceEqDiff, reduceIte]; first | done | with_reducible rfl) | (simp only [S0, S1, decide_true, decide_false, Nat.reduceEqDiff, reduceIte, Int.reduceEq, Int.reduceLT, Int.reduceLE, *]; first | done | with_reducible rfl)) (by first | assumption | exact SlI.ext (by assumption) (by assumption) | exact OwnI.sl (by assumption) | exact OwnN.sl (by assumption))) ?_
  refine WO.o (by simp only [aop, S0, Nat.reduceEqDiff, reduceIte]; first | done | with_reducible rfl) ?_
  refine WO.nil ?_
  refine thenK_normal ?_
  refine WX.block ?_
  refine WX.loop (fun k => l.length - k) (fun k t h1 => h = h1 ∧ tmGet t 2 = I (countTo l k) ∧ tmGet t 12 = v ∧ tmGet t 13 = I l.length ∧ tmGet t 14 = I k ∧ k ≤ l.length) 0 ?_ ?_
  · refine ⟨rfl, (by first | (simp only [S0, Nat.reduceEqDiff, reduceIte]; first | done | rfl) | (simp only [S0, S1, decide_true, decide_false, Nat.reduceEqDiff, reduceIte, Int.reduceEq, Int.reduceLT, Int.reduceLE, *]; first | done | rfl)), (by first | (simp only [S0, Nat.reduceEqDiff, reduceIte]; first | done | rfl) | (simp only [S0, S1, decide_true, decide_false, Nat.reduceEqDiff, reduceIte, Int.reduceEq, Int.reduceLT, Int.reduceLE, *]; first | done | rfl)), (by first | (simp only [S0, Nat.reduceEqDiff, reduceIte]; first | done | rfl) | (simp only [S0, S1, decide_true, decide_false, Nat.reduceEqDiff, reduceIte, Int.reduceEq, Int.reduceLT, Int.reduceLE, *]; first | done | rfl)), (by first | (simp only [S0, Nat.reduceEqDiff, reduceIte]; first | done | rfl) | (simp only [S0, S1, decide_true, decide_false, Nat.reduceEqDiff, reduceIte, Int.reduceEq, Int.reduceLT, Int.reduceLE, *]; first | done | rfl)), Nat.zero_le _⟩
  rintro k t _ ⟨rfl, s2, s12, s13, s14, hk⟩
  have hc := countTo_le l k
  have hsucc := countTo_succ l k
  refine WX.seq ?_
  refine WX.region ?_
  refine WO.o (by simp only [aop, binV_lss, Option.map_some, S0, Nat.reduceEqDiff, reduceIte, s13, s14]; first | done | with_reducible rfl) ?_
  refine WO.nil ?_
  refine thenK_normal ?_
  refine WX.seq ?_
  refine WX.cond _ (by simp only [S0, Nat.reduceEqDiff, reduceIte, s2, s12, s13, s14]; first | done | with_reducible rfl) (fun hb => ?_) (fun hb => ?_) <;> (try simp only [Bool.or_eq_true, Bool.and_eq_true, Bool.or_eq_false_iff, Bool.and_eq_false_iff, Bool.not_eq_true', Bool.not_eq_false', decide_eq_true_eq, decide_eq_false_iff_not, Int.not_lt, Int.not_le] at hb)
  · refine WX.skip ?_
    refine thenK_normal ?_
    refine WX.seq ?_
    refine WX.block ?_
    refine WX.seq ?_
    refine WX.region ?_
    refine WO.o (by simp only [aop, S0, Nat.reduceEqDiff, reduceIte, s14]; first | done | with_reducible rfl) ?_
    refine WO.o (SlI.idx' (by first | (simp only [S0, Nat.reduceEqDiff, reduceIte, s12, s14]; first | done | with_reducible rfl) | (simp only [S0, S1, decide_true, decide_false, Nat.reduceEqDiff, reduceIte, Int.reduceEq, Int.reduceLT, Int.reduceLE, *]; first | done | with_reducible rfl)) (by first | (simp only [S0, Nat.reduceEqDiff, reduceIte, s12, s14]; first | done | rfl) | (simp only [S0, S1, decide_true, decide_false, Nat.reduceEqDiff, reduceIte, Int.reduceEq, Int.reduceLT, Int.reduceLE, *]; first | done | rfl)) (by first | assumption | exact SlI.ext (by assumption) (by assumption) | exact OwnI.sl (by assumption) | exact OwnN.sl (by assumption)) (by first | omega | assumption | (simp only [List.length_map, List.length_set]; omega))) ?_
    first | (refine WO.o (SlI.loadD (by first | (simp only [S0, Nat.reduceEqDiff, reduceIte]; first | done | with_reducible rfl) | (simp only [S0, S1, decide_true, decide_false, Nat.reduceEqDiff, reduceIte, Int.reduceEq, Int.reduceLT, Int.reduceLE, *]; first | done | with_reducible rfl)) (by first | assumption | exact SlI.ext (by assumption) (by assumption) | exact OwnI.sl (by assumption) | exact OwnN.sl (by assumption)) (by first | omega | assumption | (simp only [List.length_map, List.length_set]; omega))) ?_) | (refine WO.o (OwnC.load (by first | (simp only [S0, Nat.reduceEqDiff, reduceIte]; first | done | with_reducible rfl) | (simp only [S0, S1, decide_true, decide_false, Nat.reduceEqDiff, reduceIte, Int.reduceEq, Int.reduceLT, Int.reduceLE, *]; first | done | with_reducible rfl)) (by assumption) rfl) ?_) | (refine WO.o (OwnC.load0 (by first | (simp only [S0, Nat.reduceEqDiff, reduceIte]; first | done | with_reducible rfl) | (simp only [S0, S1, decide_true, decide_false, Nat.reduceEqDiff, reduceIte, Int.reduceEq, Int.reduceLT, Int.reduceLE, *]; first | done | with_reducible rfl)) (by assumption) rfl) ?_)
    refine WO.o (by simp only [aop, S0, Nat.reduceEqDiff, reduceIte]; first | done | with_reducible rfl) ?_
    refine WO.o (by simp only [aop, S0, Nat.reduceEqDiff, reduceIte]; first | done | with_reducible rfl) ?_
    refine WO.nil ?_
    refine thenK_normal ?_
    refine WX.seq ?_
    refine WX.region ?_
    refine WO.o (by simp only [aop, S0, Nat.reduceEqDiff, reduceIte]; first | done | with_reducible rfl) ?_
    refine WO.o (by simp only [aop, S0, Nat.reduceEqDiff, reduceIte]; first | done | with_reducible rfl) ?_
    refine WO.o (by simp only [aop, binV_eql, Option.map_some, S0, Nat.reduceEqDiff, reduceIte]; first | done | with_reducible rfl) ?_
    refine WO.nil ?_
    refine thenK_normal ?_
    refine WX.cond _ (by simp only [S0, Nat.reduceEqDiff, reduceIte, s2, s12, s13, s14]; first | done | with_reducible rfl) (fun hb => ?_) (fun hb => ?_) <;> (try simp only [Bool.or_eq_true, Bool.and_eq_true, Bool.or_eq_false_iff, Bool.and_eq_false_iff, Bool.not_eq_true', Bool.not_eq_false', decide_eq_true_eq, decide_eq_false_iff_not, Int.not_lt, Int.not_le] at hb)
    · clear hsucc
      replace hb := hb.symm
      refine WX.region ?_
      refine WO.o (by simp only [aop, S0, Nat.reduceEqDiff, reduceIte, s2]; first | done | with_reducible rfl) ?_
      refine WO.o (by simp only [aop, binV_add, Option.map_some, S0, Nat.reduceEqDiff, reduceIte]; first | (rw [wrap64 (by omega) (by omega)]) | with_reducible rfl) ?_
      refine WO.o (by simp only [aop, S0, Nat.reduceEqDiff, reduceIte]; first | done | with_reducible rfl) ?_
      refine WO.nil ?_
      refine blockK_normal ?_
      refine thenK_normal ?_
      refine WX.region ?_
      refine WO.o (by simp only [aop, binV_add, Option.map_some, S0, Nat.reduceEqDiff, reduceIte, s14]; first | (rw [wrap64 (by omega) (by omega)]) | with_reducible rfl) ?_
      refine WO.o (by simp only [aop, S0, Nat.reduceEqDiff, reduceIte]; first | done | with_reducible rfl) ?_
      refine WO.nil ?_
      refine loopK_normal (k + 1) (by omega) ⟨rfl, ?_, (by first | (simp only [S0, Nat.reduceEqDiff, reduceIte, s2, s12, s13, s14]; first | done | rfl) | (simp only [S0, S1, decide_true, decide_false, Nat.reduceEqDiff, reduceIte, Int.reduceEq, Int.reduceLT, Int.reduceLE, *]; first | done | rfl)), (by first | (simp only [S0, Nat.reduceEqDiff, reduceIte, s2, s12, s13, s14]; first | done | rfl) | (simp only [S0, S1, decide_true, decide_false, Nat.reduceEqDiff, reduceIte, Int.reduceEq, Int.reduceLT, Int.reduceLE, *]; first | done | rfl)), (by first | (simp only [S0, Nat.reduceEqDiff, reduceIte, s2, s12, s13, s14]; first | done | rfl) | (simp only [S0, S1, decide_true, decide_false, Nat.reduceEqDiff, reduceIte, Int.reduceEq, Int.reduceLT, Int.reduceLE, *]; first | done | rfl)), by omega⟩
      rw [countTo_succ, if_pos hb]; simp only [S0, S1, decide_true, decide_false, Nat.reduceEqDiff, reduceIte, Int.reduceEq, Int.reduceLT, Int.reduceLE, *]; rfl
    · clear hsucc
      refine WX.skip ?_
      refine blockK_normal ?_
      refine thenK_normal ?_
      refine WX.region ?_
      refine WO.o (by simp only [aop, binV_add, Option.map_some, S0, Nat.reduceEqDiff, reduceIte, s14]; first | (rw [wrap64 (by omega) (by omega)]) | with_reducible rfl) ?_
      refine WO.o (by simp only [aop, S0, Nat.reduceEqDiff, reduceIte]; first | done | with_reducible rfl) ?_
      refine WO.nil ?_
      refine loopK_normal (k + 1) (by omega) ⟨rfl, ?_, (by first | (simp only [S0, Nat.reduceEqDiff, reduceIte, s2, s12, s13, s14]; first | done | rfl) | (simp only [S0, S1, decide_true, decide_false, Nat.reduceEqDiff, reduceIte, Int.reduceEq, Int.reduceLT, Int.reduceLE, *]; first | done | rfl)), (by first | (simp only [S0, Nat.reduceEqDiff, reduceIte, s2, s12, s13, s14]; first | done | rfl) | (simp only [S0, S1, decide_true, decide_false, Nat.reduceEqDiff, reduceIte, Int.reduceEq, Int.reduceLT, Int.reduceLE, *]; first | done | rfl)), (by first | (simp only [S0, Nat.reduceEqDiff, reduceIte, s2, s12, s13, s14]; first | done | rfl) | (simp only [S0, S1, decide_true, decide_false, Nat.reduceEqDiff, reduceIte, Int.reduceEq, Int.reduceLT, Int.reduceLE, *]; first | done | rfl)), by omega⟩
      rw [countTo_succ, if_neg (fun e => hb e.symm)]; simp only [S0, S1, decide_true, decide_false, Nat.reduceEqDiff, reduceIte, Int.reduceEq, Int.reduceLT, Int.reduceLE, *]; rfl
  · refine WX.exit ?_
    refine thenK_exit ?_
    refine loopK_exit ?_
    refine blockK_exit ?_
    refine thenK_normal ?_
    refine WX.seq ?_
    refine WX.region ?_
    refine WO.o (by simp only [aop, S0, Nat.reduceEqDiff, reduceIte, s2]; first | done | with_reducible rfl) ?_
    refine WO.o (by simp only [aop, S0, Nat.reduceEqDiff, reduceIte]; first | done | with_reducible rfl) ?_
    refine WO.o (by simp only [aop, S0, Nat.reduceEqDiff, reduceIte]; first | done | with_reducible rfl) ?_
    refine WO.nil ?_
    refine thenK_normal ?_
    refine WX.ret ?_
    first | (refine retK_ret (by simp only [resultsA, resultA, S0, Nat.reduceEqDiff, reduceIte, s2, s12, s13, s14]; rfl) ?_) | (refine retK_ret (by simp only [resultsA, resultA, S0, S1, decide_true, decide_false, Nat.reduceEqDiff, reduceIte, Int.reduceEq, Int.reduceLT, Int.reduceLE, *]; rfl) ?_)
    have : k = l.length := by omega
    subst this
    exact ⟨rfl, rfl⟩

noncomputable def body19_0 : ACode := (.seq (.seq (.region [⟨some 9, none, (.mov (.tmp 5))⟩, ⟨some 10, none, (.mov (.tmp 0))⟩, ⟨some 11, none, (.len (.tmp 10))⟩, ⟨some 12, none, (.bin .lss (.tmp 9) (.tmp 11))⟩]) (.cond (.tmp 12) .skip (.exit 0))) (.seq (.block 1 (.seq (.region [⟨some 15, none, (.mov (.tmp 0))⟩, ⟨some 16, none, (.mov (.tmp 5))⟩, ⟨some 17, none, (.idx 1 (.tmp 15) (.tmp 16))⟩, ⟨some 18, none, (.load false 1 (.tmp 17))⟩, ⟨some 19, none, (.mov (.tmp 5))⟩, ⟨some 20, none, (.bin .eql (.tmp 18) (.tmp 19))⟩]) (.cond (.tmp 20) (.region [⟨some 21, none, (.mov (.tmp 4))⟩, ⟨some 22, none, (.bin .add (.tmp 21) (.const (.int .i64 1)))⟩, ⟨some 4, none, (.mov (.tmp 22))⟩]) .skip))) (.region [⟨some 13, none, (.mov (.tmp 5))⟩, ⟨some 14, none, (.bin .add (.tmp 13) (.const (.int .i64 1)))⟩, ⟨some 5, none, (.mov (.tmp 14))⟩])))
noncomputable def body19 : ACode := (.seq (.region [⟨some 2, none, (.mov (.const (.int .i64 0)))⟩, ⟨some 3, none, (.mov (.const (.int .i64 0)))⟩]) (.seq (.seq (.region [⟨some 6, none, (.mov (.tmp 0))⟩, ⟨some 7, none, (.call (.func 25) [(.tmp 6)])⟩, ⟨some 8, none, (.un .not (.tmp 7))⟩]) (.cond (.tmp 8) (.seq (.region [⟨some 2, none, (.mov (.const (.int .i64 0)))⟩, ⟨some 3, none, (.mov (.const (.int .i64 8)))⟩]) .ret) .skip)) (.seq (.region [⟨some 4, none, (.mov (.const (.int .i64 0)))⟩]) (.seq (.seq (.region [⟨some 5, none, (.mov (.const (.int .i64 0)))⟩]) (.block 0 (.loop body19_0))) (.seq (.region [⟨some 23, none, (.mov (.tmp 4))⟩, ⟨some 2, none, (.mov (.tmp 23))⟩, ⟨some 3, none, (.mov (.const (.int .i64 0)))⟩]) .ret)))))
set_option maxRecDepth 100000 in
theorem tab19 : tb.code 19 = some ⟨24, [(2, none), (3, none)], body19⟩ := by kernel_rfl
theorem rCount_ok (h : AHeap) (v : Value) (l : List Int) (hs : SlI h v l) (hl : l.length ≤ 1000) :
    WC Try.prog tb 19 [v] h fun r h' => r = .tuple #[I (countS l), I (if May l then 0 else 8)] ∧ h = h' := by
  refine WC.of (nostub _ rfl) tab19 ?_
  refine WX.seq ?_
  refine WX.region ?_
  refine WO.o (by simp only [aop, S0, Nat.reduceEqDiff, reduceIte]; first | done | with_reducible rfl) ?_
  refine WO.o (by simp only [aop, S0, Nat.reduceEqDiff, reduceIte]; first | done | with_reducible rfl) ?_
  refine WO.nil ?_
  refine thenK_normal ?_
  refine WX.seq ?_
  refine WX.seq ?_
  refine WX.region ?_
  refine WO.o (by simp only [aop, S0, Nat.reduceEqDiff, reduceIte]; first | done | with_reducible rfl) ?_
  first | (refine WO.call (by simp only [List.map, S0, Nat.reduceEqDiff, reduceIte]; first | done | with_reducible rfl) ?_) | (refine WO.call (by simp only [List.map, S0, S1, decide_true, decide_false, Nat.reduceEqDiff, reduceIte, Int.reduceEq, Int.reduceLT, Int.reduceLE, *]; first | done | with_reducible rfl) ?_)
  refine (may_ok h v l hs (by omega)).mono ?_
  rintro _ _ ⟨rfl, rfl⟩
  unfold countS
  refine WO.o (by simp only [aop, unV, Option.map_some, S0, Nat.reduceEqDiff, reduceIte]; first | done | with_reducible rfl) ?_
  refine WO.nil ?_
  refine thenK_normal ?_
  refine WX.cond _ (by simp only [S0, Nat.reduceEqDiff, reduceIte]; first | done | with_reducible rfl) (fun hb => ?_) (fun hb => ?_) <;> (try simp only [Bool.or_eq_true, Bool.and_eq_true, Bool.or_eq_false_iff, Bool.and_eq_false_iff, Bool.not_eq_true', Bool.not_eq_false', decide_eq_true_eq, decide_eq_false_iff_not, Int.not_lt, Int.not_le] at hb)
  · refine WX.seq ?_
    refine WX.region ?_
    refine WO.o (by simp only [aop, S0, Nat.reduceEqDiff, reduceIte]; first | done | with_reducible rfl) ?_
    refine WO.o (by simp only [aop, S0, Nat.reduceEqDiff, reduceIte]; first | done | with_reducible rfl) ?_
    refine WO.nil ?_
    refine thenK_normal ?_
    refine WX.ret ?_
    refine thenK_ret ?_
    first | (refine retK_ret (by simp only [resultsA, resultA, S0, Nat.reduceEqDiff, reduceIte]; rfl) ?_) | (refine retK_ret (by simp only [resultsA, resultA, S0, S1, decide_true, decide_false, Nat.reduceEqDiff, reduceIte, Int.reduceEq, Int.reduceLT, Int.reduceLE, *]; rfl) ?_)
    rw [if_neg hb, if_neg hb]
    exact ⟨rfl, rfl⟩
  rw [if_pos hb, if_pos hb]
  clear hb
  refine WX.skip ?_
  refine thenK_normal ?_
  refine WX.seq ?_
  refine WX.region ?_
  refine WO.o (by simp only [aop, S0, Nat.reduceEqDiff, reduceIte]; first | done | with_reducible rfl) ?_
  refine WO.nil ?_
  refine thenK_normal ?_
  refine WX.seq ?_
  refine WX.seq ?_
  refine WX.region ?_
  refine WO.o (by simp only [aop, S0, Nat.reduceEqDiff, reduceIte]; first | done | with_reducible rfl) ?_
  refine WO.nil ?_
  refine thenK_normal ?_
  refine WX.block ?_
  refine WX.loop (fun k => l.length - k) (fun k t h1 => h = h1 ∧ tmGet t 0 = v ∧ tmGet t 4 = I (countTo l k) ∧ tmGet t 5 = I k ∧ k ≤ l.length) 0 ?_ ?_
  · refine ⟨rfl, (by first | (simp only [S0, Nat.reduceEqDiff, reduceIte]; first | done | rfl) | (simp only [S0, S1, decide_true, decide_false, Nat.reduceEqDiff, reduceIte, Int.reduceEq, Int.reduceLT, Int.reduceLE, *]; first | done | rfl)), (by first | (simp only [S0, Nat.reduceEqDiff, reduceIte]; first | done | rfl) | (simp only [S0, S1, decide_true, decide_false, Nat.reduceEqDiff, reduceIte, Int.reduceEq, Int.reduceLT, Int.reduceLE, *]; first | done | rfl)), (by first | (simp only [S0, Nat.reduceEqDiff, reduceIte]; first | done | rfl) | (simp only [S0, S1, decide_true, decide_false, Nat.reduceEqDiff, reduceIte, Int.reduceEq, Int.reduceLT, Int.reduceLE, *]; first | done | rfl)), Nat.zero_le _⟩
  rintro k t _ ⟨rfl, s0, s4, s5, hk⟩
  have hc := countTo_le l k
  refine WX.seq ?_
  refine WX.seq ?_
  refine WX.region ?_
  refine WO.o (by simp only [aop, S0, Nat.reduceEqDiff, reduceIte, s5]; first | done | with_reducible rfl) ?_
  refine WO.o (by simp only [aop, S0, Nat.reduceEqDiff, reduceIte, s0]; first | done | with_reducible rfl) ?_
  refine WO.o (SlI.len' (by first | (simp only [S0, Nat.reduceEqDiff, reduceIte]; first | done | with_reducible rfl) | (simp only [S0, S1, decide_true, decide_false, Nat.reduceEqDiff, reduceIte, Int.reduceEq, Int.reduceLT, Int.reduceLE, *]; first | done | with_reducible rfl)) (by first | assumption | exact SlI.ext (by assumption) (by assumption) | exact OwnI.sl (by assumption) | exact OwnN.sl (by assumption))) ?_
  refine WO.o (by simp only [aop, binV_lss, Option.map_some, S0, Nat.reduceEqDiff, reduceIte]; first | done | with_reducible rfl) ?_
  refine WO.nil ?_
  refine thenK_normal ?_
  refine WX.cond _ (by simp only [S0, Nat.reduceEqDiff, reduceIte, s0, s4, s5]; first | done | with_reducible rfl) (fun hb => ?_) (fun hb => ?_) <;> (try simp only [Bool.or_eq_true, Bool.and_eq_true, Bool.or_eq_false_iff, Bool.and_eq_false_iff, Bool.not_eq_true', Bool.not_eq_false', decide_eq_true_eq, decide_eq_false_iff_not, Int.not_lt, Int.not_le] at hb)
  · refine WX.skip ?_
    refine thenK_normal ?_
    refine WX.seq ?_
    refine WX.block ?_
    refine WX.seq ?_
    refine WX.region ?_
    refine WO.o (by simp only [aop, S0, Nat.reduceEqDiff, reduceIte, s0]; first | done | with_reducible rfl) ?_
    refine WO.o (by simp only [aop, S0, Nat.reduceEqDiff, reduceIte, s5]; first | done | with_reducible rfl) ?_
    refine WO.o (SlI.idx' (by first | (simp only [S0, Nat.reduceEqDiff, reduceIte]; first | done | with_reducible rfl) | (simp only [S0, S1, decide_true, decide_false, Nat.reduceEqDiff, reduceIte, Int.reduceEq, Int.reduceLT, Int.reduceLE, *]; first | done | with_reducible rfl)) (by first | (simp only [S0, Nat.reduceEqDiff, reduceIte]; first | done | rfl) | (simp only [S0, S1, decide_true, decide_false, Nat.reduceEqDiff, reduceIte, Int.reduceEq, Int.reduceLT, Int.reduceLE, *]; first | done | rfl)) (by first | assumption | exact SlI.ext (by assumption) (by assumption) | exact OwnI.sl (by assumption) | exact OwnN.sl (by assumption)) (by first | omega | assumption | (simp only [List.length_map, List.length_set]; omega))) ?_
    first | (refine WO.o (SlI.loadD (by first | (simp only [S0, Nat.reduceEqDiff, reduceIte]; first | done | with_reducible rfl) | (simp only [S0, S1, decide_true, decide_false, Nat.reduceEqDiff, reduceIte, Int.reduceEq, Int.reduceLT, Int.reduceLE, *]; first | done | with_reducible rfl)) (by first | assumption | exact SlI.ext (by assumption) (by assumption) | exact OwnI.sl (by assumption) | exact OwnN.sl (by assumption)) (by first | omega | assumption | (simp only [List.length_map, List.length_set]; omega))) ?_) | (refine WO.o (OwnC.load (by first | (simp only [S0, Nat.reduceEqDiff, reduceIte]; first | done | with_reducible rfl) | (simp only [S0, S1, decide_true, decide_false, Nat.reduceEqDiff, reduceIte, Int.reduceEq, Int.reduceLT, Int.reduceLE, *]; first | done | with_reducible rfl)) (by assumption) rfl) ?_) | (refine WO.o (OwnC.load0 (by first | (simp only [S0, Nat.reduceEqDiff, reduceIte]; first | done | with_reducible rfl) | (simp only [S0, S1, decide_true, decide_false, Nat.reduceEqDiff, reduceIte, Int.reduceEq, Int.reduceLT, Int.reduceLE, *]; first | done | with_reducible rfl)) (by assumption) rfl) ?_)
    refine WO.o (by simp only [aop, S0, Nat.reduceEqDiff, reduceIte, s5]; first | done | with_reducible rfl) ?_
    refine WO.o (by simp only [aop, binV_eql, Option.map_some, S0, Nat.reduceEqDiff, reduceIte]; first | done | with_reducible rfl) ?_
    refine WO.nil ?_
    refine thenK_normal ?_
    refine WX.cond _ (by simp only [S0, Nat.reduceEqDiff, reduceIte, s0, s4, s5]; first | done | with_reducible rfl) (fun hb => ?_) (fun hb => ?_) <;> (try simp only [Bool.or_eq_true, Bool.and_eq_true, Bool.or_eq_false_iff, Bool.and_eq_false_iff, Bool.not_eq_true', Bool.not_eq_false', decide_eq_true_eq, decide_eq_false_iff_not, Int.not_lt, Int.not_le] at hb)
    · refine WX.region ?_
      refine WO.o (by simp only [aop, S0, Nat.reduceEqDiff, reduceIte, s4]; first | done | with_reducible rfl) ?_
      refine WO.o (by simp only [aop, binV_add, Option.map_some, S0, Nat.reduceEqDiff, reduceIte]; first | (rw [wrap64 (by omega) (by omega)]) | with_reducible rfl) ?_
      refine WO.o (by simp only [aop, S0, Nat.reduceEqDiff, reduceIte]; first | done | with_reducible rfl) ?_
      refine WO.nil ?_
      refine blockK_normal ?_
      refine thenK_normal ?_
      refine WX.region ?_
      refine WO.o (by simp only [aop, S0, Nat.reduceEqDiff, reduceIte, s5]; first | done | with_reducible rfl) ?_
      refine WO.o (by simp only [aop, binV_add, Option.map_some, S0, Nat.reduceEqDiff, reduceIte]; first | (rw [wrap64 (by omega) (by omega)]) | with_reducible rfl) ?_
      refine WO.o (by simp only [aop, S0, Nat.reduceEqDiff, reduceIte]; first | done | with_reducible rfl) ?_
      refine WO.nil ?_
      refine loopK_normal (k + 1) (by omega) ⟨rfl, (by first | (simp only [S0, Nat.reduceEqDiff, reduceIte, s0, s4, s5]; first | done | rfl) | (simp only [S0, S1, decide_true, decide_false, Nat.reduceEqDiff, reduceIte, Int.reduceEq, Int.reduceLT, Int.reduceLE, *]; first | done | rfl)), ?_, (by first | (simp only [S0, Nat.reduceEqDiff, reduceIte, s0, s4, s5]; first | done | rfl) | (simp only [S0, S1, decide_true, decide_false, Nat.reduceEqDiff, reduceIte, Int.reduceEq, Int.reduceLT, Int.reduceLE, *]; first | done | rfl)), by omega⟩
      rw [countTo_succ, if_pos hb]; simp only [S0, S1, decide_true, decide_false, Nat.reduceEqDiff, reduceIte, Int.reduceEq, Int.reduceLT, Int.reduceLE, *]; rfl
    · refine WX.skip ?_
      refine blockK_normal ?_
      refine thenK_normal ?_
      refine WX.region ?_
      refine WO.o (by simp only [aop, S0, Nat.reduceEqDiff, reduceIte, s5]; first | done | with_reducible rfl) ?_
      refine WO.o (by simp only [aop, binV_add, Option.map_some, S0, Nat.reduceEqDiff, reduceIte]; first | (rw [wrap64 (by omega) (by omega)]) | with_reducible rfl) ?_
      refine WO.o (by simp only [aop, S0, Nat.reduceEqDiff, reduceIte]; first | done | with_reducible rfl) ?_
      refine WO.nil ?_
      refine loopK_normal (k + 1) (by omega) ⟨rfl, (by first | (simp only [S0, Nat.reduceEqDiff, reduceIte, s0, s4, s5]; first | done | rfl) | (simp only [S0, S1, decide_true, decide_false, Nat.reduceEqDiff, reduceIte, Int.reduceEq, Int.reduceLT, Int.reduceLE, *]; first | done | rfl)), ?_, (by first | (simp only [S0, Nat.reduceEqDiff, reduceIte, s0, s4, s5]; first | done | rfl) | (simp only [S0, S1, decide_true, decide_false, Nat.reduceEqDiff, reduceIte, Int.reduceEq, Int.reduceLT, Int.reduceLE, *]; first | done | rfl)), by omega⟩
      rw [countTo_succ, if_neg hb]; simp only [S0, S1, decide_true, decide_false, Nat.reduceEqDiff, reduceIte, Int.reduceEq, Int.reduceLT, Int.reduceLE, *]; rfl
  · refine WX.exit ?_
    refine thenK_exit ?_
    refine loopK_exit ?_
    refine blockK_exit ?_
    refine thenK_normal ?_
    refine WX.seq ?_
    refine WX.region ?_
    refine WO.o (by simp only [aop, S0, Nat.reduceEqDiff, reduceIte, s4]; first | done | with_reducible rfl) ?_
    refine WO.o (by simp only [aop, S0, Nat.reduceEqDiff, reduceIte]; first | done | with_reducible rfl) ?_
    refine WO.o (by simp only [aop, S0, Nat.reduceEqDiff, reduceIte]; first | done | with_reducible rfl) ?_
    refine WO.nil ?_
    refine thenK_normal ?_
    refine WX.ret ?_
    first | (refine retK_ret (by simp only [resultsA, resultA, S0, Nat.reduceEqDiff, reduceIte, s0, s4, s5]; rfl) ?_) | (refine retK_ret (by simp only [resultsA, resultA, S0, S1, decide_true, decide_false, Nat.reduceEqDiff, reduceIte, Int.reduceEq, Int.reduceLT, Int.reduceLE, *]; rfl) ?_)
    have : k = l.length := by omega
    subst this
    exact ⟨rfl, rfl⟩

end Go.Proofs.Ytgjcjlnfhdbopaa
