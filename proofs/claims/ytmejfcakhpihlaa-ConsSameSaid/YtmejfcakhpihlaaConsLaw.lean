/- The statement ConsSame, in the abstract machine. -/
import Derived.Test.YtmejfcakhpihlaaConsWalkB
namespace Go.Proofs.Ytmejfcakhpihlaa
open Go.Am
set_option linter.unusedVariables false
set_option linter.unusedSimpArgs false
set_option maxHeartbeats 4000000

noncomputable def body3_0 : ACode := (.seq (.seq (.region [⟨some 14, none, (.mov (.tmp 5))⟩, ⟨some 15, none, (.mov (.tmp 0))⟩, ⟨some 16, none, (.len (.tmp 15))⟩, ⟨some 17, none, (.bin .lss (.tmp 14) (.tmp 16))⟩]) (.cond (.tmp 17) .skip (.exit 0))) (.seq (.block 1 (.seq (.region [⟨some 20, none, (.mov (.tmp 0))⟩, ⟨some 21, none, (.mov (.tmp 5))⟩, ⟨some 22, none, (.idx 5 (.tmp 20) (.tmp 21))⟩, ⟨some 23, none, (.fld 4 (.tmp 22))⟩, ⟨some 24, none, (.load false 1 (.tmp 23))⟩, ⟨some 25, none, (.len (.tmp 24))⟩, ⟨some 26, none, (.bin .gtr (.tmp 25) (.const (.int .i64 20)))⟩]) (.cond (.tmp 26) (.seq (.region [⟨some 4, none, (.mov (.const (.bool true)))⟩]) .ret) .skip))) (.region [⟨some 18, none, (.mov (.tmp 5))⟩, ⟨some 19, none, (.bin .add (.tmp 18) (.const (.int .i64 1)))⟩, ⟨some 5, none, (.mov (.tmp 19))⟩])))
noncomputable def body3 : ACode := (.seq (.region [⟨some 4, none, (.mov (.const (.bool false)))⟩]) (.seq (.seq (.region [⟨some 6, none, (.mov (.tmp 0))⟩, ⟨some 7, none, (.len (.tmp 6))⟩, ⟨some 8, none, (.bin .gtr (.tmp 7) (.const (.int .i64 100)))⟩, ⟨some 9, none, (.mov (.tmp 8))⟩, ⟨some 10, some (9, false), (.mov (.tmp 1))⟩, ⟨some 11, some (9, false), (.len (.tmp 10))⟩, ⟨some 12, some (9, false), (.bin .gtr (.tmp 11) (.const (.int .i64 100)))⟩, ⟨some 13, none, (.pick (.tmp 9) (.const (.bool true)) (.tmp 12))⟩]) (.cond (.tmp 13) (.seq (.region [⟨some 4, none, (.mov (.const (.bool true)))⟩]) .ret) .skip)) (.seq (.seq (.region [⟨some 5, none, (.mov (.const (.int .i64 0)))⟩]) (.block 0 (.loop body3_0))) (.seq (.region [⟨some 27, none, (.mov (.tmp 0))⟩, ⟨some 28, none, (.mov (.tmp 1))⟩, ⟨some 29, none, (.call (.func 4) [(.tmp 27), (.tmp 28)])⟩, ⟨some 30, none, (.mov (.tmp 0))⟩, ⟨some 31, none, (.mov (.tmp 1))⟩, ⟨some 32, none, (.call (.func 5) [(.tmp 30), (.tmp 31)])⟩, ⟨some 33, none, (.binB false (.tmp 29) (.tmp 32))⟩, ⟨some 4, none, (.mov (.tmp 33))⟩]) .ret))))
set_option maxRecDepth 100000 in
theorem tab3 : tb.code 3 = some ⟨34, [(4, none)], body3⟩ := by kernel_rfl
theorem law_same (h : AHeap) (v : Value) (l : List LCon) (hs : SlR 5 RCon h v l) (hl : (l.length : Int) ≤ 9223372036854775807) (w : Value) (k : List LCon) (ht : SlR 5 RCon h w k) (hk : (k.length : Int) ≤ 9223372036854775807) :
    WC Try.prog tb 3 [v, w] h fun r h' => r = .bool true := by
  refine WC.of (nostub _ rfl) tab3 ?_
  refine WX.seq ?_
  refine WX.region ?_
  refine WO.o (by simp only [aop, S0, Nat.reduceEqDiff, reduceIte]; first | done | with_reducible rfl) ?_
  refine WO.nil ?_
  refine thenK_normal ?_
  refine WX.seq ?_
  refine WX.seq ?_
  refine WX.region ?_
  refine WO.o (by simp only [aop, S0, Nat.reduceEqDiff, reduceIte]; first | done | with_reducible rfl) ?_
  first | (refine WO.o (SlI.len' (by first | (simp only [S0, Nat.reduceEqDiff, reduceIte]; first | done | with_reducible rfl) | (simp only [S0, S1, decide_true, decide_false, Nat.reduceEqDiff, reduceIte, Int.reduceEq, Int.reduceLT, Int.reduceLE, *]; first | done | with_reducible rfl)) (by first | assumption | exact SlI.ext (by assumption) (by assumption) | exact OwnI.sl (by assumption) | exact OwnN.sl (by assumption))) ?_) | (refine WO.o (SlR.len' (by first | (simp only [S0, Nat.reduceEqDiff, reduceIte]; first | done | with_reducible rfl) | (simp only [S0, S1, decide_true, decide_false, Nat.reduceEqDiff, reduceIte, Int.reduceEq, Int.reduceLT, Int.reduceLE, *]; first | done | with_reducible rfl)) (by assumption)) ?_)
  refine WO.o (by simp only [aop, binV_gtr, Option.map_some, S0, Nat.reduceEqDiff, reduceIte]; first | done | with_reducible rfl) ?_
  refine WO.o (by simp only [aop, S0, Nat.reduceEqDiff, reduceIte]; first | done | with_reducible rfl) ?_
  first | (refine WO.guard _ _ rfl (by simp only [S0, Nat.reduceEqDiff, reduceIte]; first | done | with_reducible rfl) (fun hb => (by simp only [aop, S0, Nat.reduceEqDiff, reduceIte, hb]; first | done | with_reducible rfl)) ?_) | (refine WO.guardT (by simp only [S0, S1, decide_true, decide_false, Nat.reduceEqDiff, reduceIte, Int.reduceEq, Int.reduceLT, Int.reduceLE, *]; first | done | with_reducible rfl) ?_; refine WO.o (by simp only [aop, S0, Nat.reduceEqDiff, reduceIte]; first | done | with_reducible rfl) ?_) | (refine WO.guardF (by simp only [S0, S1, decide_true, decide_false, Nat.reduceEqDiff, reduceIte, Int.reduceEq, Int.reduceLT, Int.reduceLE, *]; first | done | with_reducible rfl) ?_) | (refine WO.guardU (by simp only [S0, S1, decide_true, decide_false, Nat.reduceEqDiff, reduceIte, Int.reduceEq, Int.reduceLT, Int.reduceLE, *]; first | done | with_reducible rfl) ?_)
  first | (refine WO.guard _ _ rfl (by simp only [S0, Nat.reduceEqDiff, reduceIte]; first | done | with_reducible rfl) (fun hb => (SlI.len' (by first | (simp only [S0, Nat.reduceEqDiff, reduceIte, hb]; first | done | with_reducible rfl) | (simp only [S0, S1, decide_true, decide_false, Nat.reduceEqDiff, reduceIte, Int.reduceEq, Int.reduceLT, Int.reduceLE, *]; first | done | with_reducible rfl)) (by first | assumption | exact SlI.ext (by assumption) (by assumption) | exact OwnI.sl (by assumption) | exact OwnN.sl (by assumption)))) ?_) | (refine WO.guard _ _ rfl (by simp only [S0, Nat.reduceEqDiff, reduceIte]; first | done | with_reducible rfl) (fun hb => (SlR.len' (by first | (simp only [S0, Nat.reduceEqDiff, reduceIte, hb]; first | done | with_reducible rfl) | (simp only [S0, S1, decide_true, decide_false, Nat.reduceEqDiff, reduceIte, Int.reduceEq, Int.reduceLT, Int.reduceLE, *]; first | done | with_reducible rfl)) (by assumption))) ?_) | (refine WO.guardT (by simp only [S0, S1, decide_true, decide_false, Nat.reduceEqDiff, reduceIte, Int.reduceEq, Int.reduceLT, Int.reduceLE, *]; first | done | with_reducible rfl) ?_; first | (refine WO.o (SlI.len' (by first | (simp only [S0, Nat.reduceEqDiff, reduceIte]; first | done | with_reducible rfl) | (simp only [S0, S1, decide_true, decide_false, Nat.reduceEqDiff, reduceIte, Int.reduceEq, Int.reduceLT, Int.reduceLE, *]; first | done | with_reducible rfl)) (by first | assumption | exact SlI.ext (by assumption) (by assumption) | exact OwnI.sl (by assumption) | exact OwnN.sl (by assumption))) ?_) | (refine WO.o (SlR.len' (by first | (simp only [S0, Nat.reduceEqDiff, reduceIte]; first | done | with_reducible rfl) | (simp only [S0, S1, decide_true, decide_false, Nat.reduceEqDiff, reduceIte, Int.reduceEq, Int.reduceLT, Int.reduceLE, *]; first | done | with_reducible rfl)) (by assumption)) ?_)) | (refine WO.guardF (by simp only [S0, S1, decide_true, decide_false, Nat.reduceEqDiff, reduceIte, Int.reduceEq, Int.reduceLT, Int.reduceLE, *]; first | done | with_reducible rfl) ?_) | (refine WO.guardU (by simp only [S0, S1, decide_true, decide_false, Nat.reduceEqDiff, reduceIte, Int.reduceEq, Int.reduceLT, Int.reduceLE, *]; first | done | with_reducible rfl) ?_)
  first | (refine WO.guard _ _ rfl (by simp only [S0, Nat.reduceEqDiff, reduceIte]; first | done | with_reducible rfl) (fun hb => (by simp only [aop, binV_gtr, Option.map_some, S0, Nat.reduceEqDiff, reduceIte, hb]; first | done | with_reducible rfl)) ?_) | (refine WO.guardT (by simp only [S0, S1, decide_true, decide_false, Nat.reduceEqDiff, reduceIte, Int.reduceEq, Int.reduceLT, Int.reduceLE, *]; first | done | with_reducible rfl) ?_; refine WO.o (by simp only [aop, binV_gtr, Option.map_some, S0, Nat.reduceEqDiff, reduceIte]; first | done | with_reducible rfl) ?_) | (refine WO.guardF (by simp only [S0, S1, decide_true, decide_false, Nat.reduceEqDiff, reduceIte, Int.reduceEq, Int.reduceLT, Int.reduceLE, *]; first | done | with_reducible rfl) ?_) | (refine WO.guardU (by simp only [S0, S1, decide_true, decide_false, Nat.reduceEqDiff, reduceIte, Int.reduceEq, Int.reduceLT, Int.reduceLE, *]; first | done | with_reducible rfl) ?_)
  refine WO.o (by simp only [aop, pick_or, pick_and, S0, Nat.reduceEqDiff, reduceIte]; first | done | with_reducible rfl) ?_
  refine WO.nil ?_
  refine thenK_normal ?_
  refine WX.cond _ (by simp only [S0, Nat.reduceEqDiff, reduceIte]; first | done | with_reducible rfl) (fun hb => ?_) (fun hb => ?_) <;> (try simp only [Bool.or_eq_true, Bool.and_eq_true, Bool.or_eq_false_iff, Bool.and_eq_false_iff, Bool.not_eq_true', Bool.not_eq_false', decide_eq_true_eq, decide_eq_false_iff_not, Int.not_lt, Int.not_le] at hb)
  · refine WX.seq ?_
    refine WX.region ?_
    refine WO.o (by simp only [aop, S0, Nat.reduceEqDiff, reduceIte]; first | done | with_reducible rfl) ?_
    refine WO.nil ?_
    refine thenK_normal ?_
    refine WX.ret ?_
    refine thenK_ret ?_
    first | (refine retK_ret (by simp only [resultsA, resultA, S0, Nat.reduceEqDiff, reduceIte]; rfl) ?_) | (refine retK_ret (by simp only [resultsA, resultA, S0, S1, decide_true, decide_false, Nat.reduceEqDiff, reduceIte, Int.reduceEq, Int.reduceLT, Int.reduceLE, *]; rfl) ?_)
    rfl
  refine WX.skip ?_
  refine thenK_normal ?_
  refine WX.seq ?_
  refine WX.seq ?_
  refine WX.region ?_
  refine WO.o (by simp only [aop, S0, Nat.reduceEqDiff, reduceIte]; first | done | with_reducible rfl) ?_
  refine WO.nil ?_
  refine thenK_normal ?_
  refine WX.block ?_
  refine WX.loopF (fun k => l.length - k) (fun i t h1 => h = h1 ∧ tmGet t 5 = I i ∧ i ≤ l.length) 0 ?_ ?_
  · exact ⟨rfl, (by first | (simp only [S0, Nat.reduceEqDiff, reduceIte]; first | done | rfl) | (simp only [S0, S1, decide_true, decide_false, Nat.reduceEqDiff, reduceIte, Int.reduceEq, Int.reduceLT, Int.reduceLE, *]; first | done | rfl)), Nat.zero_le _⟩
  rintro i t _ hsame ⟨rfl, s5, hi⟩
  have p1_0 := (hsame 0 rfl).trans (by simp only [S0, Nat.reduceEqDiff, reduceIte]; first | done | with_reducible rfl)
  have p1_1 := (hsame 1 rfl).trans (by simp only [S0, Nat.reduceEqDiff, reduceIte]; first | done | with_reducible rfl)
  clear hsame
  refine WX.seq ?_
  refine WX.seq ?_
  refine WX.region ?_
  refine WO.o (by simp only [aop, S0, Nat.reduceEqDiff, reduceIte, s5]; first | done | with_reducible rfl) ?_
  refine WO.o (by simp only [aop, S0, Nat.reduceEqDiff, reduceIte, p1_0]; first | done | with_reducible rfl) ?_
  first | (refine WO.o (SlI.len' (by first | (simp only [S0, Nat.reduceEqDiff, reduceIte]; first | done | with_reducible rfl) | (simp only [S0, S1, decide_true, decide_false, Nat.reduceEqDiff, reduceIte, Int.reduceEq, Int.reduceLT, Int.reduceLE, *]; first | done | with_reducible rfl)) (by first | assumption | exact SlI.ext (by assumption) (by assumption) | exact OwnI.sl (by assumption) | exact OwnN.sl (by assumption))) ?_) | (refine WO.o (SlR.len' (by first | (simp only [S0, Nat.reduceEqDiff, reduceIte]; first | done | with_reducible rfl) | (simp only [S0, S1, decide_true, decide_false, Nat.reduceEqDiff, reduceIte, Int.reduceEq, Int.reduceLT, Int.reduceLE, *]; first | done | with_reducible rfl)) (by assumption)) ?_)
  refine WO.o (by simp only [aop, binV_lss, Option.map_some, S0, Nat.reduceEqDiff, reduceIte]; first | done | with_reducible rfl) ?_
  refine WO.nil ?_
  refine thenK_normal ?_
  refine WX.cond _ (by simp only [S0, Nat.reduceEqDiff, reduceIte, p1_0, p1_1, s5]; first | done | with_reducible rfl) (fun hb => ?_) (fun hb => ?_) <;> (try simp only [Bool.or_eq_true, Bool.and_eq_true, Bool.or_eq_false_iff, Bool.and_eq_false_iff, Bool.not_eq_true', Bool.not_eq_false', decide_eq_true_eq, decide_eq_false_iff_not, Int.not_lt, Int.not_le] at hb)
  · obtain ⟨a, ra, la, pa⟩ := hs.at (by omega : i < l.length)
    obtain ⟨⟨va, rfl, sa⟩, na⟩ := ra
    refine WX.skip ?_
    refine thenK_normal ?_
    refine WX.seq ?_
    refine WX.block ?_
    refine WX.seq ?_
    refine WX.region ?_
    refine WO.o (by simp only [aop, S0, Nat.reduceEqDiff, reduceIte, p1_0]; first | done | with_reducible rfl) ?_
    refine WO.o (by simp only [aop, S0, Nat.reduceEqDiff, reduceIte, s5]; first | done | with_reducible rfl) ?_
    refine WO.o (SlR.idx' (by first | (simp only [S0, Nat.reduceEqDiff, reduceIte]; first | done | with_reducible rfl) | (simp only [S0, S1, decide_true, decide_false, Nat.reduceEqDiff, reduceIte, Int.reduceEq, Int.reduceLT, Int.reduceLE, *]; first | done | with_reducible rfl)) (by first | (simp only [S0, Nat.reduceEqDiff, reduceIte]; first | done | rfl) | (simp only [S0, S1, decide_true, decide_false, Nat.reduceEqDiff, reduceIte, Int.reduceEq, Int.reduceLT, Int.reduceLE, *]; first | done | rfl)) (by assumption) (by first | omega | assumption | (simp only [List.length_map, List.length_set]; omega))) ?_
    refine WO.o (fldP (by first | (simp only [S0, Nat.reduceEqDiff, reduceIte]; first | done | with_reducible rfl) | (simp only [S0, S1, decide_true, decide_false, Nat.reduceEqDiff, reduceIte, Int.reduceEq, Int.reduceLT, Int.reduceLE, *]; first | done | with_reducible rfl)) (SlR.some (i := 0) (by assumption) (by first | omega | assumption | (simp only [List.length_map, List.length_set]; omega)))) ?_
    first | (refine WO.o (Piece.load (by first | (simp only [S0, Nat.reduceEqDiff, reduceIte]; first | done | with_reducible rfl) | (simp only [S0, S1, decide_true, decide_false, Nat.reduceEqDiff, reduceIte, Int.reduceEq, Int.reduceLT, Int.reduceLE, *]; first | done | with_reducible rfl)) (by assumption) (by decide) rfl) ?_) | (refine WO.o (Piece.load0 (by first | (simp only [S0, Nat.reduceEqDiff, reduceIte]; first | done | with_reducible rfl) | (simp only [S0, S1, decide_true, decide_false, Nat.reduceEqDiff, reduceIte, Int.reduceEq, Int.reduceLT, Int.reduceLE, *]; first | done | with_reducible rfl)) (by assumption) (by decide) rfl) ?_)
    first | (refine WO.o (SlI.len' (by first | (simp only [S0, Nat.reduceEqDiff, reduceIte]; first | done | with_reducible rfl) | (simp only [S0, S1, decide_true, decide_false, Nat.reduceEqDiff, reduceIte, Int.reduceEq, Int.reduceLT, Int.reduceLE, *]; first | done | with_reducible rfl)) (by first | assumption | exact SlI.ext (by assumption) (by assumption) | exact OwnI.sl (by assumption) | exact OwnN.sl (by assumption))) ?_) | (refine WO.o (SlR.len' (by first | (simp only [S0, Nat.reduceEqDiff, reduceIte]; first | done | with_reducible rfl) | (simp only [S0, S1, decide_true, decide_false, Nat.reduceEqDiff, reduceIte, Int.reduceEq, Int.reduceLT, Int.reduceLE, *]; first | done | with_reducible rfl)) (by assumption)) ?_)
    refine WO.o (by simp only [aop, binV_gtr, Option.map_some, S0, Nat.reduceEqDiff, reduceIte]; first | done | with_reducible rfl) ?_
    refine WO.nil ?_
    refine thenK_normal ?_
    refine WX.cond _ (by simp only [S0, Nat.reduceEqDiff, reduceIte, p1_0, p1_1, s5]; first | done | with_reducible rfl) (fun hb => ?_) (fun hb => ?_) <;> (try simp only [Bool.or_eq_true, Bool.and_eq_true, Bool.or_eq_false_iff, Bool.and_eq_false_iff, Bool.not_eq_true', Bool.not_eq_false', decide_eq_true_eq, decide_eq_false_iff_not, Int.not_lt, Int.not_le] at hb)
    · refine WX.seq ?_
      refine WX.region ?_
      refine WO.o (by simp only [aop, S0, Nat.reduceEqDiff, reduceIte]; first | done | with_reducible rfl) ?_
      refine WO.nil ?_
      refine thenK_normal ?_
      refine WX.ret ?_
      refine blockK_ret ?_
      refine thenK_ret ?_
      refine loopK_ret ?_
      refine blockK_ret ?_
      refine thenK_ret ?_
      first | (refine retK_ret (by simp only [resultsA, resultA, S0, Nat.reduceEqDiff, reduceIte, p1_0, p1_1, s5]; rfl) ?_) | (refine retK_ret (by simp only [resultsA, resultA, S0, S1, decide_true, decide_false, Nat.reduceEqDiff, reduceIte, Int.reduceEq, Int.reduceLT, Int.reduceLE, *]; rfl) ?_)
      rfl
    refine WX.skip ?_
    refine blockK_normal ?_
    refine thenK_normal ?_
    refine WX.region ?_
    refine WO.o (by simp only [aop, S0, Nat.reduceEqDiff, reduceIte, s5]; first | done | with_reducible rfl) ?_
    refine WO.o (by simp only [aop, binV_add, Option.map_some, S0, Nat.reduceEqDiff, reduceIte]; first | (rw [wrap64 (by omega) (by omega)]) | with_reducible rfl) ?_
    refine WO.o (by simp only [aop, S0, Nat.reduceEqDiff, reduceIte]; first | done | with_reducible rfl) ?_
    refine WO.nil ?_
    exact loopK_normal (i + 1) (by omega) ⟨rfl, (by first | (simp only [S0, Nat.reduceEqDiff, reduceIte, p1_0, p1_1, s5]; first | done | rfl) | (simp only [S0, S1, decide_true, decide_false, Nat.reduceEqDiff, reduceIte, Int.reduceEq, Int.reduceLT, Int.reduceLE, *]; first | done | rfl)), by omega⟩
  · refine WX.exit ?_
    refine thenK_exit ?_
    refine loopK_exit ?_
    refine blockK_exit ?_
    refine thenK_normal ?_
    refine WX.seq ?_
    refine WX.region ?_
    refine WO.o (by simp only [aop, S0, Nat.reduceEqDiff, reduceIte, p1_0]; first | done | with_reducible rfl) ?_
    refine WO.o (by simp only [aop, S0, Nat.reduceEqDiff, reduceIte, p1_1]; first | done | with_reducible rfl) ?_
    first | (refine WO.call (by simp only [List.map, S0, Nat.reduceEqDiff, reduceIte]; first | done | with_reducible rfl) ?_) | (refine WO.call (by simp only [List.map, S0, S1, decide_true, decide_false, Nat.reduceEqDiff, reduceIte, Int.reduceEq, Int.reduceLT, Int.reduceLE, *]; first | done | with_reducible rfl) ?_)
    refine (same_cons h v w l k hs ht hl).mono ?_
    rintro _ h1 ⟨rfl, e1⟩
    have hs := hs.ext (fun cs a r => RCon.ext r e1) e1
    have ht := ht.ext (fun cs a r => RCon.ext r e1) e1
    refine WO.o (by simp only [aop, S0, Nat.reduceEqDiff, reduceIte, p1_0]; first | done | with_reducible rfl) ?_
    refine WO.o (by simp only [aop, S0, Nat.reduceEqDiff, reduceIte, p1_1]; first | done | with_reducible rfl) ?_
    first | (refine WO.call (by simp only [List.map, S0, Nat.reduceEqDiff, reduceIte]; first | done | with_reducible rfl) ?_) | (refine WO.call (by simp only [List.map, S0, S1, decide_true, decide_false, Nat.reduceEqDiff, reduceIte, Int.reduceEq, Int.reduceLT, Int.reduceLE, *]; first | done | with_reducible rfl) ?_)
    refine (same_ref h1 v w l k hs ht hl).mono ?_
    rintro _ _ ⟨rfl, rfl⟩
    refine WO.o (by simp only [aop, beq_true', beq_false', bne_true', bne_false', S0, Nat.reduceEqDiff, reduceIte]; first | done | with_reducible rfl) ?_
    refine WO.o (by simp only [aop, S0, Nat.reduceEqDiff, reduceIte]; first | done | with_reducible rfl) ?_
    refine WO.nil ?_
    refine thenK_normal ?_
    refine WX.ret ?_
    first | (refine retK_ret (by simp only [resultsA, resultA, S0, Nat.reduceEqDiff, reduceIte, p1_0, p1_1, s5]; rfl) ?_) | (refine retK_ret (by simp only [resultsA, resultA, S0, S1, decide_true, decide_false, Nat.reduceEqDiff, reduceIte, Int.reduceEq, Int.reduceLT, Int.reduceLE, *]; rfl) ?_)
    simp [one]
end Go.Proofs.Ytmejfcakhpihlaa
