/- What the document's comparison of constraints comes to in the abstract machine. -/
import Derived.Test.YtmejfcakhpihlaaConsWalk
namespace Go.Proofs.Ytmejfcakhpihlaa
open Go.Am
set_option linter.unusedVariables false
set_option linter.unusedSimpArgs false
set_option maxHeartbeats 4000000


noncomputable def body5_0 : ACode := (.seq (.seq (.region [⟨some 11, none, (.mov (.tmp 5))⟩, ⟨some 12, none, (.mov (.tmp 0))⟩, ⟨some 13, none, (.len (.tmp 12))⟩, ⟨some 14, none, (.bin .lss (.tmp 11) (.tmp 13))⟩]) (.cond (.tmp 14) .skip (.exit 0))) (.seq (.block 1 (.seq (.regionC [(⟨some 17, none, (.mov (.tmp 0))⟩, []), (⟨some 18, none, (.mov (.tmp 5))⟩, []), (⟨some 19, none, (.idx 5 (.tmp 17) (.tmp 18))⟩, []), (⟨some 20, none, (.fld 0 (.tmp 19))⟩, []), (⟨some 21, none, (.load false 1 (.tmp 20))⟩, []), (⟨some 22, none, (.mov (.tmp 1))⟩, []), (⟨some 23, none, (.mov (.tmp 5))⟩, []), (⟨some 24, none, (.idx 5 (.tmp 22) (.tmp 23))⟩, []), (⟨some 25, none, (.fld 0 (.tmp 24))⟩, []), (⟨some 26, none, (.load false 1 (.tmp 25))⟩, []), (⟨some 27, none, (.bin .neq (.tmp 21) (.tmp 26))⟩, []), (⟨some 28, none, (.mov (.tmp 27))⟩, []), (⟨some 29, some (28, false), (.mov (.tmp 0))⟩, []), (⟨some 30, some (28, false), (.mov (.tmp 5))⟩, []), (⟨some 31, some (28, false), (.idx 5 (.tmp 29) (.tmp 30))⟩, []), (⟨some 32, some (28, false), (.fld 1 (.tmp 31))⟩, []), (⟨some 33, some (28, false), (.load false 1 (.tmp 32))⟩, []), (⟨some 34, some (28, false), (.mov (.tmp 1))⟩, []), (⟨some 35, some (28, false), (.mov (.tmp 5))⟩, []), (⟨some 36, some (28, false), (.idx 5 (.tmp 34) (.tmp 35))⟩, []), (⟨some 37, some (28, false), (.fld 1 (.tmp 36))⟩, []), (⟨some 38, some (28, false), (.load false 1 (.tmp 37))⟩, []), (⟨some 39, some (28, false), (.bin .neq (.tmp 33) (.tmp 38))⟩, []), (⟨some 40, none, (.pick (.tmp 28) (.const (.bool true)) (.tmp 39))⟩, []), (⟨some 41, none, (.mov (.tmp 40))⟩, []), (⟨some 42, some (41, false), (.mov (.tmp 0))⟩, []), (⟨some 43, some (41, false), (.mov (.tmp 5))⟩, []), (⟨some 44, some (41, false), (.idx 5 (.tmp 42) (.tmp 43))⟩, []), (⟨some 45, some (41, false), (.fld 2 (.tmp 44))⟩, []), (⟨some 46, some (41, false), (.load false 1 (.tmp 45))⟩, []), (⟨some 47, some (41, false), (.mov (.tmp 1))⟩, []), (⟨some 48, some (41, false), (.mov (.tmp 5))⟩, []), (⟨some 49, some (41, false), (.idx 5 (.tmp 47) (.tmp 48))⟩, []), (⟨some 50, some (41, false), (.fld 2 (.tmp 49))⟩, []), (⟨some 51, some (41, false), (.load false 1 (.tmp 50))⟩, []), (⟨some 52, some (41, false), (.bin .neq (.tmp 46) (.tmp 51))⟩, []), (⟨some 53, none, (.pick (.tmp 41) (.const (.bool true)) (.tmp 52))⟩, []), (⟨some 54, none, (.mov (.tmp 53))⟩, []), (⟨some 55, some (54, false), (.mov (.tmp 0))⟩, []), (⟨some 56, some (54, false), (.mov (.tmp 5))⟩, []), (⟨some 57, some (54, false), (.idx 5 (.tmp 55) (.tmp 56))⟩, []), (⟨some 58, some (54, false), (.fld 3 (.tmp 57))⟩, []), (⟨some 59, some (54, false), (.load false 1 (.tmp 58))⟩, []), (⟨some 60, some (54, false), (.mov (.tmp 1))⟩, []), (⟨some 61, some (54, false), (.mov (.tmp 5))⟩, []), (⟨some 62, some (54, false), (.idx 5 (.tmp 60) (.tmp 61))⟩, []), (⟨some 63, some (54, false), (.fld 3 (.tmp 62))⟩, []), (⟨some 64, some (54, false), (.load false 1 (.tmp 63))⟩, []), (⟨some 65, some (54, false), (.bin .neq (.tmp 59) (.tmp 64))⟩, []), (⟨some 66, none, (.pick (.tmp 54) (.const (.bool true)) (.tmp 65))⟩, []), (⟨some 67, none, (.mov (.tmp 66))⟩, []), (⟨some 68, some (67, false), (.mov (.tmp 0))⟩, []), (⟨some 69, some (67, false), (.mov (.tmp 5))⟩, []), (⟨some 70, some (67, false), (.idx 5 (.tmp 68) (.tmp 69))⟩, []), (⟨some 71, some (67, false), (.fld 4 (.tmp 70))⟩, []), (⟨some 72, some (67, false), (.load false 1 (.tmp 71))⟩, []), (⟨some 73, some (67, false), (.mov (.tmp 1))⟩, []), (⟨some 74, some (67, false), (.mov (.tmp 5))⟩, []), (⟨some 75, some (67, false), (.idx 5 (.tmp 73) (.tmp 74))⟩, []), (⟨some 76, some (67, false), (.fld 4 (.tmp 75))⟩, []), (⟨some 77, some (67, false), (.load false 1 (.tmp 76))⟩, []), (⟨some 78, some (67, false), (.call (.func 9) [(.tmp 72), (.tmp 77)])⟩, []), (⟨some 79, some (67, false), (.un .not (.tmp 78))⟩, []), (⟨some 80, none, (.pick (.tmp 67) (.const (.bool true)) (.tmp 79))⟩, [])]) (.cond (.tmp 80) (.seq (.region [⟨some 4, none, (.mov (.const (.bool false)))⟩]) .ret) .skip))) (.region [⟨some 15, none, (.mov (.tmp 5))⟩, ⟨some 16, none, (.bin .add (.tmp 15) (.const (.int .i64 1)))⟩, ⟨some 5, none, (.mov (.tmp 16))⟩])))
noncomputable def body5 : ACode := (.seq (.region [⟨some 4, none, (.mov (.const (.bool false)))⟩]) (.seq (.seq (.region [⟨some 6, none, (.mov (.tmp 0))⟩, ⟨some 7, none, (.len (.tmp 6))⟩, ⟨some 8, none, (.mov (.tmp 1))⟩, ⟨some 9, none, (.len (.tmp 8))⟩, ⟨some 10, none, (.bin .neq (.tmp 7) (.tmp 9))⟩]) (.cond (.tmp 10) (.seq (.region [⟨some 4, none, (.mov (.const (.bool false)))⟩]) .ret) .skip)) (.seq (.seq (.region [⟨some 5, none, (.mov (.const (.int .i64 0)))⟩]) (.block 0 (.loop body5_0))) (.seq (.region [⟨some 4, none, (.mov (.const (.bool true)))⟩]) .ret))))
set_option maxRecDepth 100000 in
theorem tab5 : tb.code 5 = some ⟨81, [(4, none)], body5⟩ := by kernel_rfl
theorem same_ref (h : AHeap) (v w : Value) (l k : List LCon) (hs : SlR 5 RCon h v l) (ht : SlR 5 RCon h w k) (hl : (l.length : Int) ≤ 9223372036854775807) :
    WC Try.prog tb 5 [v, w] h fun r h' => r = .bool (decide (l = k)) ∧ h = h' := by
  refine WC.of (nostub _ rfl) tab5 ?_
  refine WX.seq ?_
  refine WX.region ?_
  refine WO.o (by simp only [aop, S0, Nat.reduceEqDiff, reduceIte]; first | done | with_reducible rfl) ?_
  refine WO.nil ?_
  refine thenK_normal ?_
  refine WX.seq ?_
  refine WX.seq ?_
  refine WX.region ?_
  refine WO.o (by simp only [aop, S0, Nat.reduceEqDiff, reduceIte]; first | done | with_reducible rfl) ?_
  first | (refine WO.o (SlI.len' (by first | (simp only [S0, Nat.reduceEqDiff, reduceIte]; first | done | with_reducible rfl) | (simp only [S0, S1, decide_true, decide_false, Nat.reduceEqDiff, reduceIte, Int.reduceEq, Int.reduceLT, Int.reduceLE, *]; first | done | with_reducible rfl)) (by first | assumption | exact SlI.ext (by assumption) (by assumption) | exact OwnI.sl (by assumption) | exact OwnN.sl (by assumption))) ?_) | (refine WO.o (SlR.len' (by first | (simp only [S0, Nat.reduceEqDiff, reduceIte]; first | done | with_reducible rfl) | (simp only [S0, S1, decide_true, decide_false, Nat.reduceEqDiff, reduceIte, Int.reduceEq, Int.reduceLT, Int.reduceLE, *]; first | done | with_reducible rfl)) (by assumption)) ?_)
  refine WO.o (by simp only [aop, S0, Nat.reduceEqDiff, reduceIte]; first | done | with_reducible rfl) ?_
  first | (refine WO.o (SlI.len' (by first | (simp only [S0, Nat.reduceEqDiff, reduceIte]; first | done | with_reducible rfl) | (simp only [S0, S1, decide_true, decide_false, Nat.reduceEqDiff, reduceIte, Int.reduceEq, Int.reduceLT, Int.reduceLE, *]; first | done | with_reducible rfl)) (by first | assumption | exact SlI.ext (by assumption) (by assumption) | exact OwnI.sl (by assumption) | exact OwnN.sl (by assumption))) ?_) | (refine WO.o (SlR.len' (by first | (simp only [S0, Nat.reduceEqDiff, reduceIte]; first | done | with_reducible rfl) | (simp only [S0, S1, decide_true, decide_false, Nat.reduceEqDiff, reduceIte, Int.reduceEq, Int.reduceLT, Int.reduceLE, *]; first | done | with_reducible rfl)) (by assumption)) ?_)
  refine WO.o (by simp only [aop, binV_neq, Option.map_some, S0, Nat.reduceEqDiff, reduceIte]; first | done | with_reducible rfl) ?_
  refine WO.nil ?_
  refine thenK_normal ?_
  refine WX.cond _ (by simp only [S0, Nat.reduceEqDiff, reduceIte]; first | done | with_reducible rfl) (fun hb => ?_) (fun hb => ?_) <;> (try simp only [Bool.or_eq_true, Bool.and_eq_true, Bool.or_eq_false_iff, Bool.and_eq_false_iff, Bool.not_eq_true', Bool.not_eq_false', decide_eq_true_eq, decide_eq_false_iff_not, Int.not_lt, Int.not_le] at hb)
  · refine WX.seq ?_
    refine WX.region ?_
    refine WO.o (by simp only [aop, S0, Nat.reduceEqDiff, reduceIte]; first | done | with_reducible rfl) ?_
    refine WO.nil ?_
    refine thenK_normal ?_
    refine WX.ret ?_
    refine thenK_ret ?_
    first | (refine retK_ret (by simp only [resultsA, resultA, S0, Nat.reduceEqDiff, reduceIte]; rfl) ?_) | (refine retK_ret (by simp only [resultsA, resultA, S0, S1, decide_true, decide_false, Nat.reduceEqDiff, reduceIte, Int.reduceEq, Int.reduceLT, Int.reduceLE, *]; rfl) ?_)
    refine ⟨?_, rfl⟩
    rw [decide_eq_false (fun e => hb (by rw [e]))]; rfl
  refine WX.skip ?_
  refine thenK_normal ?_
  refine WX.seq ?_
  refine WX.seq ?_
  refine WX.region ?_
  refine WO.o (by simp only [aop, S0, Nat.reduceEqDiff, reduceIte]; first | done | with_reducible rfl) ?_
  refine WO.nil ?_
  refine thenK_normal ?_
  refine WX.block ?_
  have hb' : l.length = k.length := by omega
  refine WX.loopF (fun k => l.length - k) (fun i t h1 => h = h1 ∧ tmGet t 5 = I i ∧ i ≤ l.length ∧ ∀ j, j < i → l[j]? = k[j]?) 0 ?_ ?_
  · refine ⟨rfl, (by first | (simp only [S0, Nat.reduceEqDiff, reduceIte]; first | done | rfl) | (simp only [S0, S1, decide_true, decide_false, Nat.reduceEqDiff, reduceIte, Int.reduceEq, Int.reduceLT, Int.reduceLE, *]; first | done | rfl)), Nat.zero_le _, fun i hi => by omega⟩
  rintro i t _ hsame ⟨rfl, s5, hi, hm⟩
  have p1_0 := (hsame 0 rfl).trans (by simp only [S0, Nat.reduceEqDiff, reduceIte]; first | done | with_reducible rfl)
  have p1_1 := (hsame 1 rfl).trans (by simp only [S0, Nat.reduceEqDiff, reduceIte]; first | done | with_reducible rfl)
  clear hsame
  refine WX.seq ?_
  refine WX.seq ?_
  refine WX.region ?_
  refine WO.o (by simp only [aop, S0, Nat.reduceEqDiff, reduceIte, s5]; first | done | with_reducible rfl) ?_
  refine WO.o (by simp only [aop, S0, Nat.reduceEqDiff, reduceIte, p1_0]; first | done | with_reducible rfl) ?_
  first | (refine WO.o (SlI.len' (by first | (simp only [S0, Nat.reduceEqDiff, reduceIte]; first | done | with_reducible rfl) | (simp only [S0, S1, decide_true, decide_false, Nat.reduceEqDiff, reduceIte, Int.reduceEq, Int.reduceLT, Int.reduceLE, *]; first | done | with_reducible rfl)) (by first | assumption | exact SlI.ext (by assumption) (by assumption) | exact OwnI.sl (by assumption) | exact OwnN.sl (by assumption))) ?_) | (refine WO.o (SlR.len' (by first | (simp only [S0, Nat.reduceEqDiff, reduceIte]; first | done | with_reducible rfl) | (simp only [S0, S1, decide_true, decide_false, Nat.reduceEqDiff, reduceIte, Int.reduceEq, Int.reduceLT, Int.reduceLE, *]; first | done | with_reducible rfl)) (by assumption)) ?_)
  refine WO.o (by simp only [aop, binV_lss, Option.map_some, S0, Nat.reduceEqDiff, reduceIte]; first | done | with_reducible rfl) ?_
  refine WO.nil ?_
  refine thenK_normal ?_
  refine WX.cond _ (by simp only [S0, Nat.reduceEqDiff, reduceIte, p1_0, p1_1, s5]; first | done | with_reducible rfl) (fun hb => ?_) (fun hb => ?_) <;> (try simp only [Bool.or_eq_true, Bool.and_eq_true, Bool.or_eq_false_iff, Bool.and_eq_false_iff, Bool.not_eq_true', Bool.not_eq_false', decide_eq_true_eq, decide_eq_false_iff_not, Int.not_lt, Int.not_le] at hb)
  · refine WX.skip ?_
    refine thenK_normal ?_
    refine WX.seq ?_
    refine WX.block ?_
    refine WX.seq ?_
    have hs0 := hs
    have ht0 := ht
    have hs : SlR 5 RCon (inC h) v l := hs
    have ht : SlR 5 RCon (inC h) w k := ht
    obtain ⟨a, ra, la, pa⟩ := hs.at (by omega : i < l.length)
    obtain ⟨b, rb, lb, pb⟩ := ht.at (by omega : i < k.length)
    obtain ⟨⟨va, rfl, sa⟩, na⟩ := ra
    obtain ⟨⟨vb, rfl, sb⟩, nb⟩ := rb
    have hx : l[i]? = some l[i] := List.getElem?_eq_getElem (by omega)
    have hy : k[i]? = some k[i] := List.getElem?_eq_getElem (by omega)
    generalize l[i] = x at *
    generalize k[i] = y at *
    obtain ⟨xk, xt, xs, xn, xa⟩ := x
    obtain ⟨yk, yt, ys, yn, ya⟩ := y
    dsimp only at sa sb na nb pa pb
    have hne : (LCon.mk xk xt xs xn xa = LCon.mk yk yt ys yn ya) ∨ ¬ l = k := by
      by_cases e : l = k
      · subst e; rw [hx] at hy; exact .inl (Option.some.inj hy)
      · exact .inr e
    have hp : LCon.mk xk xt xs xn xa = LCon.mk yk yt ys yn ya → l[i]? = k[i]? := fun e => by rw [hx, hy, e]
    clear hs0 ht0 hx hy
    by_cases c1 : xk = yk
    case neg =>
      refine WX.regionU0 rfl rfl ?_ rfl
      refine WU.q rfl ?_
      refine WO.o (by simp only [aop, S0, Nat.reduceEqDiff, reduceIte, p1_0]; first | done | with_reducible rfl) ?_
      refine WO.nil ?_
      first | (refine uK_q ?_) | (refine uK_e (by assumption) ?_)
      refine WU.q rfl ?_
      refine WO.o (by simp only [aop, S0, Nat.reduceEqDiff, reduceIte, s5]; first | done | with_reducible rfl) ?_
      refine WO.nil ?_
      first | (refine uK_q ?_) | (refine uK_e (by assumption) ?_)
      refine WU.q rfl ?_
      refine WO.o (SlR.idx' (by first | (simp only [S0, Nat.reduceEqDiff, reduceIte]; first | done | with_reducible rfl) | (simp only [S0, S1, decide_true, decide_false, Nat.reduceEqDiff, reduceIte, Int.reduceEq, Int.reduceLT, Int.reduceLE, *]; first | done | with_reducible rfl)) (by first | (simp only [S0, Nat.reduceEqDiff, reduceIte]; first | done | rfl) | (simp only [S0, S1, decide_true, decide_false, Nat.reduceEqDiff, reduceIte, Int.reduceEq, Int.reduceLT, Int.reduceLE, *]; first | done | rfl)) (by assumption) (by first | omega | assumption | (simp only [List.length_map, List.length_set]; omega))) ?_
      refine WO.nil ?_
      first | (refine uK_q ?_) | (refine uK_e (by assumption) ?_)
      refine WU.q rfl ?_
      refine WO.o (fldP (by first | (simp only [S0, Nat.reduceEqDiff, reduceIte]; first | done | with_reducible rfl) | (simp only [S0, S1, decide_true, decide_false, Nat.reduceEqDiff, reduceIte, Int.reduceEq, Int.reduceLT, Int.reduceLE, *]; first | done | with_reducible rfl)) (SlR.some (i := 0) (by assumption) (by first | omega | assumption | (simp only [List.length_map, List.length_set]; omega)))) ?_
      refine WO.nil ?_
      first | (refine uK_q ?_) | (refine uK_e (by assumption) ?_)
      refine WU.q rfl ?_
      first | (refine WO.o (Piece.load (by first | (simp only [S0, Nat.reduceEqDiff, reduceIte]; first | done | with_reducible rfl) | (simp only [S0, S1, decide_true, decide_false, Nat.reduceEqDiff, reduceIte, Int.reduceEq, Int.reduceLT, Int.reduceLE, *]; first | done | with_reducible rfl)) (by assumption) (by decide) rfl) ?_) | (refine WO.o (Piece.load0 (by first | (simp only [S0, Nat.reduceEqDiff, reduceIte]; first | done | with_reducible rfl) | (simp only [S0, S1, decide_true, decide_false, Nat.reduceEqDiff, reduceIte, Int.reduceEq, Int.reduceLT, Int.reduceLE, *]; first | done | with_reducible rfl)) (by assumption) (by decide) rfl) ?_)
      refine WO.nil ?_
      first | (refine uK_q ?_) | (refine uK_e (by assumption) ?_)
      refine WU.q rfl ?_
      refine WO.o (by simp only [aop, S0, Nat.reduceEqDiff, reduceIte, p1_1]; first | done | with_reducible rfl) ?_
      refine WO.nil ?_
      first | (refine uK_q ?_) | (refine uK_e (by assumption) ?_)
      refine WU.q rfl ?_
      refine WO.o (by simp only [aop, S0, Nat.reduceEqDiff, reduceIte, s5]; first | done | with_reducible rfl) ?_
      refine WO.nil ?_
      first | (refine uK_q ?_) | (refine uK_e (by assumption) ?_)
      refine WU.q rfl ?_
      refine WO.o (SlR.idx' (by first | (simp only [S0, Nat.reduceEqDiff, reduceIte]; first | done | with_reducible rfl) | (simp only [S0, S1, decide_true, decide_false, Nat.reduceEqDiff, reduceIte, Int.reduceEq, Int.reduceLT, Int.reduceLE, *]; first | done | with_reducible rfl)) (by first | (simp only [S0, Nat.reduceEqDiff, reduceIte]; first | done | rfl) | (simp only [S0, S1, decide_true, decide_false, Nat.reduceEqDiff, reduceIte, Int.reduceEq, Int.reduceLT, Int.reduceLE, *]; first | done | rfl)) (by assumption) (by first | omega | assumption | (simp only [List.length_map, List.length_set]; omega))) ?_
      refine WO.nil ?_
      first | (refine uK_q ?_) | (refine uK_e (by assumption) ?_)
      refine WU.q rfl ?_
      refine WO.o (fldP (by first | (simp only [S0, Nat.reduceEqDiff, reduceIte]; first | done | with_reducible rfl) | (simp only [S0, S1, decide_true, decide_false, Nat.reduceEqDiff, reduceIte, Int.reduceEq, Int.reduceLT, Int.reduceLE, *]; first | done | with_reducible rfl)) (SlR.some (i := 0) (by assumption) (by first | omega | assumption | (simp only [List.length_map, List.length_set]; omega)))) ?_
      refine WO.nil ?_
      first | (refine uK_q ?_) | (refine uK_e (by assumption) ?_)
      refine WU.q rfl ?_
      first | (refine WO.o (Piece.load (by first | (simp only [S0, Nat.reduceEqDiff, reduceIte]; first | done | with_reducible rfl) | (simp only [S0, S1, decide_true, decide_false, Nat.reduceEqDiff, reduceIte, Int.reduceEq, Int.reduceLT, Int.reduceLE, *]; first | done | with_reducible rfl)) (by assumption) (by decide) rfl) ?_) | (refine WO.o (Piece.load0 (by first | (simp only [S0, Nat.reduceEqDiff, reduceIte]; first | done | with_reducible rfl) | (simp only [S0, S1, decide_true, decide_false, Nat.reduceEqDiff, reduceIte, Int.reduceEq, Int.reduceLT, Int.reduceLE, *]; first | done | with_reducible rfl)) (by assumption) (by decide) rfl) ?_)
      refine WO.nil ?_
      first | (refine uK_q ?_) | (refine uK_e (by assumption) ?_)
      refine WU.q rfl ?_
      refine WO.o (by simp only [aop, binV_neq, Option.map_some, S0, S1, decide_true, decide_false, Nat.reduceEqDiff, reduceIte, Int.reduceEq, Int.reduceLT, Int.reduceLE, *]; first | done | with_reducible rfl) ?_
      refine WO.nil ?_
      first | (refine uK_q ?_) | (refine uK_e (by assumption) ?_)
      refine WU.q rfl ?_
      refine WO.o (by simp only [aop, S0, Nat.reduceEqDiff, reduceIte]; first | done | with_reducible rfl) ?_
      refine WO.nil ?_
      first | (refine uK_q ?_) | (refine uK_e (by assumption) ?_)
      refine WU.q rfl ?_
      first | (refine WO.guardT (by simp only [S0, S1, decide_true, decide_false, Nat.reduceEqDiff, reduceIte, Int.reduceEq, Int.reduceLT, Int.reduceLE, *]; first | done | with_reducible rfl) ?_; refine WO.o (by simp only [aop, S0, Nat.reduceEqDiff, reduceIte, p1_0]; first | done | with_reducible rfl) ?_) | (refine WO.guardF (by simp only [S0, S1, decide_true, decide_false, Nat.reduceEqDiff, reduceIte, Int.reduceEq, Int.reduceLT, Int.reduceLE, *]; first | done | with_reducible rfl) ?_) | (refine WO.guardU (by simp only [S0, S1, decide_true, decide_false, Nat.reduceEqDiff, reduceIte, Int.reduceEq, Int.reduceLT, Int.reduceLE, *]; first | done | with_reducible rfl) ?_)
      refine WO.nil ?_
      first | (refine uK_q ?_) | (refine uK_e (by assumption) ?_)
      refine WU.q rfl ?_
      first | (refine WO.guardT (by simp only [S0, S1, decide_true, decide_false, Nat.reduceEqDiff, reduceIte, Int.reduceEq, Int.reduceLT, Int.reduceLE, *]; first | done | with_reducible rfl) ?_; refine WO.o (by simp only [aop, S0, Nat.reduceEqDiff, reduceIte, s5]; first | done | with_reducible rfl) ?_) | (refine WO.guardF (by simp only [S0, S1, decide_true, decide_false, Nat.reduceEqDiff, reduceIte, Int.reduceEq, Int.reduceLT, Int.reduceLE, *]; first | done | with_reducible rfl) ?_) | (refine WO.guardU (by simp only [S0, S1, decide_true, decide_false, Nat.reduceEqDiff, reduceIte, Int.reduceEq, Int.reduceLT, Int.reduceLE, *]; first | done | with_reducible rfl) ?_)
      refine WO.nil ?_
      first | (refine uK_q ?_) | (refine uK_e (by assumption) ?_)
      refine WU.q rfl ?_
      first | (refine WO.guardT (by simp only [S0, S1, decide_true, decide_false, Nat.reduceEqDiff, reduceIte, Int.reduceEq, Int.reduceLT, Int.reduceLE, *]; first | done | with_reducible rfl) ?_; refine WO.o (SlR.idx' (by first | (simp only [S0, Nat.reduceEqDiff, reduceIte]; first | done | with_reducible rfl) | (simp only [S0, S1, decide_true, decide_false, Nat.reduceEqDiff, reduceIte, Int.reduceEq, Int.reduceLT, Int.reduceLE, *]; first | done | with_reducible rfl)) (by first | (simp only [S0, Nat.reduceEqDiff, reduceIte]; first | done | rfl) | (simp only [S0, S1, decide_true, decide_false, Nat.reduceEqDiff, reduceIte, Int.reduceEq, Int.reduceLT, Int.reduceLE, *]; first | done | rfl)) (by assumption) (by first | omega | assumption | (simp only [List.length_map, List.length_set]; omega))) ?_) | (refine WO.guardF (by simp only [S0, S1, decide_true, decide_false, Nat.reduceEqDiff, reduceIte, Int.reduceEq, Int.reduceLT, Int.reduceLE, *]; first | done | with_reducible rfl) ?_) | (refine WO.guardU (by simp only [S0, S1, decide_true, decide_false, Nat.reduceEqDiff, reduceIte, Int.reduceEq, Int.reduceLT, Int.reduceLE, *]; first | done | with_reducible rfl) ?_)
      refine WO.nil ?_
      first | (refine uK_q ?_) | (refine uK_e (by assumption) ?_)
      refine WU.q rfl ?_
      first | (refine WO.guardT (by simp only [S0, S1, decide_true, decide_false, Nat.reduceEqDiff, reduceIte, Int.reduceEq, Int.reduceLT, Int.reduceLE, *]; first | done | with_reducible rfl) ?_; refine WO.o (fldP (by first | (simp only [S0, Nat.reduceEqDiff, reduceIte]; first | done | with_reducible rfl) | (simp only [S0, S1, decide_true, decide_false, Nat.reduceEqDiff, reduceIte, Int.reduceEq, Int.reduceLT, Int.reduceLE, *]; first | done | with_reducible rfl)) (SlR.some (i := 0) (by assumption) (by first | omega | assumption | (simp only [List.length_map, List.length_set]; omega)))) ?_) | (refine WO.guardF (by simp only [S0, S1, decide_true, decide_false, Nat.reduceEqDiff, reduceIte, Int.reduceEq, Int.reduceLT, Int.reduceLE, *]; first | done | with_reducible rfl) ?_) | (refine WO.guardU (by simp only [S0, S1, decide_true, decide_false, Nat.reduceEqDiff, reduceIte, Int.reduceEq, Int.reduceLT, Int.reduceLE, *]; first | done | with_reducible rfl) ?_)
      refine WO.nil ?_
      first | (refine uK_q ?_) | (refine uK_e (by assumption) ?_)
      refine WU.q rfl ?_
      first | (refine WO.guardT (by simp only [S0, S1, decide_true, decide_false, Nat.reduceEqDiff, reduceIte, Int.reduceEq, Int.reduceLT, Int.reduceLE, *]; first | done | with_reducible rfl) ?_; first | (refine WO.o (Piece.load (by first | (simp only [S0, Nat.reduceEqDiff, reduceIte]; first | done | with_reducible rfl) | (simp only [S0, S1, decide_true, decide_false, Nat.reduceEqDiff, reduceIte, Int.reduceEq, Int.reduceLT, Int.reduceLE, *]; first | done | with_reducible rfl)) (by assumption) (by decide) rfl) ?_) | (refine WO.o (Piece.load0 (by first | (simp only [S0, Nat.reduceEqDiff, reduceIte]; first | done | with_reducible rfl) | (simp only [S0, S1, decide_true, decide_false, Nat.reduceEqDiff, reduceIte, Int.reduceEq, Int.reduceLT, Int.reduceLE, *]; first | done | with_reducible rfl)) (by assumption) (by decide) rfl) ?_)) | (refine WO.guardF (by simp only [S0, S1, decide_true, decide_false, Nat.reduceEqDiff, reduceIte, Int.reduceEq, Int.reduceLT, Int.reduceLE, *]; first | done | with_reducible rfl) ?_) | (refine WO.guardU (by simp only [S0, S1, decide_true, decide_false, Nat.reduceEqDiff, reduceIte, Int.reduceEq, Int.reduceLT, Int.reduceLE, *]; first | done | with_reducible rfl) ?_)
      refine WO.nil ?_
      first | (refine uK_q ?_) | (refine uK_e (by assumption) ?_)
      refine WU.q rfl ?_
      first | (refine WO.guardT (by simp only [S0, S1, decide_true, decide_false, Nat.reduceEqDiff, reduceIte, Int.reduceEq, Int.reduceLT, Int.reduceLE, *]; first | done | with_reducible rfl) ?_; refine WO.o (by simp only [aop, S0, Nat.reduceEqDiff, reduceIte, p1_1]; first | done | with_reducible rfl) ?_) | (refine WO.guardF (by simp only [S0, S1, decide_true, decide_false, Nat.reduceEqDiff, reduceIte, Int.reduceEq, Int.reduceLT, Int.reduceLE, *]; first | done | with_reducible rfl) ?_) | (refine WO.guardU (by simp only [S0, S1, decide_true, decide_false, Nat.reduceEqDiff, reduceIte, Int.reduceEq, Int.reduceLT, Int.reduceLE, *]; first | done | with_reducible rfl) ?_)
      refine WO.nil ?_
      first | (refine uK_q ?_) | (refine uK_e (by assumption) ?_)
      refine WU.q rfl ?_
      first | (refine WO.guardT (by simp only [S0, S1, decide_true, decide_false, Nat.reduceEqDiff, reduceIte, Int.reduceEq, Int.reduceLT, Int.reduceLE, *]; first | done | with_reducible rfl) ?_; refine WO.o (by simp only [aop, S0, Nat.reduceEqDiff, reduceIte, s5]; first | done | with_reducible rfl) ?_) | (refine WO.guardF (by simp only [S0, S1, decide_true, decide_false, Nat.reduceEqDiff, reduceIte, Int.reduceEq, Int.reduceLT, Int.reduceLE, *]; first | done | with_reducible rfl) ?_) | (refine WO.guardU (by simp only [S0, S1, decide_true, decide_false, Nat.reduceEqDiff, reduceIte, Int.reduceEq, Int.reduceLT, Int.reduceLE, *]; first | done | with_reducible rfl) ?_)
      refine WO.nil ?_
      first | (refine uK_q ?_) | (refine uK_e (by assumption) ?_)
      refine WU.q rfl ?_
      first | (refine WO.guardT (by simp only [S0, S1, decide_true, decide_false, Nat.reduceEqDiff, reduceIte, Int.reduceEq, Int.reduceLT, Int.reduceLE, *]; first | done | with_reducible rfl) ?_; refine WO.o (SlR.idx' (by first | (simp only [S0, Nat.reduceEqDiff, reduceIte]; first | done | with_reducible rfl) | (simp only [S0, S1, decide_true, decide_false, Nat.reduceEqDiff, reduceIte, Int.reduceEq, Int.reduceLT, Int.reduceLE, *]; first | done | with_reducible rfl)) (by first | (simp only [S0, Nat.reduceEqDiff, reduceIte]; first | done | rfl) | (simp only [S0, S1, decide_true, decide_false, Nat.reduceEqDiff, reduceIte, Int.reduceEq, Int.reduceLT, Int.reduceLE, *]; first | done | rfl)) (by assumption) (by first | omega | assumption | (simp only [List.length_map, List.length_set]; omega))) ?_) | (refine WO.guardF (by simp only [S0, S1, decide_true, decide_false, Nat.reduceEqDiff, reduceIte, Int.reduceEq, Int.reduceLT, Int.reduceLE, *]; first | done | with_reducible rfl) ?_) | (refine WO.guardU (by simp only [S0, S1, decide_true, decide_false, Nat.reduceEqDiff, reduceIte, Int.reduceEq, Int.reduceLT, Int.reduceLE, *]; first | done | with_reducible rfl) ?_)
      refine WO.nil ?_
      first | (refine uK_q ?_) | (refine uK_e (by assumption) ?_)
      refine WU.q rfl ?_
      refine WO.abs fun t2_ ht2_ => ?_
      have q2_0 := (ht2_ 0).trans (by simp only [S0, Nat.reduceEqDiff, reduceIte, p1_0]; first | done | with_reducible rfl)
      have q2_1 := (ht2_ 1).trans (by simp only [S0, Nat.reduceEqDiff, reduceIte, p1_1]; first | done | with_reducible rfl)
      have q2_5 := (ht2_ 5).trans (by simp only [S0, Nat.reduceEqDiff, reduceIte, s5]; first | done | with_reducible rfl)
      have q2_28 := (ht2_ 28).trans (by simp only [S0, Nat.reduceEqDiff, reduceIte]; first | done | with_reducible rfl)
      have q2_33 := (ht2_ 33).trans (by simp only [S0, Nat.reduceEqDiff, reduceIte]; first | done | with_reducible rfl)
      have q2_36 := (ht2_ 36).trans (by simp only [S0, Nat.reduceEqDiff, reduceIte]; first | done | with_reducible rfl)
      clear ht2_
      clear p1_0 p1_1 s5
      first | (refine WO.guardT (by simp only [S0, S1, decide_true, decide_false, Nat.reduceEqDiff, reduceIte, Int.reduceEq, Int.reduceLT, Int.reduceLE, *]; first | done | with_reducible rfl) ?_; refine WO.o (fldP (by first | (simp only [S0, Nat.reduceEqDiff, reduceIte, q2_28, q2_36]; first | done | with_reducible rfl) | (simp only [S0, S1, decide_true, decide_false, Nat.reduceEqDiff, reduceIte, Int.reduceEq, Int.reduceLT, Int.reduceLE, *]; first | done | with_reducible rfl)) (SlR.some (i := 0) (by assumption) (by first | omega | assumption | (simp only [List.length_map, List.length_set]; omega)))) ?_) | (refine WO.guardF (by simp only [S0, S1, decide_true, decide_false, Nat.reduceEqDiff, reduceIte, Int.reduceEq, Int.reduceLT, Int.reduceLE, *]; first | done | with_reducible rfl) ?_) | (refine WO.guardU (by simp only [S0, S1, decide_true, decide_false, Nat.reduceEqDiff, reduceIte, Int.reduceEq, Int.reduceLT, Int.reduceLE, *]; first | done | with_reducible rfl) ?_)
      refine WO.nil ?_
      first | (refine uK_q ?_) | (refine uK_e (by assumption) ?_)
      refine WU.q rfl ?_
      first | (refine WO.guardT (by simp only [S0, S1, decide_true, decide_false, Nat.reduceEqDiff, reduceIte, Int.reduceEq, Int.reduceLT, Int.reduceLE, *]; first | done | with_reducible rfl) ?_; first | (refine WO.o (Piece.load (by first | (simp only [S0, Nat.reduceEqDiff, reduceIte, q2_28]; first | done | with_reducible rfl) | (simp only [S0, S1, decide_true, decide_false, Nat.reduceEqDiff, reduceIte, Int.reduceEq, Int.reduceLT, Int.reduceLE, *]; first | done | with_reducible rfl)) (by assumption) (by decide) rfl) ?_) | (refine WO.o (Piece.load0 (by first | (simp only [S0, Nat.reduceEqDiff, reduceIte, q2_28]; first | done | with_reducible rfl) | (simp only [S0, S1, decide_true, decide_false, Nat.reduceEqDiff, reduceIte, Int.reduceEq, Int.reduceLT, Int.reduceLE, *]; first | done | with_reducible rfl)) (by assumption) (by decide) rfl) ?_)) | (refine WO.guardF (by simp only [S0, S1, decide_true, decide_false, Nat.reduceEqDiff, reduceIte, Int.reduceEq, Int.reduceLT, Int.reduceLE, *]; first | done | with_reducible rfl) ?_) | (refine WO.guardU (by simp only [S0, S1, decide_true, decide_false, Nat.reduceEqDiff, reduceIte, Int.reduceEq, Int.reduceLT, Int.reduceLE, *]; first | done | with_reducible rfl) ?_)
      refine WO.nil ?_
      first | (refine uK_q ?_) | (refine uK_e (by assumption) ?_)
      refine WU.q rfl ?_
      first | (refine WO.guardT (by simp only [S0, S1, decide_true, decide_false, Nat.reduceEqDiff, reduceIte, Int.reduceEq, Int.reduceLT, Int.reduceLE, *]; first | done | with_reducible rfl) ?_; refine WO.o (by simp only [aop, binV_neq, Option.map_some, S0, S1, decide_true, decide_false, Nat.reduceEqDiff, reduceIte, Int.reduceEq, Int.reduceLT, Int.reduceLE, *]; first | done | with_reducible rfl) ?_) | (refine WO.guardF (by simp only [S0, S1, decide_true, decide_false, Nat.reduceEqDiff, reduceIte, Int.reduceEq, Int.reduceLT, Int.reduceLE, *]; first | done | with_reducible rfl) ?_) | (refine WO.guardU (by simp only [S0, S1, decide_true, decide_false, Nat.reduceEqDiff, reduceIte, Int.reduceEq, Int.reduceLT, Int.reduceLE, *]; first | done | with_reducible rfl) ?_)
      refine WO.nil ?_
      first | (refine uK_q ?_) | (refine uK_e (by assumption) ?_)
      refine WU.q rfl ?_
      refine WO.o (by simp only [aop, pick_or, pick_and, S0, S1, decide_true, decide_false, Nat.reduceEqDiff, reduceIte, Int.reduceEq, Int.reduceLT, Int.reduceLE, *]; first | done | with_reducible rfl) ?_
      refine WO.nil ?_
      first | (refine uK_q ?_) | (refine uK_e (by assumption) ?_)
      refine WU.q rfl ?_
      refine WO.o (by simp only [aop, S0, Nat.reduceEqDiff, reduceIte]; first | done | with_reducible rfl) ?_
      refine WO.nil ?_
      first | (refine uK_q ?_) | (refine uK_e (by assumption) ?_)
      refine WU.q rfl ?_
      first | (refine WO.guardT (by simp only [S0, S1, decide_true, decide_false, Nat.reduceEqDiff, reduceIte, Int.reduceEq, Int.reduceLT, Int.reduceLE, *]; first | done | with_reducible rfl) ?_; refine WO.o (by simp only [aop, S0, Nat.reduceEqDiff, reduceIte, q2_0]; first | done | with_reducible rfl) ?_) | (refine WO.guardF (by simp only [S0, S1, decide_true, decide_false, Nat.reduceEqDiff, reduceIte, Int.reduceEq, Int.reduceLT, Int.reduceLE, *]; first | done | with_reducible rfl) ?_) | (refine WO.guardU (by simp only [S0, S1, decide_true, decide_false, Nat.reduceEqDiff, reduceIte, Int.reduceEq, Int.reduceLT, Int.reduceLE, *]; first | done | with_reducible rfl) ?_)
      refine WO.nil ?_
      first | (refine uK_q ?_) | (refine uK_e (by assumption) ?_)
      refine WU.q rfl ?_
      first | (refine WO.guardT (by simp only [S0, S1, decide_true, decide_false, Nat.reduceEqDiff, reduceIte, Int.reduceEq, Int.reduceLT, Int.reduceLE, *]; first | done | with_reducible rfl) ?_; refine WO.o (by simp only [aop, S0, Nat.reduceEqDiff, reduceIte, q2_5]; first | done | with_reducible rfl) ?_) | (refine WO.guardF (by simp only [S0, S1, decide_true, decide_false, Nat.reduceEqDiff, reduceIte, Int.reduceEq, Int.reduceLT, Int.reduceLE, *]; first | done | with_reducible rfl) ?_) | (refine WO.guardU (by simp only [S0, S1, decide_true, decide_false, Nat.reduceEqDiff, reduceIte, Int.reduceEq, Int.reduceLT, Int.reduceLE, *]; first | done | with_reducible rfl) ?_)
      refine WO.nil ?_
      first | (refine uK_q ?_) | (refine uK_e (by assumption) ?_)
      refine WU.q rfl ?_
      first | (refine WO.guardT (by simp only [S0, S1, decide_true, decide_false, Nat.reduceEqDiff, reduceIte, Int.reduceEq, Int.reduceLT, Int.reduceLE, *]; first | done | with_reducible rfl) ?_; refine WO.o (SlR.idx' (by first | (simp only [S0, Nat.reduceEqDiff, reduceIte]; first | done | with_reducible rfl) | (simp only [S0, S1, decide_true, decide_false, Nat.reduceEqDiff, reduceIte, Int.reduceEq, Int.reduceLT, Int.reduceLE, *]; first | done | with_reducible rfl)) (by first | (simp only [S0, Nat.reduceEqDiff, reduceIte]; first | done | rfl) | (simp only [S0, S1, decide_true, decide_false, Nat.reduceEqDiff, reduceIte, Int.reduceEq, Int.reduceLT, Int.reduceLE, *]; first | done | rfl)) (by assumption) (by first | omega | assumption | (simp only [List.length_map, List.length_set]; omega))) ?_) | (refine WO.guardF (by simp only [S0, S1, decide_true, decide_false, Nat.reduceEqDiff, reduceIte, Int.reduceEq, Int.reduceLT, Int.reduceLE, *]; first | done | with_reducible rfl) ?_) | (refine WO.guardU (by simp only [S0, S1, decide_true, decide_false, Nat.reduceEqDiff, reduceIte, Int.reduceEq, Int.reduceLT, Int.reduceLE, *]; first | done | with_reducible rfl) ?_)
      refine WO.nil ?_
      first | (refine uK_q ?_) | (refine uK_e (by assumption) ?_)
      refine WU.q rfl ?_
      first | (refine WO.guardT (by simp only [S0, S1, decide_true, decide_false, Nat.reduceEqDiff, reduceIte, Int.reduceEq, Int.reduceLT, Int.reduceLE, *]; first | done | with_reducible rfl) ?_; refine WO.o (fldP (by first | (simp only [S0, Nat.reduceEqDiff, reduceIte]; first | done | with_reducible rfl) | (simp only [S0, S1, decide_true, decide_false, Nat.reduceEqDiff, reduceIte, Int.reduceEq, Int.reduceLT, Int.reduceLE, *]; first | done | with_reducible rfl)) (SlR.some (i := 0) (by assumption) (by first | omega | assumption | (simp only [List.length_map, List.length_set]; omega)))) ?_) | (refine WO.guardF (by simp only [S0, S1, decide_true, decide_false, Nat.reduceEqDiff, reduceIte, Int.reduceEq, Int.reduceLT, Int.reduceLE, *]; first | done | with_reducible rfl) ?_) | (refine WO.guardU (by simp only [S0, S1, decide_true, decide_false, Nat.reduceEqDiff, reduceIte, Int.reduceEq, Int.reduceLT, Int.reduceLE, *]; first | done | with_reducible rfl) ?_)
      refine WO.nil ?_
      first | (refine uK_q ?_) | (refine uK_e (by assumption) ?_)
      refine WU.q rfl ?_
      first | (refine WO.guardT (by simp only [S0, S1, decide_true, decide_false, Nat.reduceEqDiff, reduceIte, Int.reduceEq, Int.reduceLT, Int.reduceLE, *]; first | done | with_reducible rfl) ?_; first | (refine WO.o (Piece.load (by first | (simp only [S0, Nat.reduceEqDiff, reduceIte]; first | done | with_reducible rfl) | (simp only [S0, S1, decide_true, decide_false, Nat.reduceEqDiff, reduceIte, Int.reduceEq, Int.reduceLT, Int.reduceLE, *]; first | done | with_reducible rfl)) (by assumption) (by decide) rfl) ?_) | (refine WO.o (Piece.load0 (by first | (simp only [S0, Nat.reduceEqDiff, reduceIte]; first | done | with_reducible rfl) | (simp only [S0, S1, decide_true, decide_false, Nat.reduceEqDiff, reduceIte, Int.reduceEq, Int.reduceLT, Int.reduceLE, *]; first | done | with_reducible rfl)) (by assumption) (by decide) rfl) ?_)) | (refine WO.guardF (by simp only [S0, S1, decide_true, decide_false, Nat.reduceEqDiff, reduceIte, Int.reduceEq, Int.reduceLT, Int.reduceLE, *]; first | done | with_reducible rfl) ?_) | (refine WO.guardU (by simp only [S0, S1, decide_true, decide_false, Nat.reduceEqDiff, reduceIte, Int.reduceEq, Int.reduceLT, Int.reduceLE, *]; first | done | with_reducible rfl) ?_)
      refine WO.nil ?_
      first | (refine uK_q ?_) | (refine uK_e (by assumption) ?_)
      refine WU.q rfl ?_
      first | (refine WO.guardT (by simp only [S0, S1, decide_true, decide_false, Nat.reduceEqDiff, reduceIte, Int.reduceEq, Int.reduceLT, Int.reduceLE, *]; first | done | with_reducible rfl) ?_; refine WO.o (by simp only [aop, S0, Nat.reduceEqDiff, reduceIte, q2_1]; first | done | with_reducible rfl) ?_) | (refine WO.guardF (by simp only [S0, S1, decide_true, decide_false, Nat.reduceEqDiff, reduceIte, Int.reduceEq, Int.reduceLT, Int.reduceLE, *]; first | done | with_reducible rfl) ?_) | (refine WO.guardU (by simp only [S0, S1, decide_true, decide_false, Nat.reduceEqDiff, reduceIte, Int.reduceEq, Int.reduceLT, Int.reduceLE, *]; first | done | with_reducible rfl) ?_)
      refine WO.nil ?_
      first | (refine uK_q ?_) | (refine uK_e (by assumption) ?_)
      refine WU.q rfl ?_
      first | (refine WO.guardT (by simp only [S0, S1, decide_true, decide_false, Nat.reduceEqDiff, reduceIte, Int.reduceEq, Int.reduceLT, Int.reduceLE, *]; first | done | with_reducible rfl) ?_; refine WO.o (by simp only [aop, S0, Nat.reduceEqDiff, reduceIte, q2_5]; first | done | with_reducible rfl) ?_) | (refine WO.guardF (by simp only [S0, S1, decide_true, decide_false, Nat.reduceEqDiff, reduceIte, Int.reduceEq, Int.reduceLT, Int.reduceLE, *]; first | done | with_reducible rfl) ?_) | (refine WO.guardU (by simp only [S0, S1, decide_true, decide_false, Nat.reduceEqDiff, reduceIte, Int.reduceEq, Int.reduceLT, Int.reduceLE, *]; first | done | with_reducible rfl) ?_)
      refine WO.nil ?_
      first | (refine uK_q ?_) | (refine uK_e (by assumption) ?_)
      refine WU.q rfl ?_
      first | (refine WO.guardT (by simp only [S0, S1, decide_true, decide_false, Nat.reduceEqDiff, reduceIte, Int.reduceEq, Int.reduceLT, Int.reduceLE, *]; first | done | with_reducible rfl) ?_; refine WO.o (SlR.idx' (by first | (simp only [S0, Nat.reduceEqDiff, reduceIte]; first | done | with_reducible rfl) | (simp only [S0, S1, decide_true, decide_false, Nat.reduceEqDiff, reduceIte, Int.reduceEq, Int.reduceLT, Int.reduceLE, *]; first | done | with_reducible rfl)) (by first | (simp only [S0, Nat.reduceEqDiff, reduceIte]; first | done | rfl) | (simp only [S0, S1, decide_true, decide_false, Nat.reduceEqDiff, reduceIte, Int.reduceEq, Int.reduceLT, Int.reduceLE, *]; first | done | rfl)) (by assumption) (by first | omega | assumption | (simp only [List.length_map, List.length_set]; omega))) ?_) | (refine WO.guardF (by simp only [S0, S1, decide_true, decide_false, Nat.reduceEqDiff, reduceIte, Int.reduceEq, Int.reduceLT, Int.reduceLE, *]; first | done | with_reducible rfl) ?_) | (refine WO.guardU (by simp only [S0, S1, decide_true, decide_false, Nat.reduceEqDiff, reduceIte, Int.reduceEq, Int.reduceLT, Int.reduceLE, *]; first | done | with_reducible rfl) ?_)
      refine WO.nil ?_
      first | (refine uK_q ?_) | (refine uK_e (by assumption) ?_)
      refine WU.q rfl ?_
      first | (refine WO.guardT (by simp only [S0, S1, decide_true, decide_false, Nat.reduceEqDiff, reduceIte, Int.reduceEq, Int.reduceLT, Int.reduceLE, *]; first | done | with_reducible rfl) ?_; refine WO.o (fldP (by first | (simp only [S0, Nat.reduceEqDiff, reduceIte]; first | done | with_reducible rfl) | (simp only [S0, S1, decide_true, decide_false, Nat.reduceEqDiff, reduceIte, Int.reduceEq, Int.reduceLT, Int.reduceLE, *]; first | done | with_reducible rfl)) (SlR.some (i := 0) (by assumption) (by first | omega | assumption | (simp only [List.length_map, List.length_set]; omega)))) ?_) | (refine WO.guardF (by simp only [S0, S1, decide_true, decide_false, Nat.reduceEqDiff, reduceIte, Int.reduceEq, Int.reduceLT, Int.reduceLE, *]; first | done | with_reducible rfl) ?_) | (refine WO.guardU (by simp only [S0, S1, decide_true, decide_false, Nat.reduceEqDiff, reduceIte, Int.reduceEq, Int.reduceLT, Int.reduceLE, *]; first | done | with_reducible rfl) ?_)
      refine WO.nil ?_
      first | (refine uK_q ?_) | (refine uK_e (by assumption) ?_)
      refine WU.q rfl ?_
      first | (refine WO.guardT (by simp only [S0, S1, decide_true, decide_false, Nat.reduceEqDiff, reduceIte, Int.reduceEq, Int.reduceLT, Int.reduceLE, *]; first | done | with_reducible rfl) ?_; first | (refine WO.o (Piece.load (by first | (simp only [S0, Nat.reduceEqDiff, reduceIte]; first | done | with_reducible rfl) | (simp only [S0, S1, decide_true, decide_false, Nat.reduceEqDiff, reduceIte, Int.reduceEq, Int.reduceLT, Int.reduceLE, *]; first | done | with_reducible rfl)) (by assumption) (by decide) rfl) ?_) | (refine WO.o (Piece.load0 (by first | (simp only [S0, Nat.reduceEqDiff, reduceIte]; first | done | with_reducible rfl) | (simp only [S0, S1, decide_true, decide_false, Nat.reduceEqDiff, reduceIte, Int.reduceEq, Int.reduceLT, Int.reduceLE, *]; first | done | with_reducible rfl)) (by assumption) (by decide) rfl) ?_)) | (refine WO.guardF (by simp only [S0, S1, decide_true, decide_false, Nat.reduceEqDiff, reduceIte, Int.reduceEq, Int.reduceLT, Int.reduceLE, *]; first | done | with_reducible rfl) ?_) | (refine WO.guardU (by simp only [S0, S1, decide_true, decide_false, Nat.reduceEqDiff, reduceIte, Int.reduceEq, Int.reduceLT, Int.reduceLE, *]; first | done | with_reducible rfl) ?_)
      refine WO.nil ?_
      first | (refine uK_q ?_) | (refine uK_e (by assumption) ?_)
      refine WU.q rfl ?_
      first | (refine WO.guardT (by simp only [S0, S1, decide_true, decide_false, Nat.reduceEqDiff, reduceIte, Int.reduceEq, Int.reduceLT, Int.reduceLE, *]; first | done | with_reducible rfl) ?_; refine WO.o (by simp only [aop, binV_neq, Option.map_some, S0, S1, decide_true, decide_false, Nat.reduceEqDiff, reduceIte, Int.reduceEq, Int.reduceLT, Int.reduceLE, *]; first | done | with_reducible rfl) ?_) | (refine WO.guardF (by simp only [S0, S1, decide_true, decide_false, Nat.reduceEqDiff, reduceIte, Int.reduceEq, Int.reduceLT, Int.reduceLE, *]; first | done | with_reducible rfl) ?_) | (refine WO.guardU (by simp only [S0, S1, decide_true, decide_false, Nat.reduceEqDiff, reduceIte, Int.reduceEq, Int.reduceLT, Int.reduceLE, *]; first | done | with_reducible rfl) ?_)
      refine WO.nil ?_
      first | (refine uK_q ?_) | (refine uK_e (by assumption) ?_)
      refine WU.q rfl ?_
      refine WO.o (by simp only [aop, pick_or, pick_and, S0, S1, decide_true, decide_false, Nat.reduceEqDiff, reduceIte, Int.reduceEq, Int.reduceLT, Int.reduceLE, *]; first | done | with_reducible rfl) ?_
      refine WO.nil ?_
      first | (refine uK_q ?_) | (refine uK_e (by assumption) ?_)
      refine WU.q rfl ?_
      refine WO.o (by simp only [aop, S0, Nat.reduceEqDiff, reduceIte]; first | done | with_reducible rfl) ?_
      refine WO.nil ?_
      first | (refine uK_q ?_) | (refine uK_e (by assumption) ?_)
      refine WU.q rfl ?_
      first | (refine WO.guardT (by simp only [S0, S1, decide_true, decide_false, Nat.reduceEqDiff, reduceIte, Int.reduceEq, Int.reduceLT, Int.reduceLE, *]; first | done | with_reducible rfl) ?_; refine WO.o (by simp only [aop, S0, Nat.reduceEqDiff, reduceIte, q2_0]; first | done | with_reducible rfl) ?_) | (refine WO.guardF (by simp only [S0, S1, decide_true, decide_false, Nat.reduceEqDiff, reduceIte, Int.reduceEq, Int.reduceLT, Int.reduceLE, *]; first | done | with_reducible rfl) ?_) | (refine WO.guardU (by simp only [S0, S1, decide_true, decide_false, Nat.reduceEqDiff, reduceIte, Int.reduceEq, Int.reduceLT, Int.reduceLE, *]; first | done | with_reducible rfl) ?_)
      refine WO.nil ?_
      first | (refine uK_q ?_) | (refine uK_e (by assumption) ?_)
      refine WU.q rfl ?_
      first | (refine WO.guardT (by simp only [S0, S1, decide_true, decide_false, Nat.reduceEqDiff, reduceIte, Int.reduceEq, Int.reduceLT, Int.reduceLE, *]; first | done | with_reducible rfl) ?_; refine WO.o (by simp only [aop, S0, Nat.reduceEqDiff, reduceIte, q2_5]; first | done | with_reducible rfl) ?_) | (refine WO.guardF (by simp only [S0, S1, decide_true, decide_false, Nat.reduceEqDiff, reduceIte, Int.reduceEq, Int.reduceLT, Int.reduceLE, *]; first | done | with_reducible rfl) ?_) | (refine WO.guardU (by simp only [S0, S1, decide_true, decide_false, Nat.reduceEqDiff, reduceIte, Int.reduceEq, Int.reduceLT, Int.reduceLE, *]; first | done | with_reducible rfl) ?_)
      refine WO.nil ?_
      first | (refine uK_q ?_) | (refine uK_e (by assumption) ?_)
      refine WU.q rfl ?_
      first | (refine WO.guardT (by simp only [S0, S1, decide_true, decide_false, Nat.reduceEqDiff, reduceIte, Int.reduceEq, Int.reduceLT, Int.reduceLE, *]; first | done | with_reducible rfl) ?_; refine WO.o (SlR.idx' (by first | (simp only [S0, Nat.reduceEqDiff, reduceIte]; first | done | with_reducible rfl) | (simp only [S0, S1, decide_true, decide_false, Nat.reduceEqDiff, reduceIte, Int.reduceEq, Int.reduceLT, Int.reduceLE, *]; first | done | with_reducible rfl)) (by first | (simp only [S0, Nat.reduceEqDiff, reduceIte]; first | done | rfl) | (simp only [S0, S1, decide_true, decide_false, Nat.reduceEqDiff, reduceIte, Int.reduceEq, Int.reduceLT, Int.reduceLE, *]; first | done | rfl)) (by assumption) (by first | omega | assumption | (simp only [List.length_map, List.length_set]; omega))) ?_) | (refine WO.guardF (by simp only [S0, S1, decide_true, decide_false, Nat.reduceEqDiff, reduceIte, Int.reduceEq, Int.reduceLT, Int.reduceLE, *]; first | done | with_reducible rfl) ?_) | (refine WO.guardU (by simp only [S0, S1, decide_true, decide_false, Nat.reduceEqDiff, reduceIte, Int.reduceEq, Int.reduceLT, Int.reduceLE, *]; first | done | with_reducible rfl) ?_)
      refine WO.nil ?_
      first | (refine uK_q ?_) | (refine uK_e (by assumption) ?_)
      refine WU.q rfl ?_
      first | (refine WO.guardT (by simp only [S0, S1, decide_true, decide_false, Nat.reduceEqDiff, reduceIte, Int.reduceEq, Int.reduceLT, Int.reduceLE, *]; first | done | with_reducible rfl) ?_; refine WO.o (fldP (by first | (simp only [S0, Nat.reduceEqDiff, reduceIte]; first | done | with_reducible rfl) | (simp only [S0, S1, decide_true, decide_false, Nat.reduceEqDiff, reduceIte, Int.reduceEq, Int.reduceLT, Int.reduceLE, *]; first | done | with_reducible rfl)) (SlR.some (i := 0) (by assumption) (by first | omega | assumption | (simp only [List.length_map, List.length_set]; omega)))) ?_) | (refine WO.guardF (by simp only [S0, S1, decide_true, decide_false, Nat.reduceEqDiff, reduceIte, Int.reduceEq, Int.reduceLT, Int.reduceLE, *]; first | done | with_reducible rfl) ?_) | (refine WO.guardU (by simp only [S0, S1, decide_true, decide_false, Nat.reduceEqDiff, reduceIte, Int.reduceEq, Int.reduceLT, Int.reduceLE, *]; first | done | with_reducible rfl) ?_)
      refine WO.nil ?_
      first | (refine uK_q ?_) | (refine uK_e (by assumption) ?_)
      refine WU.q rfl ?_
      first | (refine WO.guardT (by simp only [S0, S1, decide_true, decide_false, Nat.reduceEqDiff, reduceIte, Int.reduceEq, Int.reduceLT, Int.reduceLE, *]; first | done | with_reducible rfl) ?_; first | (refine WO.o (Piece.load (by first | (simp only [S0, Nat.reduceEqDiff, reduceIte]; first | done | with_reducible rfl) | (simp only [S0, S1, decide_true, decide_false, Nat.reduceEqDiff, reduceIte, Int.reduceEq, Int.reduceLT, Int.reduceLE, *]; first | done | with_reducible rfl)) (by assumption) (by decide) rfl) ?_) | (refine WO.o (Piece.load0 (by first | (simp only [S0, Nat.reduceEqDiff, reduceIte]; first | done | with_reducible rfl) | (simp only [S0, S1, decide_true, decide_false, Nat.reduceEqDiff, reduceIte, Int.reduceEq, Int.reduceLT, Int.reduceLE, *]; first | done | with_reducible rfl)) (by assumption) (by decide) rfl) ?_)) | (refine WO.guardF (by simp only [S0, S1, decide_true, decide_false, Nat.reduceEqDiff, reduceIte, Int.reduceEq, Int.reduceLT, Int.reduceLE, *]; first | done | with_reducible rfl) ?_) | (refine WO.guardU (by simp only [S0, S1, decide_true, decide_false, Nat.reduceEqDiff, reduceIte, Int.reduceEq, Int.reduceLT, Int.reduceLE, *]; first | done | with_reducible rfl) ?_)
      refine WO.nil ?_
      first | (refine uK_q ?_) | (refine uK_e (by assumption) ?_)
      refine WU.q rfl ?_
      first | (refine WO.guardT (by simp only [S0, S1, decide_true, decide_false, Nat.reduceEqDiff, reduceIte, Int.reduceEq, Int.reduceLT, Int.reduceLE, *]; first | done | with_reducible rfl) ?_; refine WO.o (by simp only [aop, S0, Nat.reduceEqDiff, reduceIte, q2_1]; first | done | with_reducible rfl) ?_) | (refine WO.guardF (by simp only [S0, S1, decide_true, decide_false, Nat.reduceEqDiff, reduceIte, Int.reduceEq, Int.reduceLT, Int.reduceLE, *]; first | done | with_reducible rfl) ?_) | (refine WO.guardU (by simp only [S0, S1, decide_true, decide_false, Nat.reduceEqDiff, reduceIte, Int.reduceEq, Int.reduceLT, Int.reduceLE, *]; first | done | with_reducible rfl) ?_)
      refine WO.nil ?_
      first | (refine uK_q ?_) | (refine uK_e (by assumption) ?_)
      refine WU.q rfl ?_
      refine WO.abs fun t3_ ht3_ => ?_
      have q3_0 := (ht3_ 0).trans (by simp only [S0, Nat.reduceEqDiff, reduceIte, q2_0]; first | done | with_reducible rfl)
      have q3_1 := (ht3_ 1).trans (by simp only [S0, Nat.reduceEqDiff, reduceIte, q2_1]; first | done | with_reducible rfl)
      have q3_5 := (ht3_ 5).trans (by simp only [S0, Nat.reduceEqDiff, reduceIte, q2_5]; first | done | with_reducible rfl)
      have q3_54 := (ht3_ 54).trans (by simp only [S0, Nat.reduceEqDiff, reduceIte]; first | done | with_reducible rfl)
      have q3_59 := (ht3_ 59).trans (by simp only [S0, Nat.reduceEqDiff, reduceIte]; first | done | with_reducible rfl)
      have q3_60 := (ht3_ 60).trans (by simp only [S0, Nat.reduceEqDiff, reduceIte]; first | done | with_reducible rfl)
      clear ht3_
      clear q2_0 q2_1 q2_5 q2_28 q2_33 q2_36
      first | (refine WO.guardT (by simp only [S0, S1, decide_true, decide_false, Nat.reduceEqDiff, reduceIte, Int.reduceEq, Int.reduceLT, Int.reduceLE, *]; first | done | with_reducible rfl) ?_; refine WO.o (by simp only [aop, S0, Nat.reduceEqDiff, reduceIte, q3_5, q3_54]; first | done | with_reducible rfl) ?_) | (refine WO.guardF (by simp only [S0, S1, decide_true, decide_false, Nat.reduceEqDiff, reduceIte, Int.reduceEq, Int.reduceLT, Int.reduceLE, *]; first | done | with_reducible rfl) ?_) | (refine WO.guardU (by simp only [S0, S1, decide_true, decide_false, Nat.reduceEqDiff, reduceIte, Int.reduceEq, Int.reduceLT, Int.reduceLE, *]; first | done | with_reducible rfl) ?_)
      refine WO.nil ?_
      first | (refine uK_q ?_) | (refine uK_e (by assumption) ?_)
      refine WU.q rfl ?_
      first | (refine WO.guardT (by simp only [S0, S1, decide_true, decide_false, Nat.reduceEqDiff, reduceIte, Int.reduceEq, Int.reduceLT, Int.reduceLE, *]; first | done | with_reducible rfl) ?_; refine WO.o (SlR.idx' (by first | (simp only [S0, Nat.reduceEqDiff, reduceIte, q3_54, q3_60]; first | done | with_reducible rfl) | (simp only [S0, S1, decide_true, decide_false, Nat.reduceEqDiff, reduceIte, Int.reduceEq, Int.reduceLT, Int.reduceLE, *]; first | done | with_reducible rfl)) (by first | (simp only [S0, Nat.reduceEqDiff, reduceIte, q3_54, q3_60]; first | done | rfl) | (simp only [S0, S1, decide_true, decide_false, Nat.reduceEqDiff, reduceIte, Int.reduceEq, Int.reduceLT, Int.reduceLE, *]; first | done | rfl)) (by assumption) (by first | omega | assumption | (simp only [List.length_map, List.length_set]; omega))) ?_) | (refine WO.guardF (by simp only [S0, S1, decide_true, decide_false, Nat.reduceEqDiff, reduceIte, Int.reduceEq, Int.reduceLT, Int.reduceLE, *]; first | done | with_reducible rfl) ?_) | (refine WO.guardU (by simp only [S0, S1, decide_true, decide_false, Nat.reduceEqDiff, reduceIte, Int.reduceEq, Int.reduceLT, Int.reduceLE, *]; first | done | with_reducible rfl) ?_)
      refine WO.nil ?_
      first | (refine uK_q ?_) | (refine uK_e (by assumption) ?_)
      refine WU.q rfl ?_
      first | (refine WO.guardT (by simp only [S0, S1, decide_true, decide_false, Nat.reduceEqDiff, reduceIte, Int.reduceEq, Int.reduceLT, Int.reduceLE, *]; first | done | with_reducible rfl) ?_; refine WO.o (fldP (by first | (simp only [S0, Nat.reduceEqDiff, reduceIte, q3_54]; first | done | with_reducible rfl) | (simp only [S0, S1, decide_true, decide_false, Nat.reduceEqDiff, reduceIte, Int.reduceEq, Int.reduceLT, Int.reduceLE, *]; first | done | with_reducible rfl)) (SlR.some (i := 0) (by assumption) (by first | omega | assumption | (simp only [List.length_map, List.length_set]; omega)))) ?_) | (refine WO.guardF (by simp only [S0, S1, decide_true, decide_false, Nat.reduceEqDiff, reduceIte, Int.reduceEq, Int.reduceLT, Int.reduceLE, *]; first | done | with_reducible rfl) ?_) | (refine WO.guardU (by simp only [S0, S1, decide_true, decide_false, Nat.reduceEqDiff, reduceIte, Int.reduceEq, Int.reduceLT, Int.reduceLE, *]; first | done | with_reducible rfl) ?_)
      refine WO.nil ?_
      first | (refine uK_q ?_) | (refine uK_e (by assumption) ?_)
      refine WU.q rfl ?_
      first | (refine WO.guardT (by simp only [S0, S1, decide_true, decide_false, Nat.reduceEqDiff, reduceIte, Int.reduceEq, Int.reduceLT, Int.reduceLE, *]; first | done | with_reducible rfl) ?_; first | (refine WO.o (Piece.load (by first | (simp only [S0, Nat.reduceEqDiff, reduceIte, q3_54]; first | done | with_reducible rfl) | (simp only [S0, S1, decide_true, decide_false, Nat.reduceEqDiff, reduceIte, Int.reduceEq, Int.reduceLT, Int.reduceLE, *]; first | done | with_reducible rfl)) (by assumption) (by decide) rfl) ?_) | (refine WO.o (Piece.load0 (by first | (simp only [S0, Nat.reduceEqDiff, reduceIte, q3_54]; first | done | with_reducible rfl) | (simp only [S0, S1, decide_true, decide_false, Nat.reduceEqDiff, reduceIte, Int.reduceEq, Int.reduceLT, Int.reduceLE, *]; first | done | with_reducible rfl)) (by assumption) (by decide) rfl) ?_)) | (refine WO.guardF (by simp only [S0, S1, decide_true, decide_false, Nat.reduceEqDiff, reduceIte, Int.reduceEq, Int.reduceLT, Int.reduceLE, *]; first | done | with_reducible rfl) ?_) | (refine WO.guardU (by simp only [S0, S1, decide_true, decide_false, Nat.reduceEqDiff, reduceIte, Int.reduceEq, Int.reduceLT, Int.reduceLE, *]; first | done | with_reducible rfl) ?_)
      refine WO.nil ?_
      first | (refine uK_q ?_) | (refine uK_e (by assumption) ?_)
      refine WU.q rfl ?_
      first | (refine WO.guardT (by simp only [S0, S1, decide_true, decide_false, Nat.reduceEqDiff, reduceIte, Int.reduceEq, Int.reduceLT, Int.reduceLE, *]; first | done | with_reducible rfl) ?_; refine WO.o (by simp only [aop, binV_neq, Option.map_some, S0, S1, decide_true, decide_false, Nat.reduceEqDiff, reduceIte, Int.reduceEq, Int.reduceLT, Int.reduceLE, *]; first | done | with_reducible rfl) ?_) | (refine WO.guardF (by simp only [S0, S1, decide_true, decide_false, Nat.reduceEqDiff, reduceIte, Int.reduceEq, Int.reduceLT, Int.reduceLE, *]; first | done | with_reducible rfl) ?_) | (refine WO.guardU (by simp only [S0, S1, decide_true, decide_false, Nat.reduceEqDiff, reduceIte, Int.reduceEq, Int.reduceLT, Int.reduceLE, *]; first | done | with_reducible rfl) ?_)
      refine WO.nil ?_
      first | (refine uK_q ?_) | (refine uK_e (by assumption) ?_)
      refine WU.q rfl ?_
      refine WO.o (by simp only [aop, pick_or, pick_and, S0, S1, decide_true, decide_false, Nat.reduceEqDiff, reduceIte, Int.reduceEq, Int.reduceLT, Int.reduceLE, *]; first | done | with_reducible rfl) ?_
      refine WO.nil ?_
      first | (refine uK_q ?_) | (refine uK_e (by assumption) ?_)
      refine WU.q rfl ?_
      refine WO.o (by simp only [aop, S0, Nat.reduceEqDiff, reduceIte]; first | done | with_reducible rfl) ?_
      refine WO.nil ?_
      first | (refine uK_q ?_) | (refine uK_e (by assumption) ?_)
      refine WU.q rfl ?_
      first | (refine WO.guardT (by simp only [S0, S1, decide_true, decide_false, Nat.reduceEqDiff, reduceIte, Int.reduceEq, Int.reduceLT, Int.reduceLE, *]; first | done | with_reducible rfl) ?_; refine WO.o (by simp only [aop, S0, Nat.reduceEqDiff, reduceIte, q3_0]; first | done | with_reducible rfl) ?_) | (refine WO.guardF (by simp only [S0, S1, decide_true, decide_false, Nat.reduceEqDiff, reduceIte, Int.reduceEq, Int.reduceLT, Int.reduceLE, *]; first | done | with_reducible rfl) ?_) | (refine WO.guardU (by simp only [S0, S1, decide_true, decide_false, Nat.reduceEqDiff, reduceIte, Int.reduceEq, Int.reduceLT, Int.reduceLE, *]; first | done | with_reducible rfl) ?_)
      refine WO.nil ?_
      first | (refine uK_q ?_) | (refine uK_e (by assumption) ?_)
      refine WU.q rfl ?_
      first | (refine WO.guardT (by simp only [S0, S1, decide_true, decide_false, Nat.reduceEqDiff, reduceIte, Int.reduceEq, Int.reduceLT, Int.reduceLE, *]; first | done | with_reducible rfl) ?_; refine WO.o (by simp only [aop, S0, Nat.reduceEqDiff, reduceIte, q3_5]; first | done | with_reducible rfl) ?_) | (refine WO.guardF (by simp only [S0, S1, decide_true, decide_false, Nat.reduceEqDiff, reduceIte, Int.reduceEq, Int.reduceLT, Int.reduceLE, *]; first | done | with_reducible rfl) ?_) | (refine WO.guardU (by simp only [S0, S1, decide_true, decide_false, Nat.reduceEqDiff, reduceIte, Int.reduceEq, Int.reduceLT, Int.reduceLE, *]; first | done | with_reducible rfl) ?_)
      refine WO.nil ?_
      first | (refine uK_q ?_) | (refine uK_e (by assumption) ?_)
      refine WU.q rfl ?_
      first | (refine WO.guardT (by simp only [S0, S1, decide_true, decide_false, Nat.reduceEqDiff, reduceIte, Int.reduceEq, Int.reduceLT, Int.reduceLE, *]; first | done | with_reducible rfl) ?_; refine WO.o (SlR.idx' (by first | (simp only [S0, Nat.reduceEqDiff, reduceIte]; first | done | with_reducible rfl) | (simp only [S0, S1, decide_true, decide_false, Nat.reduceEqDiff, reduceIte, Int.reduceEq, Int.reduceLT, Int.reduceLE, *]; first | done | with_reducible rfl)) (by first | (simp only [S0, Nat.reduceEqDiff, reduceIte]; first | done | rfl) | (simp only [S0, S1, decide_true, decide_false, Nat.reduceEqDiff, reduceIte, Int.reduceEq, Int.reduceLT, Int.reduceLE, *]; first | done | rfl)) (by assumption) (by first | omega | assumption | (simp only [List.length_map, List.length_set]; omega))) ?_) | (refine WO.guardF (by simp only [S0, S1, decide_true, decide_false, Nat.reduceEqDiff, reduceIte, Int.reduceEq, Int.reduceLT, Int.reduceLE, *]; first | done | with_reducible rfl) ?_) | (refine WO.guardU (by simp only [S0, S1, decide_true, decide_false, Nat.reduceEqDiff, reduceIte, Int.reduceEq, Int.reduceLT, Int.reduceLE, *]; first | done | with_reducible rfl) ?_)
      refine WO.nil ?_
      first | (refine uK_q ?_) | (refine uK_e (by assumption) ?_)
      refine WU.q rfl ?_
      first | (refine WO.guardT (by simp only [S0, S1, decide_true, decide_false, Nat.reduceEqDiff, reduceIte, Int.reduceEq, Int.reduceLT, Int.reduceLE, *]; first | done | with_reducible rfl) ?_; refine WO.o (fldP (by first | (simp only [S0, Nat.reduceEqDiff, reduceIte]; first | done | with_reducible rfl) | (simp only [S0, S1, decide_true, decide_false, Nat.reduceEqDiff, reduceIte, Int.reduceEq, Int.reduceLT, Int.reduceLE, *]; first | done | with_reducible rfl)) (SlR.some (i := 0) (by assumption) (by first | omega | assumption | (simp only [List.length_map, List.length_set]; omega)))) ?_) | (refine WO.guardF (by simp only [S0, S1, decide_true, decide_false, Nat.reduceEqDiff, reduceIte, Int.reduceEq, Int.reduceLT, Int.reduceLE, *]; first | done | with_reducible rfl) ?_) | (refine WO.guardU (by simp only [S0, S1, decide_true, decide_false, Nat.reduceEqDiff, reduceIte, Int.reduceEq, Int.reduceLT, Int.reduceLE, *]; first | done | with_reducible rfl) ?_)
      refine WO.nil ?_
      first | (refine uK_q ?_) | (refine uK_e (by assumption) ?_)
      refine WU.q rfl ?_
      first | (refine WO.guardT (by simp only [S0, S1, decide_true, decide_false, Nat.reduceEqDiff, reduceIte, Int.reduceEq, Int.reduceLT, Int.reduceLE, *]; first | done | with_reducible rfl) ?_; first | (refine WO.o (Piece.load (by first | (simp only [S0, Nat.reduceEqDiff, reduceIte]; first | done | with_reducible rfl) | (simp only [S0, S1, decide_true, decide_false, Nat.reduceEqDiff, reduceIte, Int.reduceEq, Int.reduceLT, Int.reduceLE, *]; first | done | with_reducible rfl)) (by assumption) (by decide) rfl) ?_) | (refine WO.o (Piece.load0 (by first | (simp only [S0, Nat.reduceEqDiff, reduceIte]; first | done | with_reducible rfl) | (simp only [S0, S1, decide_true, decide_false, Nat.reduceEqDiff, reduceIte, Int.reduceEq, Int.reduceLT, Int.reduceLE, *]; first | done | with_reducible rfl)) (by assumption) (by decide) rfl) ?_)) | (refine WO.guardF (by simp only [S0, S1, decide_true, decide_false, Nat.reduceEqDiff, reduceIte, Int.reduceEq, Int.reduceLT, Int.reduceLE, *]; first | done | with_reducible rfl) ?_) | (refine WO.guardU (by simp only [S0, S1, decide_true, decide_false, Nat.reduceEqDiff, reduceIte, Int.reduceEq, Int.reduceLT, Int.reduceLE, *]; first | done | with_reducible rfl) ?_)
      refine WO.nil ?_
      first | (refine uK_q ?_) | (refine uK_e (by assumption) ?_)
      refine WU.q rfl ?_
      first | (refine WO.guardT (by simp only [S0, S1, decide_true, decide_false, Nat.reduceEqDiff, reduceIte, Int.reduceEq, Int.reduceLT, Int.reduceLE, *]; first | done | with_reducible rfl) ?_; refine WO.o (by simp only [aop, S0, Nat.reduceEqDiff, reduceIte, q3_1]; first | done | with_reducible rfl) ?_) | (refine WO.guardF (by simp only [S0, S1, decide_true, decide_false, Nat.reduceEqDiff, reduceIte, Int.reduceEq, Int.reduceLT, Int.reduceLE, *]; first | done | with_reducible rfl) ?_) | (refine WO.guardU (by simp only [S0, S1, decide_true, decide_false, Nat.reduceEqDiff, reduceIte, Int.reduceEq, Int.reduceLT, Int.reduceLE, *]; first | done | with_reducible rfl) ?_)
      refine WO.nil ?_
      first | (refine uK_q ?_) | (refine uK_e (by assumption) ?_)
      refine WU.q rfl ?_
      first | (refine WO.guardT (by simp only [S0, S1, decide_true, decide_false, Nat.reduceEqDiff, reduceIte, Int.reduceEq, Int.reduceLT, Int.reduceLE, *]; first | done | with_reducible rfl) ?_; refine WO.o (by simp only [aop, S0, Nat.reduceEqDiff, reduceIte, q3_5]; first | done | with_reducible rfl) ?_) | (refine WO.guardF (by simp only [S0, S1, decide_true, decide_false, Nat.reduceEqDiff, reduceIte, Int.reduceEq, Int.reduceLT, Int.reduceLE, *]; first | done | with_reducible rfl) ?_) | (refine WO.guardU (by simp only [S0, S1, decide_true, decide_false, Nat.reduceEqDiff, reduceIte, Int.reduceEq, Int.reduceLT, Int.reduceLE, *]; first | done | with_reducible rfl) ?_)
      refine WO.nil ?_
      first | (refine uK_q ?_) | (refine uK_e (by assumption) ?_)
      refine WU.q rfl ?_
      first | (refine WO.guardT (by simp only [S0, S1, decide_true, decide_false, Nat.reduceEqDiff, reduceIte, Int.reduceEq, Int.reduceLT, Int.reduceLE, *]; first | done | with_reducible rfl) ?_; refine WO.o (SlR.idx' (by first | (simp only [S0, Nat.reduceEqDiff, reduceIte]; first | done | with_reducible rfl) | (simp only [S0, S1, decide_true, decide_false, Nat.reduceEqDiff, reduceIte, Int.reduceEq, Int.reduceLT, Int.reduceLE, *]; first | done | with_reducible rfl)) (by first | (simp only [S0, Nat.reduceEqDiff, reduceIte]; first | done | rfl) | (simp only [S0, S1, decide_true, decide_false, Nat.reduceEqDiff, reduceIte, Int.reduceEq, Int.reduceLT, Int.reduceLE, *]; first | done | rfl)) (by assumption) (by first | omega | assumption | (simp only [List.length_map, List.length_set]; omega))) ?_) | (refine WO.guardF (by simp only [S0, S1, decide_true, decide_false, Nat.reduceEqDiff, reduceIte, Int.reduceEq, Int.reduceLT, Int.reduceLE, *]; first | done | with_reducible rfl) ?_) | (refine WO.guardU (by simp only [S0, S1, decide_true, decide_false, Nat.reduceEqDiff, reduceIte, Int.reduceEq, Int.reduceLT, Int.reduceLE, *]; first | done | with_reducible rfl) ?_)
      refine WO.nil ?_
      first | (refine uK_q ?_) | (refine uK_e (by assumption) ?_)
      refine WU.q rfl ?_
      first | (refine WO.guardT (by simp only [S0, S1, decide_true, decide_false, Nat.reduceEqDiff, reduceIte, Int.reduceEq, Int.reduceLT, Int.reduceLE, *]; first | done | with_reducible rfl) ?_; refine WO.o (fldP (by first | (simp only [S0, Nat.reduceEqDiff, reduceIte]; first | done | with_reducible rfl) | (simp only [S0, S1, decide_true, decide_false, Nat.reduceEqDiff, reduceIte, Int.reduceEq, Int.reduceLT, Int.reduceLE, *]; first | done | with_reducible rfl)) (SlR.some (i := 0) (by assumption) (by first | omega | assumption | (simp only [List.length_map, List.length_set]; omega)))) ?_) | (refine WO.guardF (by simp only [S0, S1, decide_true, decide_false, Nat.reduceEqDiff, reduceIte, Int.reduceEq, Int.reduceLT, Int.reduceLE, *]; first | done | with_reducible rfl) ?_) | (refine WO.guardU (by simp only [S0, S1, decide_true, decide_false, Nat.reduceEqDiff, reduceIte, Int.reduceEq, Int.reduceLT, Int.reduceLE, *]; first | done | with_reducible rfl) ?_)
      refine WO.nil ?_
      first | (refine uK_q ?_) | (refine uK_e (by assumption) ?_)
      refine WU.q rfl ?_
      first | (refine WO.guardT (by simp only [S0, S1, decide_true, decide_false, Nat.reduceEqDiff, reduceIte, Int.reduceEq, Int.reduceLT, Int.reduceLE, *]; first | done | with_reducible rfl) ?_; first | (refine WO.o (Piece.load (by first | (simp only [S0, Nat.reduceEqDiff, reduceIte]; first | done | with_reducible rfl) | (simp only [S0, S1, decide_true, decide_false, Nat.reduceEqDiff, reduceIte, Int.reduceEq, Int.reduceLT, Int.reduceLE, *]; first | done | with_reducible rfl)) (by assumption) (by decide) rfl) ?_) | (refine WO.o (Piece.load0 (by first | (simp only [S0, Nat.reduceEqDiff, reduceIte]; first | done | with_reducible rfl) | (simp only [S0, S1, decide_true, decide_false, Nat.reduceEqDiff, reduceIte, Int.reduceEq, Int.reduceLT, Int.reduceLE, *]; first | done | with_reducible rfl)) (by assumption) (by decide) rfl) ?_)) | (refine WO.guardF (by simp only [S0, S1, decide_true, decide_false, Nat.reduceEqDiff, reduceIte, Int.reduceEq, Int.reduceLT, Int.reduceLE, *]; first | done | with_reducible rfl) ?_) | (refine WO.guardU (by simp only [S0, S1, decide_true, decide_false, Nat.reduceEqDiff, reduceIte, Int.reduceEq, Int.reduceLT, Int.reduceLE, *]; first | done | with_reducible rfl) ?_)
      refine WO.nil ?_
      first | (refine uK_q ?_) | (refine uK_e (by assumption) ?_)
      refine WU.q rfl ?_
      first | (refine WO.guardF (by first | (simp only [S0, Nat.reduceEqDiff, reduceIte]; first | done | with_reducible rfl) | (simp only [S0, S1, decide_true, decide_false, Nat.reduceEqDiff, reduceIte, Int.reduceEq, Int.reduceLT, Int.reduceLE, *]; first | done | with_reducible rfl)) ?_) | (refine WO.guardF (by simp only [S0, S1, decide_true, decide_false, Nat.reduceEqDiff, reduceIte, Int.reduceEq, Int.reduceLT, Int.reduceLE, *]; first | done | with_reducible rfl) ?_)
      refine WO.nil ?_
      first | (refine uK_q ?_) | (refine uK_e (by assumption) ?_)
      refine WU.q rfl ?_
      first | (refine WO.guardT (by simp only [S0, S1, decide_true, decide_false, Nat.reduceEqDiff, reduceIte, Int.reduceEq, Int.reduceLT, Int.reduceLE, *]; first | done | with_reducible rfl) ?_; refine WO.o (by simp only [aop, unV, Option.map_some, S0, S1, decide_true, decide_false, Nat.reduceEqDiff, reduceIte, Int.reduceEq, Int.reduceLT, Int.reduceLE, *]; first | done | with_reducible rfl) ?_) | (refine WO.guardF (by simp only [S0, S1, decide_true, decide_false, Nat.reduceEqDiff, reduceIte, Int.reduceEq, Int.reduceLT, Int.reduceLE, *]; first | done | with_reducible rfl) ?_) | (refine WO.guardU (by simp only [S0, S1, decide_true, decide_false, Nat.reduceEqDiff, reduceIte, Int.reduceEq, Int.reduceLT, Int.reduceLE, *]; first | done | with_reducible rfl) ?_)
      refine WO.nil ?_
      first | (refine uK_q ?_) | (refine uK_e (by assumption) ?_)
      refine WU.q rfl ?_
      refine WO.o (by simp only [aop, pick_or, pick_and, S0, S1, decide_true, decide_false, Nat.reduceEqDiff, reduceIte, Int.reduceEq, Int.reduceLT, Int.reduceLE, *]; first | done | with_reducible rfl) ?_
      refine WO.nil ?_
      first | (refine uK_nil ?_) | (refine uK_ne (by assumption) ?_)
      refine thenK_normal ?_
      first | (refine WX.condT (by simp only [S0, Nat.reduceEqDiff, reduceIte, q3_0, q3_1, q3_5, q3_54, q3_59, q3_60]; first | done | with_reducible rfl) ?_) | (refine WX.condT (by simp only [S0, S1, decide_true, decide_false, Nat.reduceEqDiff, reduceIte, Int.reduceEq, Int.reduceLT, Int.reduceLE, *]; first | done | with_reducible rfl) ?_)
      refine WX.seq ?_
      refine WX.region ?_
      refine WO.o (by simp only [aop, S0, Nat.reduceEqDiff, reduceIte]; first | done | with_reducible rfl) ?_
      refine WO.nil ?_
      refine thenK_normal ?_
      refine WX.ret ?_
      refine blockK_ret ?_
      refine thenK_ret ?_
      refine loopK_ret ?_
      refine blockK_ret ?_
      refine thenK_ret ?_
      first | (refine retK_ret (by simp only [resultsA, resultA, S0, Nat.reduceEqDiff, reduceIte, q3_0, q3_1, q3_5, q3_54, q3_59, q3_60]; rfl) ?_) | (refine retK_ret (by simp only [resultsA, resultA, S0, S1, decide_true, decide_false, Nat.reduceEqDiff, reduceIte, Int.reduceEq, Int.reduceLT, Int.reduceLE, *]; rfl) ?_)
      refine ⟨?_, rfl⟩
      rcases hne with e | e
      · exact absurd (by injection e) c1
      · rw [decide_eq_false e]; rfl
    by_cases c2 : xt = yt
    case neg =>
      refine WX.regionU0 rfl rfl ?_ rfl
      refine WU.q rfl ?_
      refine WO.o (by simp only [aop, S0, Nat.reduceEqDiff, reduceIte, p1_0]; first | done | with_reducible rfl) ?_
      refine WO.nil ?_
      first | (refine uK_q ?_) | (refine uK_e (by assumption) ?_)
      refine WU.q rfl ?_
      refine WO.o (by simp only [aop, S0, Nat.reduceEqDiff, reduceIte, s5]; first | done | with_reducible rfl) ?_
      refine WO.nil ?_
      first | (refine uK_q ?_) | (refine uK_e (by assumption) ?_)
      refine WU.q rfl ?_
      refine WO.o (SlR.idx' (by first | (simp only [S0, Nat.reduceEqDiff, reduceIte]; first | done | with_reducible rfl) | (simp only [S0, S1, decide_true, decide_false, Nat.reduceEqDiff, reduceIte, Int.reduceEq, Int.reduceLT, Int.reduceLE, *]; first | done | with_reducible rfl)) (by first | (simp only [S0, Nat.reduceEqDiff, reduceIte]; first | done | rfl) | (simp only [S0, S1, decide_true, decide_false, Nat.reduceEqDiff, reduceIte, Int.reduceEq, Int.reduceLT, Int.reduceLE, *]; first | done | rfl)) (by assumption) (by first | omega | assumption | (simp only [List.length_map, List.length_set]; omega))) ?_
      refine WO.nil ?_
      first | (refine uK_q ?_) | (refine uK_e (by assumption) ?_)
      refine WU.q rfl ?_
      refine WO.o (fldP (by first | (simp only [S0, Nat.reduceEqDiff, reduceIte]; first | done | with_reducible rfl) | (simp only [S0, S1, decide_true, decide_false, Nat.reduceEqDiff, reduceIte, Int.reduceEq, Int.reduceLT, Int.reduceLE, *]; first | done | with_reducible rfl)) (SlR.some (i := 0) (by assumption) (by first | omega | assumption | (simp only [List.length_map, List.length_set]; omega)))) ?_
      refine WO.nil ?_
      first | (refine uK_q ?_) | (refine uK_e (by assumption) ?_)
      refine WU.q rfl ?_
      first | (refine WO.o (Piece.load (by first | (simp only [S0, Nat.reduceEqDiff, reduceIte]; first | done | with_reducible rfl) | (simp only [S0, S1, decide_true, decide_false, Nat.reduceEqDiff, reduceIte, Int.reduceEq, Int.reduceLT, Int.reduceLE, *]; first | done | with_reducible rfl)) (by assumption) (by decide) rfl) ?_) | (refine WO.o (Piece.load0 (by first | (simp only [S0, Nat.reduceEqDiff, reduceIte]; first | done | with_reducible rfl) | (simp only [S0, S1, decide_true, decide_false, Nat.reduceEqDiff, reduceIte, Int.reduceEq, Int.reduceLT, Int.reduceLE, *]; first | done | with_reducible rfl)) (by assumption) (by decide) rfl) ?_)
      refine WO.nil ?_
      first | (refine uK_q ?_) | (refine uK_e (by assumption) ?_)
      refine WU.q rfl ?_
      refine WO.o (by simp only [aop, S0, Nat.reduceEqDiff, reduceIte, p1_1]; first | done | with_reducible rfl) ?_
      refine WO.nil ?_
      first | (refine uK_q ?_) | (refine uK_e (by assumption) ?_)
      refine WU.q rfl ?_
      refine WO.o (by simp only [aop, S0, Nat.reduceEqDiff, reduceIte, s5]; first | done | with_reducible rfl) ?_
      refine WO.nil ?_
      first | (refine uK_q ?_) | (refine uK_e (by assumption) ?_)
      refine WU.q rfl ?_
      refine WO.o (SlR.idx' (by first | (simp only [S0, Nat.reduceEqDiff, reduceIte]; first | done | with_reducible rfl) | (simp only [S0, S1, decide_true, decide_false, Nat.reduceEqDiff, reduceIte, Int.reduceEq, Int.reduceLT, Int.reduceLE, *]; first | done | with_reducible rfl)) (by first | (simp only [S0, Nat.reduceEqDiff, reduceIte]; first | done | rfl) | (simp only [S0, S1, decide_true, decide_false, Nat.reduceEqDiff, reduceIte, Int.reduceEq, Int.reduceLT, Int.reduceLE, *]; first | done | rfl)) (by assumption) (by first | omega | assumption | (simp only [List.length_map, List.length_set]; omega))) ?_
      refine WO.nil ?_
      first | (refine uK_q ?_) | (refine uK_e (by assumption) ?_)
      refine WU.q rfl ?_
      refine WO.o (fldP (by first | (simp only [S0, Nat.reduceEqDiff, reduceIte]; first | done | with_reducible rfl) | (simp only [S0, S1, decide_true, decide_false, Nat.reduceEqDiff, reduceIte, Int.reduceEq, Int.reduceLT, Int.reduceLE, *]; first | done | with_reducible rfl)) (SlR.some (i := 0) (by assumption) (by first | omega | assumption | (simp only [List.length_map, List.length_set]; omega)))) ?_
      refine WO.nil ?_
      first | (refine uK_q ?_) | (refine uK_e (by assumption) ?_)
      refine WU.q rfl ?_
      first | (refine WO.o (Piece.load (by first | (simp only [S0, Nat.reduceEqDiff, reduceIte]; first | done | with_reducible rfl) | (simp only [S0, S1, decide_true, decide_false, Nat.reduceEqDiff, reduceIte, Int.reduceEq, Int.reduceLT, Int.reduceLE, *]; first | done | with_reducible rfl)) (by assumption) (by decide) rfl) ?_) | (refine WO.o (Piece.load0 (by first | (simp only [S0, Nat.reduceEqDiff, reduceIte]; first | done | with_reducible rfl) | (simp only [S0, S1, decide_true, decide_false, Nat.reduceEqDiff, reduceIte, Int.reduceEq, Int.reduceLT, Int.reduceLE, *]; first | done | with_reducible rfl)) (by assumption) (by decide) rfl) ?_)
      refine WO.nil ?_
      first | (refine uK_q ?_) | (refine uK_e (by assumption) ?_)
      refine WU.q rfl ?_
      refine WO.o (by simp only [aop, binV_neq, Option.map_some, S0, S1, decide_true, decide_false, Nat.reduceEqDiff, reduceIte, Int.reduceEq, Int.reduceLT, Int.reduceLE, *]; first | done | with_reducible rfl) ?_
      refine WO.nil ?_
      first | (refine uK_q ?_) | (refine uK_e (by assumption) ?_)
      refine WU.q rfl ?_
      refine WO.o (by simp only [aop, S0, Nat.reduceEqDiff, reduceIte]; first | done | with_reducible rfl) ?_
      refine WO.nil ?_
      first | (refine uK_q ?_) | (refine uK_e (by assumption) ?_)
      refine WU.q rfl ?_
      first | (refine WO.guardT (by simp only [S0, S1, decide_true, decide_false, Nat.reduceEqDiff, reduceIte, Int.reduceEq, Int.reduceLT, Int.reduceLE, *]; first | done | with_reducible rfl) ?_; refine WO.o (by simp only [aop, S0, Nat.reduceEqDiff, reduceIte, p1_0]; first | done | with_reducible rfl) ?_) | (refine WO.guardF (by simp only [S0, S1, decide_true, decide_false, Nat.reduceEqDiff, reduceIte, Int.reduceEq, Int.reduceLT, Int.reduceLE, *]; first | done | with_reducible rfl) ?_) | (refine WO.guardU (by simp only [S0, S1, decide_true, decide_false, Nat.reduceEqDiff, reduceIte, Int.reduceEq, Int.reduceLT, Int.reduceLE, *]; first | done | with_reducible rfl) ?_)
      refine WO.nil ?_
      first | (refine uK_q ?_) | (refine uK_e (by assumption) ?_)
      refine WU.q rfl ?_
      first | (refine WO.guardT (by simp only [S0, S1, decide_true, decide_false, Nat.reduceEqDiff, reduceIte, Int.reduceEq, Int.reduceLT, Int.reduceLE, *]; first | done | with_reducible rfl) ?_; refine WO.o (by simp only [aop, S0, Nat.reduceEqDiff, reduceIte, s5]; first | done | with_reducible rfl) ?_) | (refine WO.guardF (by simp only [S0, S1, decide_true, decide_false, Nat.reduceEqDiff, reduceIte, Int.reduceEq, Int.reduceLT, Int.reduceLE, *]; first | done | with_reducible rfl) ?_) | (refine WO.guardU (by simp only [S0, S1, decide_true, decide_false, Nat.reduceEqDiff, reduceIte, Int.reduceEq, Int.reduceLT, Int.reduceLE, *]; first | done | with_reducible rfl) ?_)
      refine WO.nil ?_
      first | (refine uK_q ?_) | (refine uK_e (by assumption) ?_)
      refine WU.q rfl ?_
      first | (refine WO.guardT (by simp only [S0, S1, decide_true, decide_false, Nat.reduceEqDiff, reduceIte, Int.reduceEq, Int.reduceLT, Int.reduceLE, *]; first | done | with_reducible rfl) ?_; refine WO.o (SlR.idx' (by first | (simp only [S0, Nat.reduceEqDiff, reduceIte]; first | done | with_reducible rfl) | (simp only [S0, S1, decide_true, decide_false, Nat.reduceEqDiff, reduceIte, Int.reduceEq, Int.reduceLT, Int.reduceLE, *]; first | done | with_reducible rfl)) (by first | (simp only [S0, Nat.reduceEqDiff, reduceIte]; first | done | rfl) | (simp only [S0, S1, decide_true, decide_false, Nat.reduceEqDiff, reduceIte, Int.reduceEq, Int.reduceLT, Int.reduceLE, *]; first | done | rfl)) (by assumption) (by first | omega | assumption | (simp only [List.length_map, List.length_set]; omega))) ?_) | (refine WO.guardF (by simp only [S0, S1, decide_true, decide_false, Nat.reduceEqDiff, reduceIte, Int.reduceEq, Int.reduceLT, Int.reduceLE, *]; first | done | with_reducible rfl) ?_) | (refine WO.guardU (by simp only [S0, S1, decide_true, decide_false, Nat.reduceEqDiff, reduceIte, Int.reduceEq, Int.reduceLT, Int.reduceLE, *]; first | done | with_reducible rfl) ?_)
      refine WO.nil ?_
      first | (refine uK_q ?_) | (refine uK_e (by assumption) ?_)
      refine WU.q rfl ?_
      first | (refine WO.guardT (by simp only [S0, S1, decide_true, decide_false, Nat.reduceEqDiff, reduceIte, Int.reduceEq, Int.reduceLT, Int.reduceLE, *]; first | done | with_reducible rfl) ?_; refine WO.o (fldP (by first | (simp only [S0, Nat.reduceEqDiff, reduceIte]; first | done | with_reducible rfl) | (simp only [S0, S1, decide_true, decide_false, Nat.reduceEqDiff, reduceIte, Int.reduceEq, Int.reduceLT, Int.reduceLE, *]; first | done | with_reducible rfl)) (SlR.some (i := 0) (by assumption) (by first | omega | assumption | (simp only [List.length_map, List.length_set]; omega)))) ?_) | (refine WO.guardF (by simp only [S0, S1, decide_true, decide_false, Nat.reduceEqDiff, reduceIte, Int.reduceEq, Int.reduceLT, Int.reduceLE, *]; first | done | with_reducible rfl) ?_) | (refine WO.guardU (by simp only [S0, S1, decide_true, decide_false, Nat.reduceEqDiff, reduceIte, Int.reduceEq, Int.reduceLT, Int.reduceLE, *]; first | done | with_reducible rfl) ?_)
      refine WO.nil ?_
      first | (refine uK_q ?_) | (refine uK_e (by assumption) ?_)
      refine WU.q rfl ?_
      first | (refine WO.guardT (by simp only [S0, S1, decide_true, decide_false, Nat.reduceEqDiff, reduceIte, Int.reduceEq, Int.reduceLT, Int.reduceLE, *]; first | done | with_reducible rfl) ?_; first | (refine WO.o (Piece.load (by first | (simp only [S0, Nat.reduceEqDiff, reduceIte]; first | done | with_reducible rfl) | (simp only [S0, S1, decide_true, decide_false, Nat.reduceEqDiff, reduceIte, Int.reduceEq, Int.reduceLT, Int.reduceLE, *]; first | done | with_reducible rfl)) (by assumption) (by decide) rfl) ?_) | (refine WO.o (Piece.load0 (by first | (simp only [S0, Nat.reduceEqDiff, reduceIte]; first | done | with_reducible rfl) | (simp only [S0, S1, decide_true, decide_false, Nat.reduceEqDiff, reduceIte, Int.reduceEq, Int.reduceLT, Int.reduceLE, *]; first | done | with_reducible rfl)) (by assumption) (by decide) rfl) ?_)) | (refine WO.guardF (by simp only [S0, S1, decide_true, decide_false, Nat.reduceEqDiff, reduceIte, Int.reduceEq, Int.reduceLT, Int.reduceLE, *]; first | done | with_reducible rfl) ?_) | (refine WO.guardU (by simp only [S0, S1, decide_true, decide_false, Nat.reduceEqDiff, reduceIte, Int.reduceEq, Int.reduceLT, Int.reduceLE, *]; first | done | with_reducible rfl) ?_)
      refine WO.nil ?_
      first | (refine uK_q ?_) | (refine uK_e (by assumption) ?_)
      refine WU.q rfl ?_
      first | (refine WO.guardT (by simp only [S0, S1, decide_true, decide_false, Nat.reduceEqDiff, reduceIte, Int.reduceEq, Int.reduceLT, Int.reduceLE, *]; first | done | with_reducible rfl) ?_; refine WO.o (by simp only [aop, S0, Nat.reduceEqDiff, reduceIte, p1_1]; first | done | with_reducible rfl) ?_) | (refine WO.guardF (by simp only [S0, S1, decide_true, decide_false, Nat.reduceEqDiff, reduceIte, Int.reduceEq, Int.reduceLT, Int.reduceLE, *]; first | done | with_reducible rfl) ?_) | (refine WO.guardU (by simp only [S0, S1, decide_true, decide_false, Nat.reduceEqDiff, reduceIte, Int.reduceEq, Int.reduceLT, Int.reduceLE, *]; first | done | with_reducible rfl) ?_)
      refine WO.nil ?_
      first | (refine uK_q ?_) | (refine uK_e (by assumption) ?_)
      refine WU.q rfl ?_
      first | (refine WO.guardT (by simp only [S0, S1, decide_true, decide_false, Nat.reduceEqDiff, reduceIte, Int.reduceEq, Int.reduceLT, Int.reduceLE, *]; first | done | with_reducible rfl) ?_; refine WO.o (by simp only [aop, S0, Nat.reduceEqDiff, reduceIte, s5]; first | done | with_reducible rfl) ?_) | (refine WO.guardF (by simp only [S0, S1, decide_true, decide_false, Nat.reduceEqDiff, reduceIte, Int.reduceEq, Int.reduceLT, Int.reduceLE, *]; first | done | with_reducible rfl) ?_) | (refine WO.guardU (by simp only [S0, S1, decide_true, decide_false, Nat.reduceEqDiff, reduceIte, Int.reduceEq, Int.reduceLT, Int.reduceLE, *]; first | done | with_reducible rfl) ?_)
      refine WO.nil ?_
      first | (refine uK_q ?_) | (refine uK_e (by assumption) ?_)
      refine WU.q rfl ?_
      first | (refine WO.guardT (by simp only [S0, S1, decide_true, decide_false, Nat.reduceEqDiff, reduceIte, Int.reduceEq, Int.reduceLT, Int.reduceLE, *]; first | done | with_reducible rfl) ?_; refine WO.o (SlR.idx' (by first | (simp only [S0, Nat.reduceEqDiff, reduceIte]; first | done | with_reducible rfl) | (simp only [S0, S1, decide_true, decide_false, Nat.reduceEqDiff, reduceIte, Int.reduceEq, Int.reduceLT, Int.reduceLE, *]; first | done | with_reducible rfl)) (by first | (simp only [S0, Nat.reduceEqDiff, reduceIte]; first | done | rfl) | (simp only [S0, S1, decide_true, decide_false, Nat.reduceEqDiff, reduceIte, Int.reduceEq, Int.reduceLT, Int.reduceLE, *]; first | done | rfl)) (by assumption) (by first | omega | assumption | (simp only [List.length_map, List.length_set]; omega))) ?_) | (refine WO.guardF (by simp only [S0, S1, decide_true, decide_false, Nat.reduceEqDiff, reduceIte, Int.reduceEq, Int.reduceLT, Int.reduceLE, *]; first | done | with_reducible rfl) ?_) | (refine WO.guardU (by simp only [S0, S1, decide_true, decide_false, Nat.reduceEqDiff, reduceIte, Int.reduceEq, Int.reduceLT, Int.reduceLE, *]; first | done | with_reducible rfl) ?_)
      refine WO.nil ?_
      first | (refine uK_q ?_) | (refine uK_e (by assumption) ?_)
      refine WU.q rfl ?_
      refine WO.abs fun t4_ ht4_ => ?_
      have q4_0 := (ht4_ 0).trans (by simp only [S0, Nat.reduceEqDiff, reduceIte, p1_0]; first | done | with_reducible rfl)
      have q4_1 := (ht4_ 1).trans (by simp only [S0, Nat.reduceEqDiff, reduceIte, p1_1]; first | done | with_reducible rfl)
      have q4_5 := (ht4_ 5).trans (by simp only [S0, Nat.reduceEqDiff, reduceIte, s5]; first | done | with_reducible rfl)
      have q4_28 := (ht4_ 28).trans (by simp only [S0, Nat.reduceEqDiff, reduceIte]; first | done | with_reducible rfl)
      have q4_33 := (ht4_ 33).trans (by simp only [S0, Nat.reduceEqDiff, reduceIte]; first | done | with_reducible rfl)
      have q4_36 := (ht4_ 36).trans (by simp only [S0, Nat.reduceEqDiff, reduceIte]; first | done | with_reducible rfl)
      clear ht4_
      clear p1_0 p1_1 s5
      first | (refine WO.guardT (by simp only [S0, S1, decide_true, decide_false, Nat.reduceEqDiff, reduceIte, Int.reduceEq, Int.reduceLT, Int.reduceLE, *]; first | done | with_reducible rfl) ?_; refine WO.o (fldP (by first | (simp only [S0, Nat.reduceEqDiff, reduceIte, q4_28, q4_36]; first | done | with_reducible rfl) | (simp only [S0, S1, decide_true, decide_false, Nat.reduceEqDiff, reduceIte, Int.reduceEq, Int.reduceLT, Int.reduceLE, *]; first | done | with_reducible rfl)) (SlR.some (i := 0) (by assumption) (by first | omega | assumption | (simp only [List.length_map, List.length_set]; omega)))) ?_) | (refine WO.guardF (by simp only [S0, S1, decide_true, decide_false, Nat.reduceEqDiff, reduceIte, Int.reduceEq, Int.reduceLT, Int.reduceLE, *]; first | done | with_reducible rfl) ?_) | (refine WO.guardU (by simp only [S0, S1, decide_true, decide_false, Nat.reduceEqDiff, reduceIte, Int.reduceEq, Int.reduceLT, Int.reduceLE, *]; first | done | with_reducible rfl) ?_)
      refine WO.nil ?_
      first | (refine uK_q ?_) | (refine uK_e (by assumption) ?_)
      refine WU.q rfl ?_
      first | (refine WO.guardT (by simp only [S0, S1, decide_true, decide_false, Nat.reduceEqDiff, reduceIte, Int.reduceEq, Int.reduceLT, Int.reduceLE, *]; first | done | with_reducible rfl) ?_; first | (refine WO.o (Piece.load (by first | (simp only [S0, Nat.reduceEqDiff, reduceIte, q4_28]; first | done | with_reducible rfl) | (simp only [S0, S1, decide_true, decide_false, Nat.reduceEqDiff, reduceIte, Int.reduceEq, Int.reduceLT, Int.reduceLE, *]; first | done | with_reducible rfl)) (by assumption) (by decide) rfl) ?_) | (refine WO.o (Piece.load0 (by first | (simp only [S0, Nat.reduceEqDiff, reduceIte, q4_28]; first | done | with_reducible rfl) | (simp only [S0, S1, decide_true, decide_false, Nat.reduceEqDiff, reduceIte, Int.reduceEq, Int.reduceLT, Int.reduceLE, *]; first | done | with_reducible rfl)) (by assumption) (by decide) rfl) ?_)) | (refine WO.guardF (by simp only [S0, S1, decide_true, decide_false, Nat.reduceEqDiff, reduceIte, Int.reduceEq, Int.reduceLT, Int.reduceLE, *]; first | done | with_reducible rfl) ?_) | (refine WO.guardU (by simp only [S0, S1, decide_true, decide_false, Nat.reduceEqDiff, reduceIte, Int.reduceEq, Int.reduceLT, Int.reduceLE, *]; first | done | with_reducible rfl) ?_)
      refine WO.nil ?_
      first | (refine uK_q ?_) | (refine uK_e (by assumption) ?_)
      refine WU.q rfl ?_
      first | (refine WO.guardT (by simp only [S0, S1, decide_true, decide_false, Nat.reduceEqDiff, reduceIte, Int.reduceEq, Int.reduceLT, Int.reduceLE, *]; first | done | with_reducible rfl) ?_; refine WO.o (by simp only [aop, binV_neq, Option.map_some, S0, S1, decide_true, decide_false, Nat.reduceEqDiff, reduceIte, Int.reduceEq, Int.reduceLT, Int.reduceLE, *]; first | done | with_reducible rfl) ?_) | (refine WO.guardF (by simp only [S0, S1, decide_true, decide_false, Nat.reduceEqDiff, reduceIte, Int.reduceEq, Int.reduceLT, Int.reduceLE, *]; first | done | with_reducible rfl) ?_) | (refine WO.guardU (by simp only [S0, S1, decide_true, decide_false, Nat.reduceEqDiff, reduceIte, Int.reduceEq, Int.reduceLT, Int.reduceLE, *]; first | done | with_reducible rfl) ?_)
      refine WO.nil ?_
      first | (refine uK_q ?_) | (refine uK_e (by assumption) ?_)
      refine WU.q rfl ?_
      refine WO.o (by simp only [aop, pick_or, pick_and, S0, S1, decide_true, decide_false, Nat.reduceEqDiff, reduceIte, Int.reduceEq, Int.reduceLT, Int.reduceLE, *]; first | done | with_reducible rfl) ?_
      refine WO.nil ?_
      first | (refine uK_q ?_) | (refine uK_e (by assumption) ?_)
      refine WU.q rfl ?_
      refine WO.o (by simp only [aop, S0, Nat.reduceEqDiff, reduceIte]; first | done | with_reducible rfl) ?_
      refine WO.nil ?_
      first | (refine uK_q ?_) | (refine uK_e (by assumption) ?_)
      refine WU.q rfl ?_
      first | (refine WO.guardT (by simp only [S0, S1, decide_true, decide_false, Nat.reduceEqDiff, reduceIte, Int.reduceEq, Int.reduceLT, Int.reduceLE, *]; first | done | with_reducible rfl) ?_; refine WO.o (by simp only [aop, S0, Nat.reduceEqDiff, reduceIte, q4_0]; first | done | with_reducible rfl) ?_) | (refine WO.guardF (by simp only [S0, S1, decide_true, decide_false, Nat.reduceEqDiff, reduceIte, Int.reduceEq, Int.reduceLT, Int.reduceLE, *]; first | done | with_reducible rfl) ?_) | (refine WO.guardU (by simp only [S0, S1, decide_true, decide_false, Nat.reduceEqDiff, reduceIte, Int.reduceEq, Int.reduceLT, Int.reduceLE, *]; first | done | with_reducible rfl) ?_)
      refine WO.nil ?_
      first | (refine uK_q ?_) | (refine uK_e (by assumption) ?_)
      refine WU.q rfl ?_
      first | (refine WO.guardT (by simp only [S0, S1, decide_true, decide_false, Nat.reduceEqDiff, reduceIte, Int.reduceEq, Int.reduceLT, Int.reduceLE, *]; first | done | with_reducible rfl) ?_; refine WO.o (by simp only [aop, S0, Nat.reduceEqDiff, reduceIte, q4_5]; first | done | with_reducible rfl) ?_) | (refine WO.guardF (by simp only [S0, S1, decide_true, decide_false, Nat.reduceEqDiff, reduceIte, Int.reduceEq, Int.reduceLT, Int.reduceLE, *]; first | done | with_reducible rfl) ?_) | (refine WO.guardU (by simp only [S0, S1, decide_true, decide_false, Nat.reduceEqDiff, reduceIte, Int.reduceEq, Int.reduceLT, Int.reduceLE, *]; first | done | with_reducible rfl) ?_)
      refine WO.nil ?_
      first | (refine uK_q ?_) | (refine uK_e (by assumption) ?_)
      refine WU.q rfl ?_
      first | (refine WO.guardT (by simp only [S0, S1, decide_true, decide_false, Nat.reduceEqDiff, reduceIte, Int.reduceEq, Int.reduceLT, Int.reduceLE, *]; first | done | with_reducible rfl) ?_; refine WO.o (SlR.idx' (by first | (simp only [S0, Nat.reduceEqDiff, reduceIte]; first | done | with_reducible rfl) | (simp only [S0, S1, decide_true, decide_false, Nat.reduceEqDiff, reduceIte, Int.reduceEq, Int.reduceLT, Int.reduceLE, *]; first | done | with_reducible rfl)) (by first | (simp only [S0, Nat.reduceEqDiff, reduceIte]; first | done | rfl) | (simp only [S0, S1, decide_true, decide_false, Nat.reduceEqDiff, reduceIte, Int.reduceEq, Int.reduceLT, Int.reduceLE, *]; first | done | rfl)) (by assumption) (by first | omega | assumption | (simp only [List.length_map, List.length_set]; omega))) ?_) | (refine WO.guardF (by simp only [S0, S1, decide_true, decide_false, Nat.reduceEqDiff, reduceIte, Int.reduceEq, Int.reduceLT, Int.reduceLE, *]; first | done | with_reducible rfl) ?_) | (refine WO.guardU (by simp only [S0, S1, decide_true, decide_false, Nat.reduceEqDiff, reduceIte, Int.reduceEq, Int.reduceLT, Int.reduceLE, *]; first | done | with_reducible rfl) ?_)
      refine WO.nil ?_
      first | (refine uK_q ?_) | (refine uK_e (by assumption) ?_)
      refine WU.q rfl ?_
      first | (refine WO.guardT (by simp only [S0, S1, decide_true, decide_false, Nat.reduceEqDiff, reduceIte, Int.reduceEq, Int.reduceLT, Int.reduceLE, *]; first | done | with_reducible rfl) ?_; refine WO.o (fldP (by first | (simp only [S0, Nat.reduceEqDiff, reduceIte]; first | done | with_reducible rfl) | (simp only [S0, S1, decide_true, decide_false, Nat.reduceEqDiff, reduceIte, Int.reduceEq, Int.reduceLT, Int.reduceLE, *]; first | done | with_reducible rfl)) (SlR.some (i := 0) (by assumption) (by first | omega | assumption | (simp only [List.length_map, List.length_set]; omega)))) ?_) | (refine WO.guardF (by simp only [S0, S1, decide_true, decide_false, Nat.reduceEqDiff, reduceIte, Int.reduceEq, Int.reduceLT, Int.reduceLE, *]; first | done | with_reducible rfl) ?_) | (refine WO.guardU (by simp only [S0, S1, decide_true, decide_false, Nat.reduceEqDiff, reduceIte, Int.reduceEq, Int.reduceLT, Int.reduceLE, *]; first | done | with_reducible rfl) ?_)
      refine WO.nil ?_
      first | (refine uK_q ?_) | (refine uK_e (by assumption) ?_)
      refine WU.q rfl ?_
      first | (refine WO.guardT (by simp only [S0, S1, decide_true, decide_false, Nat.reduceEqDiff, reduceIte, Int.reduceEq, Int.reduceLT, Int.reduceLE, *]; first | done | with_reducible rfl) ?_; first | (refine WO.o (Piece.load (by first | (simp only [S0, Nat.reduceEqDiff, reduceIte]; first | done | with_reducible rfl) | (simp only [S0, S1, decide_true, decide_false, Nat.reduceEqDiff, reduceIte, Int.reduceEq, Int.reduceLT, Int.reduceLE, *]; first | done | with_reducible rfl)) (by assumption) (by decide) rfl) ?_) | (refine WO.o (Piece.load0 (by first | (simp only [S0, Nat.reduceEqDiff, reduceIte]; first | done | with_reducible rfl) | (simp only [S0, S1, decide_true, decide_false, Nat.reduceEqDiff, reduceIte, Int.reduceEq, Int.reduceLT, Int.reduceLE, *]; first | done | with_reducible rfl)) (by assumption) (by decide) rfl) ?_)) | (refine WO.guardF (by simp only [S0, S1, decide_true, decide_false, Nat.reduceEqDiff, reduceIte, Int.reduceEq, Int.reduceLT, Int.reduceLE, *]; first | done | with_reducible rfl) ?_) | (refine WO.guardU (by simp only [S0, S1, decide_true, decide_false, Nat.reduceEqDiff, reduceIte, Int.reduceEq, Int.reduceLT, Int.reduceLE, *]; first | done | with_reducible rfl) ?_)
      refine WO.nil ?_
      first | (refine uK_q ?_) | (refine uK_e (by assumption) ?_)
      refine WU.q rfl ?_
      first | (refine WO.guardT (by simp only [S0, S1, decide_true, decide_false, Nat.reduceEqDiff, reduceIte, Int.reduceEq, Int.reduceLT, Int.reduceLE, *]; first | done | with_reducible rfl) ?_; refine WO.o (by simp only [aop, S0, Nat.reduceEqDiff, reduceIte, q4_1]; first | done | with_reducible rfl) ?_) | (refine WO.guardF (by simp only [S0, S1, decide_true, decide_false, Nat.reduceEqDiff, reduceIte, Int.reduceEq, Int.reduceLT, Int.reduceLE, *]; first | done | with_reducible rfl) ?_) | (refine WO.guardU (by simp only [S0, S1, decide_true, decide_false, Nat.reduceEqDiff, reduceIte, Int.reduceEq, Int.reduceLT, Int.reduceLE, *]; first | done | with_reducible rfl) ?_)
      refine WO.nil ?_
      first | (refine uK_q ?_) | (refine uK_e (by assumption) ?_)
      refine WU.q rfl ?_
      first | (refine WO.guardT (by simp only [S0, S1, decide_true, decide_false, Nat.reduceEqDiff, reduceIte, Int.reduceEq, Int.reduceLT, Int.reduceLE, *]; first | done | with_reducible rfl) ?_; refine WO.o (by simp only [aop, S0, Nat.reduceEqDiff, reduceIte, q4_5]; first | done | with_reducible rfl) ?_) | (refine WO.guardF (by simp only [S0, S1, decide_true, decide_false, Nat.reduceEqDiff, reduceIte, Int.reduceEq, Int.reduceLT, Int.reduceLE, *]; first | done | with_reducible rfl) ?_) | (refine WO.guardU (by simp only [S0, S1, decide_true, decide_false, Nat.reduceEqDiff, reduceIte, Int.reduceEq, Int.reduceLT, Int.reduceLE, *]; first | done | with_reducible rfl) ?_)
      refine WO.nil ?_
      first | (refine uK_q ?_) | (refine uK_e (by assumption) ?_)
      refine WU.q rfl ?_
      first | (refine WO.guardT (by simp only [S0, S1, decide_true, decide_false, Nat.reduceEqDiff, reduceIte, Int.reduceEq, Int.reduceLT, Int.reduceLE, *]; first | done | with_reducible rfl) ?_; refine WO.o (SlR.idx' (by first | (simp only [S0, Nat.reduceEqDiff, reduceIte]; first | done | with_reducible rfl) | (simp only [S0, S1, decide_true, decide_false, Nat.reduceEqDiff, reduceIte, Int.reduceEq, Int.reduceLT, Int.reduceLE, *]; first | done | with_reducible rfl)) (by first | (simp only [S0, Nat.reduceEqDiff, reduceIte]; first | done | rfl) | (simp only [S0, S1, decide_true, decide_false, Nat.reduceEqDiff, reduceIte, Int.reduceEq, Int.reduceLT, Int.reduceLE, *]; first | done | rfl)) (by assumption) (by first | omega | assumption | (simp only [List.length_map, List.length_set]; omega))) ?_) | (refine WO.guardF (by simp only [S0, S1, decide_true, decide_false, Nat.reduceEqDiff, reduceIte, Int.reduceEq, Int.reduceLT, Int.reduceLE, *]; first | done | with_reducible rfl) ?_) | (refine WO.guardU (by simp only [S0, S1, decide_true, decide_false, Nat.reduceEqDiff, reduceIte, Int.reduceEq, Int.reduceLT, Int.reduceLE, *]; first | done | with_reducible rfl) ?_)
      refine WO.nil ?_
      first | (refine uK_q ?_) | (refine uK_e (by assumption) ?_)
      refine WU.q rfl ?_
      first | (refine WO.guardT (by simp only [S0, S1, decide_true, decide_false, Nat.reduceEqDiff, reduceIte, Int.reduceEq, Int.reduceLT, Int.reduceLE, *]; first | done | with_reducible rfl) ?_; refine WO.o (fldP (by first | (simp only [S0, Nat.reduceEqDiff, reduceIte]; first | done | with_reducible rfl) | (simp only [S0, S1, decide_true, decide_false, Nat.reduceEqDiff, reduceIte, Int.reduceEq, Int.reduceLT, Int.reduceLE, *]; first | done | with_reducible rfl)) (SlR.some (i := 0) (by assumption) (by first | omega | assumption | (simp only [List.length_map, List.length_set]; omega)))) ?_) | (refine WO.guardF (by simp only [S0, S1, decide_true, decide_false, Nat.reduceEqDiff, reduceIte, Int.reduceEq, Int.reduceLT, Int.reduceLE, *]; first | done | with_reducible rfl) ?_) | (refine WO.guardU (by simp only [S0, S1, decide_true, decide_false, Nat.reduceEqDiff, reduceIte, Int.reduceEq, Int.reduceLT, Int.reduceLE, *]; first | done | with_reducible rfl) ?_)
      refine WO.nil ?_
      first | (refine uK_q ?_) | (refine uK_e (by assumption) ?_)
      refine WU.q rfl ?_
      first | (refine WO.guardT (by simp only [S0, S1, decide_true, decide_false, Nat.reduceEqDiff, reduceIte, Int.reduceEq, Int.reduceLT, Int.reduceLE, *]; first | done | with_reducible rfl) ?_; first | (refine WO.o (Piece.load (by first | (simp only [S0, Nat.reduceEqDiff, reduceIte]; first | done | with_reducible rfl) | (simp only [S0, S1, decide_true, decide_false, Nat.reduceEqDiff, reduceIte, Int.reduceEq, Int.reduceLT, Int.reduceLE, *]; first | done | with_reducible rfl)) (by assumption) (by decide) rfl) ?_) | (refine WO.o (Piece.load0 (by first | (simp only [S0, Nat.reduceEqDiff, reduceIte]; first | done | with_reducible rfl) | (simp only [S0, S1, decide_true, decide_false, Nat.reduceEqDiff, reduceIte, Int.reduceEq, Int.reduceLT, Int.reduceLE, *]; first | done | with_reducible rfl)) (by assumption) (by decide) rfl) ?_)) | (refine WO.guardF (by simp only [S0, S1, decide_true, decide_false, Nat.reduceEqDiff, reduceIte, Int.reduceEq, Int.reduceLT, Int.reduceLE, *]; first | done | with_reducible rfl) ?_) | (refine WO.guardU (by simp only [S0, S1, decide_true, decide_false, Nat.reduceEqDiff, reduceIte, Int.reduceEq, Int.reduceLT, Int.reduceLE, *]; first | done | with_reducible rfl) ?_)
      refine WO.nil ?_
      first | (refine uK_q ?_) | (refine uK_e (by assumption) ?_)
      refine WU.q rfl ?_
      first | (refine WO.guardT (by simp only [S0, S1, decide_true, decide_false, Nat.reduceEqDiff, reduceIte, Int.reduceEq, Int.reduceLT, Int.reduceLE, *]; first | done | with_reducible rfl) ?_; refine WO.o (by simp only [aop, binV_neq, Option.map_some, S0, S1, decide_true, decide_false, Nat.reduceEqDiff, reduceIte, Int.reduceEq, Int.reduceLT, Int.reduceLE, *]; first | done | with_reducible rfl) ?_) | (refine WO.guardF (by simp only [S0, S1, decide_true, decide_false, Nat.reduceEqDiff, reduceIte, Int.reduceEq, Int.reduceLT, Int.reduceLE, *]; first | done | with_reducible rfl) ?_) | (refine WO.guardU (by simp only [S0, S1, decide_true, decide_false, Nat.reduceEqDiff, reduceIte, Int.reduceEq, Int.reduceLT, Int.reduceLE, *]; first | done | with_reducible rfl) ?_)
      refine WO.nil ?_
      first | (refine uK_q ?_) | (refine uK_e (by assumption) ?_)
      refine WU.q rfl ?_
      refine WO.o (by simp only [aop, pick_or, pick_and, S0, S1, decide_true, decide_false, Nat.reduceEqDiff, reduceIte, Int.reduceEq, Int.reduceLT, Int.reduceLE, *]; first | done | with_reducible rfl) ?_
      refine WO.nil ?_
      first | (refine uK_q ?_) | (refine uK_e (by assumption) ?_)
      refine WU.q rfl ?_
      refine WO.o (by simp only [aop, S0, Nat.reduceEqDiff, reduceIte]; first | done | with_reducible rfl) ?_
      refine WO.nil ?_
      first | (refine uK_q ?_) | (refine uK_e (by assumption) ?_)
      refine WU.q rfl ?_
      first | (refine WO.guardT (by simp only [S0, S1, decide_true, decide_false, Nat.reduceEqDiff, reduceIte, Int.reduceEq, Int.reduceLT, Int.reduceLE, *]; first | done | with_reducible rfl) ?_; refine WO.o (by simp only [aop, S0, Nat.reduceEqDiff, reduceIte, q4_0]; first | done | with_reducible rfl) ?_) | (refine WO.guardF (by simp only [S0, S1, decide_true, decide_false, Nat.reduceEqDiff, reduceIte, Int.reduceEq, Int.reduceLT, Int.reduceLE, *]; first | done | with_reducible rfl) ?_) | (refine WO.guardU (by simp only [S0, S1, decide_true, decide_false, Nat.reduceEqDiff, reduceIte, Int.reduceEq, Int.reduceLT, Int.reduceLE, *]; first | done | with_reducible rfl) ?_)
      refine WO.nil ?_
      first | (refine uK_q ?_) | (refine uK_e (by assumption) ?_)
      refine WU.q rfl ?_
      first | (refine WO.guardT (by simp only [S0, S1, decide_true, decide_false, Nat.reduceEqDiff, reduceIte, Int.reduceEq, Int.reduceLT, Int.reduceLE, *]; first | done | with_reducible rfl) ?_; refine WO.o (by simp only [aop, S0, Nat.reduceEqDiff, reduceIte, q4_5]; first | done | with_reducible rfl) ?_) | (refine WO.guardF (by simp only [S0, S1, decide_true, decide_false, Nat.reduceEqDiff, reduceIte, Int.reduceEq, Int.reduceLT, Int.reduceLE, *]; first | done | with_reducible rfl) ?_) | (refine WO.guardU (by simp only [S0, S1, decide_true, decide_false, Nat.reduceEqDiff, reduceIte, Int.reduceEq, Int.reduceLT, Int.reduceLE, *]; first | done | with_reducible rfl) ?_)
      refine WO.nil ?_
      first | (refine uK_q ?_) | (refine uK_e (by assumption) ?_)
      refine WU.q rfl ?_
      first | (refine WO.guardT (by simp only [S0, S1, decide_true, decide_false, Nat.reduceEqDiff, reduceIte, Int.reduceEq, Int.reduceLT, Int.reduceLE, *]; first | done | with_reducible rfl) ?_; refine WO.o (SlR.idx' (by first | (simp only [S0, Nat.reduceEqDiff, reduceIte]; first | done | with_reducible rfl) | (simp only [S0, S1, decide_true, decide_false, Nat.reduceEqDiff, reduceIte, Int.reduceEq, Int.reduceLT, Int.reduceLE, *]; first | done | with_reducible rfl)) (by first | (simp only [S0, Nat.reduceEqDiff, reduceIte]; first | done | rfl) | (simp only [S0, S1, decide_true, decide_false, Nat.reduceEqDiff, reduceIte, Int.reduceEq, Int.reduceLT, Int.reduceLE, *]; first | done | rfl)) (by assumption) (by first | omega | assumption | (simp only [List.length_map, List.length_set]; omega))) ?_) | (refine WO.guardF (by simp only [S0, S1, decide_true, decide_false, Nat.reduceEqDiff, reduceIte, Int.reduceEq, Int.reduceLT, Int.reduceLE, *]; first | done | with_reducible rfl) ?_) | (refine WO.guardU (by simp only [S0, S1, decide_true, decide_false, Nat.reduceEqDiff, reduceIte, Int.reduceEq, Int.reduceLT, Int.reduceLE, *]; first | done | with_reducible rfl) ?_)
      refine WO.nil ?_
      first | (refine uK_q ?_) | (refine uK_e (by assumption) ?_)
      refine WU.q rfl ?_
      first | (refine WO.guardT (by simp only [S0, S1, decide_true, decide_false, Nat.reduceEqDiff, reduceIte, Int.reduceEq, Int.reduceLT, Int.reduceLE, *]; first | done | with_reducible rfl) ?_; refine WO.o (fldP (by first | (simp only [S0, Nat.reduceEqDiff, reduceIte]; first | done | with_reducible rfl) | (simp only [S0, S1, decide_true, decide_false, Nat.reduceEqDiff, reduceIte, Int.reduceEq, Int.reduceLT, Int.reduceLE, *]; first | done | with_reducible rfl)) (SlR.some (i := 0) (by assumption) (by first | omega | assumption | (simp only [List.length_map, List.length_set]; omega)))) ?_) | (refine WO.guardF (by simp only [S0, S1, decide_true, decide_false, Nat.reduceEqDiff, reduceIte, Int.reduceEq, Int.reduceLT, Int.reduceLE, *]; first | done | with_reducible rfl) ?_) | (refine WO.guardU (by simp only [S0, S1, decide_true, decide_false, Nat.reduceEqDiff, reduceIte, Int.reduceEq, Int.reduceLT, Int.reduceLE, *]; first | done | with_reducible rfl) ?_)
      refine WO.nil ?_
      first | (refine uK_q ?_) | (refine uK_e (by assumption) ?_)
      refine WU.q rfl ?_
      first | (refine WO.guardT (by simp only [S0, S1, decide_true, decide_false, Nat.reduceEqDiff, reduceIte, Int.reduceEq, Int.reduceLT, Int.reduceLE, *]; first | done | with_reducible rfl) ?_; first | (refine WO.o (Piece.load (by first | (simp only [S0, Nat.reduceEqDiff, reduceIte]; first | done | with_reducible rfl) | (simp only [S0, S1, decide_true, decide_false, Nat.reduceEqDiff, reduceIte, Int.reduceEq, Int.reduceLT, Int.reduceLE, *]; first | done | with_reducible rfl)) (by assumption) (by decide) rfl) ?_) | (refine WO.o (Piece.load0 (by first | (simp only [S0, Nat.reduceEqDiff, reduceIte]; first | done | with_reducible rfl) | (simp only [S0, S1, decide_true, decide_false, Nat.reduceEqDiff, reduceIte, Int.reduceEq, Int.reduceLT, Int.reduceLE, *]; first | done | with_reducible rfl)) (by assumption) (by decide) rfl) ?_)) | (refine WO.guardF (by simp only [S0, S1, decide_true, decide_false, Nat.reduceEqDiff, reduceIte, Int.reduceEq, Int.reduceLT, Int.reduceLE, *]; first | done | with_reducible rfl) ?_) | (refine WO.guardU (by simp only [S0, S1, decide_true, decide_false, Nat.reduceEqDiff, reduceIte, Int.reduceEq, Int.reduceLT, Int.reduceLE, *]; first | done | with_reducible rfl) ?_)
      refine WO.nil ?_
      first | (refine uK_q ?_) | (refine uK_e (by assumption) ?_)
      refine WU.q rfl ?_
      first | (refine WO.guardT (by simp only [S0, S1, decide_true, decide_false, Nat.reduceEqDiff, reduceIte, Int.reduceEq, Int.reduceLT, Int.reduceLE, *]; first | done | with_reducible rfl) ?_; refine WO.o (by simp only [aop, S0, Nat.reduceEqDiff, reduceIte, q4_1]; first | done | with_reducible rfl) ?_) | (refine WO.guardF (by simp only [S0, S1, decide_true, decide_false, Nat.reduceEqDiff, reduceIte, Int.reduceEq, Int.reduceLT, Int.reduceLE, *]; first | done | with_reducible rfl) ?_) | (refine WO.guardU (by simp only [S0, S1, decide_true, decide_false, Nat.reduceEqDiff, reduceIte, Int.reduceEq, Int.reduceLT, Int.reduceLE, *]; first | done | with_reducible rfl) ?_)
      refine WO.nil ?_
      first | (refine uK_q ?_) | (refine uK_e (by assumption) ?_)
      refine WU.q rfl ?_
      refine WO.abs fun t5_ ht5_ => ?_
      have q5_0 := (ht5_ 0).trans (by simp only [S0, Nat.reduceEqDiff, reduceIte, q4_0]; first | done | with_reducible rfl)
      have q5_1 := (ht5_ 1).trans (by simp only [S0, Nat.reduceEqDiff, reduceIte, q4_1]; first | done | with_reducible rfl)
      have q5_5 := (ht5_ 5).trans (by simp only [S0, Nat.reduceEqDiff, reduceIte, q4_5]; first | done | with_reducible rfl)
      have q5_54 := (ht5_ 54).trans (by simp only [S0, Nat.reduceEqDiff, reduceIte]; first | done | with_reducible rfl)
      have q5_59 := (ht5_ 59).trans (by simp only [S0, Nat.reduceEqDiff, reduceIte]; first | done | with_reducible rfl)
      have q5_60 := (ht5_ 60).trans (by simp only [S0, Nat.reduceEqDiff, reduceIte]; first | done | with_reducible rfl)
      clear ht5_
      clear q4_0 q4_1 q4_5 q4_28 q4_33 q4_36
      first | (refine WO.guardT (by simp only [S0, S1, decide_true, decide_false, Nat.reduceEqDiff, reduceIte, Int.reduceEq, Int.reduceLT, Int.reduceLE, *]; first | done | with_reducible rfl) ?_; refine WO.o (by simp only [aop, S0, Nat.reduceEqDiff, reduceIte, q5_5, q5_54]; first | done | with_reducible rfl) ?_) | (refine WO.guardF (by simp only [S0, S1, decide_true, decide_false, Nat.reduceEqDiff, reduceIte, Int.reduceEq, Int.reduceLT, Int.reduceLE, *]; first | done | with_reducible rfl) ?_) | (refine WO.guardU (by simp only [S0, S1, decide_true, decide_false, Nat.reduceEqDiff, reduceIte, Int.reduceEq, Int.reduceLT, Int.reduceLE, *]; first | done | with_reducible rfl) ?_)
      refine WO.nil ?_
      first | (refine uK_q ?_) | (refine uK_e (by assumption) ?_)
      refine WU.q rfl ?_
      first | (refine WO.guardT (by simp only [S0, S1, decide_true, decide_false, Nat.reduceEqDiff, reduceIte, Int.reduceEq, Int.reduceLT, Int.reduceLE, *]; first | done | with_reducible rfl) ?_; refine WO.o (SlR.idx' (by first | (simp only [S0, Nat.reduceEqDiff, reduceIte, q5_54, q5_60]; first | done | with_reducible rfl) | (simp only [S0, S1, decide_true, decide_false, Nat.reduceEqDiff, reduceIte, Int.reduceEq, Int.reduceLT, Int.reduceLE, *]; first | done | with_reducible rfl)) (by first | (simp only [S0, Nat.reduceEqDiff, reduceIte, q5_54, q5_60]; first | done | rfl) | (simp only [S0, S1, decide_true, decide_false, Nat.reduceEqDiff, reduceIte, Int.reduceEq, Int.reduceLT, Int.reduceLE, *]; first | done | rfl)) (by assumption) (by first | omega | assumption | (simp only [List.length_map, List.length_set]; omega))) ?_) | (refine WO.guardF (by simp only [S0, S1, decide_true, decide_false, Nat.reduceEqDiff, reduceIte, Int.reduceEq, Int.reduceLT, Int.reduceLE, *]; first | done | with_reducible rfl) ?_) | (refine WO.guardU (by simp only [S0, S1, decide_true, decide_false, Nat.reduceEqDiff, reduceIte, Int.reduceEq, Int.reduceLT, Int.reduceLE, *]; first | done | with_reducible rfl) ?_)
      refine WO.nil ?_
      first | (refine uK_q ?_) | (refine uK_e (by assumption) ?_)
      refine WU.q rfl ?_
      first | (refine WO.guardT (by simp only [S0, S1, decide_true, decide_false, Nat.reduceEqDiff, reduceIte, Int.reduceEq, Int.reduceLT, Int.reduceLE, *]; first | done | with_reducible rfl) ?_; refine WO.o (fldP (by first | (simp only [S0, Nat.reduceEqDiff, reduceIte, q5_54]; first | done | with_reducible rfl) | (simp only [S0, S1, decide_true, decide_false, Nat.reduceEqDiff, reduceIte, Int.reduceEq, Int.reduceLT, Int.reduceLE, *]; first | done | with_reducible rfl)) (SlR.some (i := 0) (by assumption) (by first | omega | assumption | (simp only [List.length_map, List.length_set]; omega)))) ?_) | (refine WO.guardF (by simp only [S0, S1, decide_true, decide_false, Nat.reduceEqDiff, reduceIte, Int.reduceEq, Int.reduceLT, Int.reduceLE, *]; first | done | with_reducible rfl) ?_) | (refine WO.guardU (by simp only [S0, S1, decide_true, decide_false, Nat.reduceEqDiff, reduceIte, Int.reduceEq, Int.reduceLT, Int.reduceLE, *]; first | done | with_reducible rfl) ?_)
      refine WO.nil ?_
      first | (refine uK_q ?_) | (refine uK_e (by assumption) ?_)
      refine WU.q rfl ?_
      first | (refine WO.guardT (by simp only [S0, S1, decide_true, decide_false, Nat.reduceEqDiff, reduceIte, Int.reduceEq, Int.reduceLT, Int.reduceLE, *]; first | done | with_reducible rfl) ?_; first | (refine WO.o (Piece.load (by first | (simp only [S0, Nat.reduceEqDiff, reduceIte, q5_54]; first | done | with_reducible rfl) | (simp only [S0, S1, decide_true, decide_false, Nat.reduceEqDiff, reduceIte, Int.reduceEq, Int.reduceLT, Int.reduceLE, *]; first | done | with_reducible rfl)) (by assumption) (by decide) rfl) ?_) | (refine WO.o (Piece.load0 (by first | (simp only [S0, Nat.reduceEqDiff, reduceIte, q5_54]; first | done | with_reducible rfl) | (simp only [S0, S1, decide_true, decide_false, Nat.reduceEqDiff, reduceIte, Int.reduceEq, Int.reduceLT, Int.reduceLE, *]; first | done | with_reducible rfl)) (by assumption) (by decide) rfl) ?_)) | (refine WO.guardF (by simp only [S0, S1, decide_true, decide_false, Nat.reduceEqDiff, reduceIte, Int.reduceEq, Int.reduceLT, Int.reduceLE, *]; first | done | with_reducible rfl) ?_) | (refine WO.guardU (by simp only [S0, S1, decide_true, decide_false, Nat.reduceEqDiff, reduceIte, Int.reduceEq, Int.reduceLT, Int.reduceLE, *]; first | done | with_reducible rfl) ?_)
      refine WO.nil ?_
      first | (refine uK_q ?_) | (refine uK_e (by assumption) ?_)
      refine WU.q rfl ?_
      first | (refine WO.guardT (by simp only [S0, S1, decide_true, decide_false, Nat.reduceEqDiff, reduceIte, Int.reduceEq, Int.reduceLT, Int.reduceLE, *]; first | done | with_reducible rfl) ?_; refine WO.o (by simp only [aop, binV_neq, Option.map_some, S0, S1, decide_true, decide_false, Nat.reduceEqDiff, reduceIte, Int.reduceEq, Int.reduceLT, Int.reduceLE, *]; first | done | with_reducible rfl) ?_) | (refine WO.guardF (by simp only [S0, S1, decide_true, decide_false, Nat.reduceEqDiff, reduceIte, Int.reduceEq, Int.reduceLT, Int.reduceLE, *]; first | done | with_reducible rfl) ?_) | (refine WO.guardU (by simp only [S0, S1, decide_true, decide_false, Nat.reduceEqDiff, reduceIte, Int.reduceEq, Int.reduceLT, Int.reduceLE, *]; first | done | with_reducible rfl) ?_)
      refine WO.nil ?_
      first | (refine uK_q ?_) | (refine uK_e (by assumption) ?_)
      refine WU.q rfl ?_
      refine WO.o (by simp only [aop, pick_or, pick_and, S0, S1, decide_true, decide_false, Nat.reduceEqDiff, reduceIte, Int.reduceEq, Int.reduceLT, Int.reduceLE, *]; first | done | with_reducible rfl) ?_
      refine WO.nil ?_
      first | (refine uK_q ?_) | (refine uK_e (by assumption) ?_)
      refine WU.q rfl ?_
      refine WO.o (by simp only [aop, S0, Nat.reduceEqDiff, reduceIte]; first | done | with_reducible rfl) ?_
      refine WO.nil ?_
      first | (refine uK_q ?_) | (refine uK_e (by assumption) ?_)
      refine WU.q rfl ?_
      first | (refine WO.guardT (by simp only [S0, S1, decide_true, decide_false, Nat.reduceEqDiff, reduceIte, Int.reduceEq, Int.reduceLT, Int.reduceLE, *]; first | done | with_reducible rfl) ?_; refine WO.o (by simp only [aop, S0, Nat.reduceEqDiff, reduceIte, q5_0]; first | done | with_reducible rfl) ?_) | (refine WO.guardF (by simp only [S0, S1, decide_true, decide_false, Nat.reduceEqDiff, reduceIte, Int.reduceEq, Int.reduceLT, Int.reduceLE, *]; first | done | with_reducible rfl) ?_) | (refine WO.guardU (by simp only [S0, S1, decide_true, decide_false, Nat.reduceEqDiff, reduceIte, Int.reduceEq, Int.reduceLT, Int.reduceLE, *]; first | done | with_reducible rfl) ?_)
      refine WO.nil ?_
      first | (refine uK_q ?_) | (refine uK_e (by assumption) ?_)
      refine WU.q rfl ?_
      first | (refine WO.guardT (by simp only [S0, S1, decide_true, decide_false, Nat.reduceEqDiff, reduceIte, Int.reduceEq, Int.reduceLT, Int.reduceLE, *]; first | done | with_reducible rfl) ?_; refine WO.o (by simp only [aop, S0, Nat.reduceEqDiff, reduceIte, q5_5]; first | done | with_reducible rfl) ?_) | (refine WO.guardF (by simp only [S0, S1, decide_true, decide_false, Nat.reduceEqDiff, reduceIte, Int.reduceEq, Int.reduceLT, Int.reduceLE, *]; first | done | with_reducible rfl) ?_) | (refine WO.guardU (by simp only [S0, S1, decide_true, decide_false, Nat.reduceEqDiff, reduceIte, Int.reduceEq, Int.reduceLT, Int.reduceLE, *]; first | done | with_reducible rfl) ?_)
      refine WO.nil ?_
      first | (refine uK_q ?_) | (refine uK_e (by assumption) ?_)
      refine WU.q rfl ?_
      first | (refine WO.guardT (by simp only [S0, S1, decide_true, decide_false, Nat.reduceEqDiff, reduceIte, Int.reduceEq, Int.reduceLT, Int.reduceLE, *]; first | done | with_reducible rfl) ?_; refine WO.o (SlR.idx' (by first | (simp only [S0, Nat.reduceEqDiff, reduceIte]; first | done | with_reducible rfl) | (simp only [S0, S1, decide_true, decide_false, Nat.reduceEqDiff, reduceIte, Int.reduceEq, Int.reduceLT, Int.reduceLE, *]; first | done | with_reducible rfl)) (by first | (simp only [S0, Nat.reduceEqDiff, reduceIte]; first | done | rfl) | (simp only [S0, S1, decide_true, decide_false, Nat.reduceEqDiff, reduceIte, Int.reduceEq, Int.reduceLT, Int.reduceLE, *]; first | done | rfl)) (by assumption) (by first | omega | assumption | (simp only [List.length_map, List.length_set]; omega))) ?_) | (refine WO.guardF (by simp only [S0, S1, decide_true, decide_false, Nat.reduceEqDiff, reduceIte, Int.reduceEq, Int.reduceLT, Int.reduceLE, *]; first | done | with_reducible rfl) ?_) | (refine WO.guardU (by simp only [S0, S1, decide_true, decide_false, Nat.reduceEqDiff, reduceIte, Int.reduceEq, Int.reduceLT, Int.reduceLE, *]; first | done | with_reducible rfl) ?_)
      refine WO.nil ?_
      first | (refine uK_q ?_) | (refine uK_e (by assumption) ?_)
      refine WU.q rfl ?_
      first | (refine WO.guardT (by simp only [S0, S1, decide_true, decide_false, Nat.reduceEqDiff, reduceIte, Int.reduceEq, Int.reduceLT, Int.reduceLE, *]; first | done | with_reducible rfl) ?_; refine WO.o (fldP (by first | (simp only [S0, Nat.reduceEqDiff, reduceIte]; first | done | with_reducible rfl) | (simp only [S0, S1, decide_true, decide_false, Nat.reduceEqDiff, reduceIte, Int.reduceEq, Int.reduceLT, Int.reduceLE, *]; first | done | with_reducible rfl)) (SlR.some (i := 0) (by assumption) (by first | omega | assumption | (simp only [List.length_map, List.length_set]; omega)))) ?_) | (refine WO.guardF (by simp only [S0, S1, decide_true, decide_false, Nat.reduceEqDiff, reduceIte, Int.reduceEq, Int.reduceLT, Int.reduceLE, *]; first | done | with_reducible rfl) ?_) | (refine WO.guardU (by simp only [S0, S1, decide_true, decide_false, Nat.reduceEqDiff, reduceIte, Int.reduceEq, Int.reduceLT, Int.reduceLE, *]; first | done | with_reducible rfl) ?_)
      refine WO.nil ?_
      first | (refine uK_q ?_) | (refine uK_e (by assumption) ?_)
      refine WU.q rfl ?_
      first | (refine WO.guardT (by simp only [S0, S1, decide_true, decide_false, Nat.reduceEqDiff, reduceIte, Int.reduceEq, Int.reduceLT, Int.reduceLE, *]; first | done | with_reducible rfl) ?_; first | (refine WO.o (Piece.load (by first | (simp only [S0, Nat.reduceEqDiff, reduceIte]; first | done | with_reducible rfl) | (simp only [S0, S1, decide_true, decide_false, Nat.reduceEqDiff, reduceIte, Int.reduceEq, Int.reduceLT, Int.reduceLE, *]; first | done | with_reducible rfl)) (by assumption) (by decide) rfl) ?_) | (refine WO.o (Piece.load0 (by first | (simp only [S0, Nat.reduceEqDiff, reduceIte]; first | done | with_reducible rfl) | (simp only [S0, S1, decide_true, decide_false, Nat.reduceEqDiff, reduceIte, Int.reduceEq, Int.reduceLT, Int.reduceLE, *]; first | done | with_reducible rfl)) (by assumption) (by decide) rfl) ?_)) | (refine WO.guardF (by simp only [S0, S1, decide_true, decide_false, Nat.reduceEqDiff, reduceIte, Int.reduceEq, Int.reduceLT, Int.reduceLE, *]; first | done | with_reducible rfl) ?_) | (refine WO.guardU (by simp only [S0, S1, decide_true, decide_false, Nat.reduceEqDiff, reduceIte, Int.reduceEq, Int.reduceLT, Int.reduceLE, *]; first | done | with_reducible rfl) ?_)
      refine WO.nil ?_
      first | (refine uK_q ?_) | (refine uK_e (by assumption) ?_)
      refine WU.q rfl ?_
      first | (refine WO.guardT (by simp only [S0, S1, decide_true, decide_false, Nat.reduceEqDiff, reduceIte, Int.reduceEq, Int.reduceLT, Int.reduceLE, *]; first | done | with_reducible rfl) ?_; refine WO.o (by simp only [aop, S0, Nat.reduceEqDiff, reduceIte, q5_1]; first | done | with_reducible rfl) ?_) | (refine WO.guardF (by simp only [S0, S1, decide_true, decide_false, Nat.reduceEqDiff, reduceIte, Int.reduceEq, Int.reduceLT, Int.reduceLE, *]; first | done | with_reducible rfl) ?_) | (refine WO.guardU (by simp only [S0, S1, decide_true, decide_false, Nat.reduceEqDiff, reduceIte, Int.reduceEq, Int.reduceLT, Int.reduceLE, *]; first | done | with_reducible rfl) ?_)
      refine WO.nil ?_
      first | (refine uK_q ?_) | (refine uK_e (by assumption) ?_)
      refine WU.q rfl ?_
      first | (refine WO.guardT (by simp only [S0, S1, decide_true, decide_false, Nat.reduceEqDiff, reduceIte, Int.reduceEq, Int.reduceLT, Int.reduceLE, *]; first | done | with_reducible rfl) ?_; refine WO.o (by simp only [aop, S0, Nat.reduceEqDiff, reduceIte, q5_5]; first | done | with_reducible rfl) ?_) | (refine WO.guardF (by simp only [S0, S1, decide_true, decide_false, Nat.reduceEqDiff, reduceIte, Int.reduceEq, Int.reduceLT, Int.reduceLE, *]; first | done | with_reducible rfl) ?_) | (refine WO.guardU (by simp only [S0, S1, decide_true, decide_false, Nat.reduceEqDiff, reduceIte, Int.reduceEq, Int.reduceLT, Int.reduceLE, *]; first | done | with_reducible rfl) ?_)
      refine WO.nil ?_
      first | (refine uK_q ?_) | (refine uK_e (by assumption) ?_)
      refine WU.q rfl ?_
      first | (refine WO.guardT (by simp only [S0, S1, decide_true, decide_false, Nat.reduceEqDiff, reduceIte, Int.reduceEq, Int.reduceLT, Int.reduceLE, *]; first | done | with_reducible rfl) ?_; refine WO.o (SlR.idx' (by first | (simp only [S0, Nat.reduceEqDiff, reduceIte]; first | done | with_reducible rfl) | (simp only [S0, S1, decide_true, decide_false, Nat.reduceEqDiff, reduceIte, Int.reduceEq, Int.reduceLT, Int.reduceLE, *]; first | done | with_reducible rfl)) (by first | (simp only [S0, Nat.reduceEqDiff, reduceIte]; first | done | rfl) | (simp only [S0, S1, decide_true, decide_false, Nat.reduceEqDiff, reduceIte, Int.reduceEq, Int.reduceLT, Int.reduceLE, *]; first | done | rfl)) (by assumption) (by first | omega | assumption | (simp only [List.length_map, List.length_set]; omega))) ?_) | (refine WO.guardF (by simp only [S0, S1, decide_true, decide_false, Nat.reduceEqDiff, reduceIte, Int.reduceEq, Int.reduceLT, Int.reduceLE, *]; first | done | with_reducible rfl) ?_) | (refine WO.guardU (by simp only [S0, S1, decide_true, decide_false, Nat.reduceEqDiff, reduceIte, Int.reduceEq, Int.reduceLT, Int.reduceLE, *]; first | done | with_reducible rfl) ?_)
      refine WO.nil ?_
      first | (refine uK_q ?_) | (refine uK_e (by assumption) ?_)
      refine WU.q rfl ?_
      first | (refine WO.guardT (by simp only [S0, S1, decide_true, decide_false, Nat.reduceEqDiff, reduceIte, Int.reduceEq, Int.reduceLT, Int.reduceLE, *]; first | done | with_reducible rfl) ?_; refine WO.o (fldP (by first | (simp only [S0, Nat.reduceEqDiff, reduceIte]; first | done | with_reducible rfl) | (simp only [S0, S1, decide_true, decide_false, Nat.reduceEqDiff, reduceIte, Int.reduceEq, Int.reduceLT, Int.reduceLE, *]; first | done | with_reducible rfl)) (SlR.some (i := 0) (by assumption) (by first | omega | assumption | (simp only [List.length_map, List.length_set]; omega)))) ?_) | (refine WO.guardF (by simp only [S0, S1, decide_true, decide_false, Nat.reduceEqDiff, reduceIte, Int.reduceEq, Int.reduceLT, Int.reduceLE, *]; first | done | with_reducible rfl) ?_) | (refine WO.guardU (by simp only [S0, S1, decide_true, decide_false, Nat.reduceEqDiff, reduceIte, Int.reduceEq, Int.reduceLT, Int.reduceLE, *]; first | done | with_reducible rfl) ?_)
      refine WO.nil ?_
      first | (refine uK_q ?_) | (refine uK_e (by assumption) ?_)
      refine WU.q rfl ?_
      first | (refine WO.guardT (by simp only [S0, S1, decide_true, decide_false, Nat.reduceEqDiff, reduceIte, Int.reduceEq, Int.reduceLT, Int.reduceLE, *]; first | done | with_reducible rfl) ?_; first | (refine WO.o (Piece.load (by first | (simp only [S0, Nat.reduceEqDiff, reduceIte]; first | done | with_reducible rfl) | (simp only [S0, S1, decide_true, decide_false, Nat.reduceEqDiff, reduceIte, Int.reduceEq, Int.reduceLT, Int.reduceLE, *]; first | done | with_reducible rfl)) (by assumption) (by decide) rfl) ?_) | (refine WO.o (Piece.load0 (by first | (simp only [S0, Nat.reduceEqDiff, reduceIte]; first | done | with_reducible rfl) | (simp only [S0, S1, decide_true, decide_false, Nat.reduceEqDiff, reduceIte, Int.reduceEq, Int.reduceLT, Int.reduceLE, *]; first | done | with_reducible rfl)) (by assumption) (by decide) rfl) ?_)) | (refine WO.guardF (by simp only [S0, S1, decide_true, decide_false, Nat.reduceEqDiff, reduceIte, Int.reduceEq, Int.reduceLT, Int.reduceLE, *]; first | done | with_reducible rfl) ?_) | (refine WO.guardU (by simp only [S0, S1, decide_true, decide_false, Nat.reduceEqDiff, reduceIte, Int.reduceEq, Int.reduceLT, Int.reduceLE, *]; first | done | with_reducible rfl) ?_)
      refine WO.nil ?_
      first | (refine uK_q ?_) | (refine uK_e (by assumption) ?_)
      refine WU.q rfl ?_
      first | (refine WO.guardF (by first | (simp only [S0, Nat.reduceEqDiff, reduceIte]; first | done | with_reducible rfl) | (simp only [S0, S1, decide_true, decide_false, Nat.reduceEqDiff, reduceIte, Int.reduceEq, Int.reduceLT, Int.reduceLE, *]; first | done | with_reducible rfl)) ?_) | (refine WO.guardF (by simp only [S0, S1, decide_true, decide_false, Nat.reduceEqDiff, reduceIte, Int.reduceEq, Int.reduceLT, Int.reduceLE, *]; first | done | with_reducible rfl) ?_)
      refine WO.nil ?_
      first | (refine uK_q ?_) | (refine uK_e (by assumption) ?_)
      refine WU.q rfl ?_
      first | (refine WO.guardT (by simp only [S0, S1, decide_true, decide_false, Nat.reduceEqDiff, reduceIte, Int.reduceEq, Int.reduceLT, Int.reduceLE, *]; first | done | with_reducible rfl) ?_; refine WO.o (by simp only [aop, unV, Option.map_some, S0, S1, decide_true, decide_false, Nat.reduceEqDiff, reduceIte, Int.reduceEq, Int.reduceLT, Int.reduceLE, *]; first | done | with_reducible rfl) ?_) | (refine WO.guardF (by simp only [S0, S1, decide_true, decide_false, Nat.reduceEqDiff, reduceIte, Int.reduceEq, Int.reduceLT, Int.reduceLE, *]; first | done | with_reducible rfl) ?_) | (refine WO.guardU (by simp only [S0, S1, decide_true, decide_false, Nat.reduceEqDiff, reduceIte, Int.reduceEq, Int.reduceLT, Int.reduceLE, *]; first | done | with_reducible rfl) ?_)
      refine WO.nil ?_
      first | (refine uK_q ?_) | (refine uK_e (by assumption) ?_)
      refine WU.q rfl ?_
      refine WO.o (by simp only [aop, pick_or, pick_and, S0, S1, decide_true, decide_false, Nat.reduceEqDiff, reduceIte, Int.reduceEq, Int.reduceLT, Int.reduceLE, *]; first | done | with_reducible rfl) ?_
      refine WO.nil ?_
      first | (refine uK_nil ?_) | (refine uK_ne (by assumption) ?_)
      refine thenK_normal ?_
      first | (refine WX.condT (by simp only [S0, Nat.reduceEqDiff, reduceIte, q5_0, q5_1, q5_5, q5_54, q5_59, q5_60]; first | done | with_reducible rfl) ?_) | (refine WX.condT (by simp only [S0, S1, decide_true, decide_false, Nat.reduceEqDiff, reduceIte, Int.reduceEq, Int.reduceLT, Int.reduceLE, *]; first | done | with_reducible rfl) ?_)
      refine WX.seq ?_
      refine WX.region ?_
      refine WO.o (by simp only [aop, S0, Nat.reduceEqDiff, reduceIte]; first | done | with_reducible rfl) ?_
      refine WO.nil ?_
      refine thenK_normal ?_
      refine WX.ret ?_
      refine blockK_ret ?_
      refine thenK_ret ?_
      refine loopK_ret ?_
      refine blockK_ret ?_
      refine thenK_ret ?_
      first | (refine retK_ret (by simp only [resultsA, resultA, S0, Nat.reduceEqDiff, reduceIte, q5_0, q5_1, q5_5, q5_54, q5_59, q5_60]; rfl) ?_) | (refine retK_ret (by simp only [resultsA, resultA, S0, S1, decide_true, decide_false, Nat.reduceEqDiff, reduceIte, Int.reduceEq, Int.reduceLT, Int.reduceLE, *]; rfl) ?_)
      refine ⟨?_, rfl⟩
      rcases hne with e | e
      · exact absurd (by injection e) c2
      · rw [decide_eq_false e]; rfl
    by_cases c3 : xs = ys
    case neg =>
      refine WX.regionU0 rfl rfl ?_ rfl
      refine WU.q rfl ?_
      refine WO.o (by simp only [aop, S0, Nat.reduceEqDiff, reduceIte, p1_0]; first | done | with_reducible rfl) ?_
      refine WO.nil ?_
      first | (refine uK_q ?_) | (refine uK_e (by assumption) ?_)
      refine WU.q rfl ?_
      refine WO.o (by simp only [aop, S0, Nat.reduceEqDiff, reduceIte, s5]; first | done | with_reducible rfl) ?_
      refine WO.nil ?_
      first | (refine uK_q ?_) | (refine uK_e (by assumption) ?_)
      refine WU.q rfl ?_
      refine WO.o (SlR.idx' (by first | (simp only [S0, Nat.reduceEqDiff, reduceIte]; first | done | with_reducible rfl) | (simp only [S0, S1, decide_true, decide_false, Nat.reduceEqDiff, reduceIte, Int.reduceEq, Int.reduceLT, Int.reduceLE, *]; first | done | with_reducible rfl)) (by first | (simp only [S0, Nat.reduceEqDiff, reduceIte]; first | done | rfl) | (simp only [S0, S1, decide_true, decide_false, Nat.reduceEqDiff, reduceIte, Int.reduceEq, Int.reduceLT, Int.reduceLE, *]; first | done | rfl)) (by assumption) (by first | omega | assumption | (simp only [List.length_map, List.length_set]; omega))) ?_
      refine WO.nil ?_
      first | (refine uK_q ?_) | (refine uK_e (by assumption) ?_)
      refine WU.q rfl ?_
      refine WO.o (fldP (by first | (simp only [S0, Nat.reduceEqDiff, reduceIte]; first | done | with_reducible rfl) | (simp only [S0, S1, decide_true, decide_false, Nat.reduceEqDiff, reduceIte, Int.reduceEq, Int.reduceLT, Int.reduceLE, *]; first | done | with_reducible rfl)) (SlR.some (i := 0) (by assumption) (by first | omega | assumption | (simp only [List.length_map, List.length_set]; omega)))) ?_
      refine WO.nil ?_
      first | (refine uK_q ?_) | (refine uK_e (by assumption) ?_)
      refine WU.q rfl ?_
      first | (refine WO.o (Piece.load (by first | (simp only [S0, Nat.reduceEqDiff, reduceIte]; first | done | with_reducible rfl) | (simp only [S0, S1, decide_true, decide_false, Nat.reduceEqDiff, reduceIte, Int.reduceEq, Int.reduceLT, Int.reduceLE, *]; first | done | with_reducible rfl)) (by assumption) (by decide) rfl) ?_) | (refine WO.o (Piece.load0 (by first | (simp only [S0, Nat.reduceEqDiff, reduceIte]; first | done | with_reducible rfl) | (simp only [S0, S1, decide_true, decide_false, Nat.reduceEqDiff, reduceIte, Int.reduceEq, Int.reduceLT, Int.reduceLE, *]; first | done | with_reducible rfl)) (by assumption) (by decide) rfl) ?_)
      refine WO.nil ?_
      first | (refine uK_q ?_) | (refine uK_e (by assumption) ?_)
      refine WU.q rfl ?_
      refine WO.o (by simp only [aop, S0, Nat.reduceEqDiff, reduceIte, p1_1]; first | done | with_reducible rfl) ?_
      refine WO.nil ?_
      first | (refine uK_q ?_) | (refine uK_e (by assumption) ?_)
      refine WU.q rfl ?_
      refine WO.o (by simp only [aop, S0, Nat.reduceEqDiff, reduceIte, s5]; first | done | with_reducible rfl) ?_
      refine WO.nil ?_
      first | (refine uK_q ?_) | (refine uK_e (by assumption) ?_)
      refine WU.q rfl ?_
      refine WO.o (SlR.idx' (by first | (simp only [S0, Nat.reduceEqDiff, reduceIte]; first | done | with_reducible rfl) | (simp only [S0, S1, decide_true, decide_false, Nat.reduceEqDiff, reduceIte, Int.reduceEq, Int.reduceLT, Int.reduceLE, *]; first | done | with_reducible rfl)) (by first | (simp only [S0, Nat.reduceEqDiff, reduceIte]; first | done | rfl) | (simp only [S0, S1, decide_true, decide_false, Nat.reduceEqDiff, reduceIte, Int.reduceEq, Int.reduceLT, Int.reduceLE, *]; first | done | rfl)) (by assumption) (by first | omega | assumption | (simp only [List.length_map, List.length_set]; omega))) ?_
      refine WO.nil ?_
      first | (refine uK_q ?_) | (refine uK_e (by assumption) ?_)
      refine WU.q rfl ?_
      refine WO.o (fldP (by first | (simp only [S0, Nat.reduceEqDiff, reduceIte]; first | done | with_reducible rfl) | (simp only [S0, S1, decide_true, decide_false, Nat.reduceEqDiff, reduceIte, Int.reduceEq, Int.reduceLT, Int.reduceLE, *]; first | done | with_reducible rfl)) (SlR.some (i := 0) (by assumption) (by first | omega | assumption | (simp only [List.length_map, List.length_set]; omega)))) ?_
      refine WO.nil ?_
      first | (refine uK_q ?_) | (refine uK_e (by assumption) ?_)
      refine WU.q rfl ?_
      first | (refine WO.o (Piece.load (by first | (simp only [S0, Nat.reduceEqDiff, reduceIte]; first | done | with_reducible rfl) | (simp only [S0, S1, decide_true, decide_false, Nat.reduceEqDiff, reduceIte, Int.reduceEq, Int.reduceLT, Int.reduceLE, *]; first | done | with_reducible rfl)) (by assumption) (by decide) rfl) ?_) | (refine WO.o (Piece.load0 (by first | (simp only [S0, Nat.reduceEqDiff, reduceIte]; first | done | with_reducible rfl) | (simp only [S0, S1, decide_true, decide_false, Nat.reduceEqDiff, reduceIte, Int.reduceEq, Int.reduceLT, Int.reduceLE, *]; first | done | with_reducible rfl)) (by assumption) (by decide) rfl) ?_)
      refine WO.nil ?_
      first | (refine uK_q ?_) | (refine uK_e (by assumption) ?_)
      refine WU.q rfl ?_
      refine WO.o (by simp only [aop, binV_neq, Option.map_some, S0, S1, decide_true, decide_false, Nat.reduceEqDiff, reduceIte, Int.reduceEq, Int.reduceLT, Int.reduceLE, *]; first | done | with_reducible rfl) ?_
      refine WO.nil ?_
      first | (refine uK_q ?_) | (refine uK_e (by assumption) ?_)
      refine WU.q rfl ?_
      refine WO.o (by simp only [aop, S0, Nat.reduceEqDiff, reduceIte]; first | done | with_reducible rfl) ?_
      refine WO.nil ?_
      first | (refine uK_q ?_) | (refine uK_e (by assumption) ?_)
      refine WU.q rfl ?_
      first | (refine WO.guardT (by simp only [S0, S1, decide_true, decide_false, Nat.reduceEqDiff, reduceIte, Int.reduceEq, Int.reduceLT, Int.reduceLE, *]; first | done | with_reducible rfl) ?_; refine WO.o (by simp only [aop, S0, Nat.reduceEqDiff, reduceIte, p1_0]; first | done | with_reducible rfl) ?_) | (refine WO.guardF (by simp only [S0, S1, decide_true, decide_false, Nat.reduceEqDiff, reduceIte, Int.reduceEq, Int.reduceLT, Int.reduceLE, *]; first | done | with_reducible rfl) ?_) | (refine WO.guardU (by simp only [S0, S1, decide_true, decide_false, Nat.reduceEqDiff, reduceIte, Int.reduceEq, Int.reduceLT, Int.reduceLE, *]; first | done | with_reducible rfl) ?_)
      refine WO.nil ?_
      first | (refine uK_q ?_) | (refine uK_e (by assumption) ?_)
      refine WU.q rfl ?_
      first | (refine WO.guardT (by simp only [S0, S1, decide_true, decide_false, Nat.reduceEqDiff, reduceIte, Int.reduceEq, Int.reduceLT, Int.reduceLE, *]; first | done | with_reducible rfl) ?_; refine WO.o (by simp only [aop, S0, Nat.reduceEqDiff, reduceIte, s5]; first | done | with_reducible rfl) ?_) | (refine WO.guardF (by simp only [S0, S1, decide_true, decide_false, Nat.reduceEqDiff, reduceIte, Int.reduceEq, Int.reduceLT, Int.reduceLE, *]; first | done | with_reducible rfl) ?_) | (refine WO.guardU (by simp only [S0, S1, decide_true, decide_false, Nat.reduceEqDiff, reduceIte, Int.reduceEq, Int.reduceLT, Int.reduceLE, *]; first | done | with_reducible rfl) ?_)
      refine WO.nil ?_
      first | (refine uK_q ?_) | (refine uK_e (by assumption) ?_)
      refine WU.q rfl ?_
      first | (refine WO.guardT (by simp only [S0, S1, decide_true, decide_false, Nat.reduceEqDiff, reduceIte, Int.reduceEq, Int.reduceLT, Int.reduceLE, *]; first | done | with_reducible rfl) ?_; refine WO.o (SlR.idx' (by first | (simp only [S0, Nat.reduceEqDiff, reduceIte]; first | done | with_reducible rfl) | (simp only [S0, S1, decide_true, decide_false, Nat.reduceEqDiff, reduceIte, Int.reduceEq, Int.reduceLT, Int.reduceLE, *]; first | done | with_reducible rfl)) (by first | (simp only [S0, Nat.reduceEqDiff, reduceIte]; first | done | rfl) | (simp only [S0, S1, decide_true, decide_false, Nat.reduceEqDiff, reduceIte, Int.reduceEq, Int.reduceLT, Int.reduceLE, *]; first | done | rfl)) (by assumption) (by first | omega | assumption | (simp only [List.length_map, List.length_set]; omega))) ?_) | (refine WO.guardF (by simp only [S0, S1, decide_true, decide_false, Nat.reduceEqDiff, reduceIte, Int.reduceEq, Int.reduceLT, Int.reduceLE, *]; first | done | with_reducible rfl) ?_) | (refine WO.guardU (by simp only [S0, S1, decide_true, decide_false, Nat.reduceEqDiff, reduceIte, Int.reduceEq, Int.reduceLT, Int.reduceLE, *]; first | done | with_reducible rfl) ?_)
      refine WO.nil ?_
      first | (refine uK_q ?_) | (refine uK_e (by assumption) ?_)
      refine WU.q rfl ?_
      first | (refine WO.guardT (by simp only [S0, S1, decide_true, decide_false, Nat.reduceEqDiff, reduceIte, Int.reduceEq, Int.reduceLT, Int.reduceLE, *]; first | done | with_reducible rfl) ?_; refine WO.o (fldP (by first | (simp only [S0, Nat.reduceEqDiff, reduceIte]; first | done | with_reducible rfl) | (simp only [S0, S1, decide_true, decide_false, Nat.reduceEqDiff, reduceIte, Int.reduceEq, Int.reduceLT, Int.reduceLE, *]; first | done | with_reducible rfl)) (SlR.some (i := 0) (by assumption) (by first | omega | assumption | (simp only [List.length_map, List.length_set]; omega)))) ?_) | (refine WO.guardF (by simp only [S0, S1, decide_true, decide_false, Nat.reduceEqDiff, reduceIte, Int.reduceEq, Int.reduceLT, Int.reduceLE, *]; first | done | with_reducible rfl) ?_) | (refine WO.guardU (by simp only [S0, S1, decide_true, decide_false, Nat.reduceEqDiff, reduceIte, Int.reduceEq, Int.reduceLT, Int.reduceLE, *]; first | done | with_reducible rfl) ?_)
      refine WO.nil ?_
      first | (refine uK_q ?_) | (refine uK_e (by assumption) ?_)
      refine WU.q rfl ?_
      first | (refine WO.guardT (by simp only [S0, S1, decide_true, decide_false, Nat.reduceEqDiff, reduceIte, Int.reduceEq, Int.reduceLT, Int.reduceLE, *]; first | done | with_reducible rfl) ?_; first | (refine WO.o (Piece.load (by first | (simp only [S0, Nat.reduceEqDiff, reduceIte]; first | done | with_reducible rfl) | (simp only [S0, S1, decide_true, decide_false, Nat.reduceEqDiff, reduceIte, Int.reduceEq, Int.reduceLT, Int.reduceLE, *]; first | done | with_reducible rfl)) (by assumption) (by decide) rfl) ?_) | (refine WO.o (Piece.load0 (by first | (simp only [S0, Nat.reduceEqDiff, reduceIte]; first | done | with_reducible rfl) | (simp only [S0, S1, decide_true, decide_false, Nat.reduceEqDiff, reduceIte, Int.reduceEq, Int.reduceLT, Int.reduceLE, *]; first | done | with_reducible rfl)) (by assumption) (by decide) rfl) ?_)) | (refine WO.guardF (by simp only [S0, S1, decide_true, decide_false, Nat.reduceEqDiff, reduceIte, Int.reduceEq, Int.reduceLT, Int.reduceLE, *]; first | done | with_reducible rfl) ?_) | (refine WO.guardU (by simp only [S0, S1, decide_true, decide_false, Nat.reduceEqDiff, reduceIte, Int.reduceEq, Int.reduceLT, Int.reduceLE, *]; first | done | with_reducible rfl) ?_)
      refine WO.nil ?_
      first | (refine uK_q ?_) | (refine uK_e (by assumption) ?_)
      refine WU.q rfl ?_
      first | (refine WO.guardT (by simp only [S0, S1, decide_true, decide_false, Nat.reduceEqDiff, reduceIte, Int.reduceEq, Int.reduceLT, Int.reduceLE, *]; first | done | with_reducible rfl) ?_; refine WO.o (by simp only [aop, S0, Nat.reduceEqDiff, reduceIte, p1_1]; first | done | with_reducible rfl) ?_) | (refine WO.guardF (by simp only [S0, S1, decide_true, decide_false, Nat.reduceEqDiff, reduceIte, Int.reduceEq, Int.reduceLT, Int.reduceLE, *]; first | done | with_reducible rfl) ?_) | (refine WO.guardU (by simp only [S0, S1, decide_true, decide_false, Nat.reduceEqDiff, reduceIte, Int.reduceEq, Int.reduceLT, Int.reduceLE, *]; first | done | with_reducible rfl) ?_)
      refine WO.nil ?_
      first | (refine uK_q ?_) | (refine uK_e (by assumption) ?_)
      refine WU.q rfl ?_
      first | (refine WO.guardT (by simp only [S0, S1, decide_true, decide_false, Nat.reduceEqDiff, reduceIte, Int.reduceEq, Int.reduceLT, Int.reduceLE, *]; first | done | with_reducible rfl) ?_; refine WO.o (by simp only [aop, S0, Nat.reduceEqDiff, reduceIte, s5]; first | done | with_reducible rfl) ?_) | (refine WO.guardF (by simp only [S0, S1, decide_true, decide_false, Nat.reduceEqDiff, reduceIte, Int.reduceEq, Int.reduceLT, Int.reduceLE, *]; first | done | with_reducible rfl) ?_) | (refine WO.guardU (by simp only [S0, S1, decide_true, decide_false, Nat.reduceEqDiff, reduceIte, Int.reduceEq, Int.reduceLT, Int.reduceLE, *]; first | done | with_reducible rfl) ?_)
      refine WO.nil ?_
      first | (refine uK_q ?_) | (refine uK_e (by assumption) ?_)
      refine WU.q rfl ?_
      first | (refine WO.guardT (by simp only [S0, S1, decide_true, decide_false, Nat.reduceEqDiff, reduceIte, Int.reduceEq, Int.reduceLT, Int.reduceLE, *]; first | done | with_reducible rfl) ?_; refine WO.o (SlR.idx' (by first | (simp only [S0, Nat.reduceEqDiff, reduceIte]; first | done | with_reducible rfl) | (simp only [S0, S1, decide_true, decide_false, Nat.reduceEqDiff, reduceIte, Int.reduceEq, Int.reduceLT, Int.reduceLE, *]; first | done | with_reducible rfl)) (by first | (simp only [S0, Nat.reduceEqDiff, reduceIte]; first | done | rfl) | (simp only [S0, S1, decide_true, decide_false, Nat.reduceEqDiff, reduceIte, Int.reduceEq, Int.reduceLT, Int.reduceLE, *]; first | done | rfl)) (by assumption) (by first | omega | assumption | (simp only [List.length_map, List.length_set]; omega))) ?_) | (refine WO.guardF (by simp only [S0, S1, decide_true, decide_false, Nat.reduceEqDiff, reduceIte, Int.reduceEq, Int.reduceLT, Int.reduceLE, *]; first | done | with_reducible rfl) ?_) | (refine WO.guardU (by simp only [S0, S1, decide_true, decide_false, Nat.reduceEqDiff, reduceIte, Int.reduceEq, Int.reduceLT, Int.reduceLE, *]; first | done | with_reducible rfl) ?_)
      refine WO.nil ?_
      first | (refine uK_q ?_) | (refine uK_e (by assumption) ?_)
      refine WU.q rfl ?_
      refine WO.abs fun t6_ ht6_ => ?_
      have q6_0 := (ht6_ 0).trans (by simp only [S0, Nat.reduceEqDiff, reduceIte, p1_0]; first | done | with_reducible rfl)
      have q6_1 := (ht6_ 1).trans (by simp only [S0, Nat.reduceEqDiff, reduceIte, p1_1]; first | done | with_reducible rfl)
      have q6_5 := (ht6_ 5).trans (by simp only [S0, Nat.reduceEqDiff, reduceIte, s5]; first | done | with_reducible rfl)
      have q6_28 := (ht6_ 28).trans (by simp only [S0, Nat.reduceEqDiff, reduceIte]; first | done | with_reducible rfl)
      have q6_33 := (ht6_ 33).trans (by simp only [S0, Nat.reduceEqDiff, reduceIte]; first | done | with_reducible rfl)
      have q6_36 := (ht6_ 36).trans (by simp only [S0, Nat.reduceEqDiff, reduceIte]; first | done | with_reducible rfl)
      clear ht6_
      clear p1_0 p1_1 s5
      first | (refine WO.guardT (by simp only [S0, S1, decide_true, decide_false, Nat.reduceEqDiff, reduceIte, Int.reduceEq, Int.reduceLT, Int.reduceLE, *]; first | done | with_reducible rfl) ?_; refine WO.o (fldP (by first | (simp only [S0, Nat.reduceEqDiff, reduceIte, q6_28, q6_36]; first | done | with_reducible rfl) | (simp only [S0, S1, decide_true, decide_false, Nat.reduceEqDiff, reduceIte, Int.reduceEq, Int.reduceLT, Int.reduceLE, *]; first | done | with_reducible rfl)) (SlR.some (i := 0) (by assumption) (by first | omega | assumption | (simp only [List.length_map, List.length_set]; omega)))) ?_) | (refine WO.guardF (by simp only [S0, S1, decide_true, decide_false, Nat.reduceEqDiff, reduceIte, Int.reduceEq, Int.reduceLT, Int.reduceLE, *]; first | done | with_reducible rfl) ?_) | (refine WO.guardU (by simp only [S0, S1, decide_true, decide_false, Nat.reduceEqDiff, reduceIte, Int.reduceEq, Int.reduceLT, Int.reduceLE, *]; first | done | with_reducible rfl) ?_)
      refine WO.nil ?_
      first | (refine uK_q ?_) | (refine uK_e (by assumption) ?_)
      refine WU.q rfl ?_
      first | (refine WO.guardT (by simp only [S0, S1, decide_true, decide_false, Nat.reduceEqDiff, reduceIte, Int.reduceEq, Int.reduceLT, Int.reduceLE, *]; first | done | with_reducible rfl) ?_; first | (refine WO.o (Piece.load (by first | (simp only [S0, Nat.reduceEqDiff, reduceIte, q6_28]; first | done | with_reducible rfl) | (simp only [S0, S1, decide_true, decide_false, Nat.reduceEqDiff, reduceIte, Int.reduceEq, Int.reduceLT, Int.reduceLE, *]; first | done | with_reducible rfl)) (by assumption) (by decide) rfl) ?_) | (refine WO.o (Piece.load0 (by first | (simp only [S0, Nat.reduceEqDiff, reduceIte, q6_28]; first | done | with_reducible rfl) | (simp only [S0, S1, decide_true, decide_false, Nat.reduceEqDiff, reduceIte, Int.reduceEq, Int.reduceLT, Int.reduceLE, *]; first | done | with_reducible rfl)) (by assumption) (by decide) rfl) ?_)) | (refine WO.guardF (by simp only [S0, S1, decide_true, decide_false, Nat.reduceEqDiff, reduceIte, Int.reduceEq, Int.reduceLT, Int.reduceLE, *]; first | done | with_reducible rfl) ?_) | (refine WO.guardU (by simp only [S0, S1, decide_true, decide_false, Nat.reduceEqDiff, reduceIte, Int.reduceEq, Int.reduceLT, Int.reduceLE, *]; first | done | with_reducible rfl) ?_)
      refine WO.nil ?_
      first | (refine uK_q ?_) | (refine uK_e (by assumption) ?_)
      refine WU.q rfl ?_
      first | (refine WO.guardT (by simp only [S0, S1, decide_true, decide_false, Nat.reduceEqDiff, reduceIte, Int.reduceEq, Int.reduceLT, Int.reduceLE, *]; first | done | with_reducible rfl) ?_; refine WO.o (by simp only [aop, binV_neq, Option.map_some, S0, S1, decide_true, decide_false, Nat.reduceEqDiff, reduceIte, Int.reduceEq, Int.reduceLT, Int.reduceLE, *]; first | done | with_reducible rfl) ?_) | (refine WO.guardF (by simp only [S0, S1, decide_true, decide_false, Nat.reduceEqDiff, reduceIte, Int.reduceEq, Int.reduceLT, Int.reduceLE, *]; first | done | with_reducible rfl) ?_) | (refine WO.guardU (by simp only [S0, S1, decide_true, decide_false, Nat.reduceEqDiff, reduceIte, Int.reduceEq, Int.reduceLT, Int.reduceLE, *]; first | done | with_reducible rfl) ?_)
      refine WO.nil ?_
      first | (refine uK_q ?_) | (refine uK_e (by assumption) ?_)
      refine WU.q rfl ?_
      refine WO.o (by simp only [aop, pick_or, pick_and, S0, S1, decide_true, decide_false, Nat.reduceEqDiff, reduceIte, Int.reduceEq, Int.reduceLT, Int.reduceLE, *]; first | done | with_reducible rfl) ?_
      refine WO.nil ?_
      first | (refine uK_q ?_) | (refine uK_e (by assumption) ?_)
      refine WU.q rfl ?_
      refine WO.o (by simp only [aop, S0, Nat.reduceEqDiff, reduceIte]; first | done | with_reducible rfl) ?_
      refine WO.nil ?_
      first | (refine uK_q ?_) | (refine uK_e (by assumption) ?_)
      refine WU.q rfl ?_
      first | (refine WO.guardT (by simp only [S0, S1, decide_true, decide_false, Nat.reduceEqDiff, reduceIte, Int.reduceEq, Int.reduceLT, Int.reduceLE, *]; first | done | with_reducible rfl) ?_; refine WO.o (by simp only [aop, S0, Nat.reduceEqDiff, reduceIte, q6_0]; first | done | with_reducible rfl) ?_) | (refine WO.guardF (by simp only [S0, S1, decide_true, decide_false, Nat.reduceEqDiff, reduceIte, Int.reduceEq, Int.reduceLT, Int.reduceLE, *]; first | done | with_reducible rfl) ?_) | (refine WO.guardU (by simp only [S0, S1, decide_true, decide_false, Nat.reduceEqDiff, reduceIte, Int.reduceEq, Int.reduceLT, Int.reduceLE, *]; first | done | with_reducible rfl) ?_)
      refine WO.nil ?_
      first | (refine uK_q ?_) | (refine uK_e (by assumption) ?_)
      refine WU.q rfl ?_
      first | (refine WO.guardT (by simp only [S0, S1, decide_true, decide_false, Nat.reduceEqDiff, reduceIte, Int.reduceEq, Int.reduceLT, Int.reduceLE, *]; first | done | with_reducible rfl) ?_; refine WO.o (by simp only [aop, S0, Nat.reduceEqDiff, reduceIte, q6_5]; first | done | with_reducible rfl) ?_) | (refine WO.guardF (by simp only [S0, S1, decide_true, decide_false, Nat.reduceEqDiff, reduceIte, Int.reduceEq, Int.reduceLT, Int.reduceLE, *]; first | done | with_reducible rfl) ?_) | (refine WO.guardU (by simp only [S0, S1, decide_true, decide_false, Nat.reduceEqDiff, reduceIte, Int.reduceEq, Int.reduceLT, Int.reduceLE, *]; first | done | with_reducible rfl) ?_)
      refine WO.nil ?_
      first | (refine uK_q ?_) | (refine uK_e (by assumption) ?_)
      refine WU.q rfl ?_
      first | (refine WO.guardT (by simp only [S0, S1, decide_true, decide_false, Nat.reduceEqDiff, reduceIte, Int.reduceEq, Int.reduceLT, Int.reduceLE, *]; first | done | with_reducible rfl) ?_; refine WO.o (SlR.idx' (by first | (simp only [S0, Nat.reduceEqDiff, reduceIte]; first | done | with_reducible rfl) | (simp only [S0, S1, decide_true, decide_false, Nat.reduceEqDiff, reduceIte, Int.reduceEq, Int.reduceLT, Int.reduceLE, *]; first | done | with_reducible rfl)) (by first | (simp only [S0, Nat.reduceEqDiff, reduceIte]; first | done | rfl) | (simp only [S0, S1, decide_true, decide_false, Nat.reduceEqDiff, reduceIte, Int.reduceEq, Int.reduceLT, Int.reduceLE, *]; first | done | rfl)) (by assumption) (by first | omega | assumption | (simp only [List.length_map, List.length_set]; omega))) ?_) | (refine WO.guardF (by simp only [S0, S1, decide_true, decide_false, Nat.reduceEqDiff, reduceIte, Int.reduceEq, Int.reduceLT, Int.reduceLE, *]; first | done | with_reducible rfl) ?_) | (refine WO.guardU (by simp only [S0, S1, decide_true, decide_false, Nat.reduceEqDiff, reduceIte, Int.reduceEq, Int.reduceLT, Int.reduceLE, *]; first | done | with_reducible rfl) ?_)
      refine WO.nil ?_
      first | (refine uK_q ?_) | (refine uK_e (by assumption) ?_)
      refine WU.q rfl ?_
      first | (refine WO.guardT (by simp only [S0, S1, decide_true, decide_false, Nat.reduceEqDiff, reduceIte, Int.reduceEq, Int.reduceLT, Int.reduceLE, *]; first | done | with_reducible rfl) ?_; refine WO.o (fldP (by first | (simp only [S0, Nat.reduceEqDiff, reduceIte]; first | done | with_reducible rfl) | (simp only [S0, S1, decide_true, decide_false, Nat.reduceEqDiff, reduceIte, Int.reduceEq, Int.reduceLT, Int.reduceLE, *]; first | done | with_reducible rfl)) (SlR.some (i := 0) (by assumption) (by first | omega | assumption | (simp only [List.length_map, List.length_set]; omega)))) ?_) | (refine WO.guardF (by simp only [S0, S1, decide_true, decide_false, Nat.reduceEqDiff, reduceIte, Int.reduceEq, Int.reduceLT, Int.reduceLE, *]; first | done | with_reducible rfl) ?_) | (refine WO.guardU (by simp only [S0, S1, decide_true, decide_false, Nat.reduceEqDiff, reduceIte, Int.reduceEq, Int.reduceLT, Int.reduceLE, *]; first | done | with_reducible rfl) ?_)
      refine WO.nil ?_
      first | (refine uK_q ?_) | (refine uK_e (by assumption) ?_)
      refine WU.q rfl ?_
      first | (refine WO.guardT (by simp only [S0, S1, decide_true, decide_false, Nat.reduceEqDiff, reduceIte, Int.reduceEq, Int.reduceLT, Int.reduceLE, *]; first | done | with_reducible rfl) ?_; first | (refine WO.o (Piece.load (by first | (simp only [S0, Nat.reduceEqDiff, reduceIte]; first | done | with_reducible rfl) | (simp only [S0, S1, decide_true, decide_false, Nat.reduceEqDiff, reduceIte, Int.reduceEq, Int.reduceLT, Int.reduceLE, *]; first | done | with_reducible rfl)) (by assumption) (by decide) rfl) ?_) | (refine WO.o (Piece.load0 (by first | (simp only [S0, Nat.reduceEqDiff, reduceIte]; first | done | with_reducible rfl) | (simp only [S0, S1, decide_true, decide_false, Nat.reduceEqDiff, reduceIte, Int.reduceEq, Int.reduceLT, Int.reduceLE, *]; first | done | with_reducible rfl)) (by assumption) (by decide) rfl) ?_)) | (refine WO.guardF (by simp only [S0, S1, decide_true, decide_false, Nat.reduceEqDiff, reduceIte, Int.reduceEq, Int.reduceLT, Int.reduceLE, *]; first | done | with_reducible rfl) ?_) | (refine WO.guardU (by simp only [S0, S1, decide_true, decide_false, Nat.reduceEqDiff, reduceIte, Int.reduceEq, Int.reduceLT, Int.reduceLE, *]; first | done | with_reducible rfl) ?_)
      refine WO.nil ?_
      first | (refine uK_q ?_) | (refine uK_e (by assumption) ?_)
      refine WU.q rfl ?_
      first | (refine WO.guardT (by simp only [S0, S1, decide_true, decide_false, Nat.reduceEqDiff, reduceIte, Int.reduceEq, Int.reduceLT, Int.reduceLE, *]; first | done | with_reducible rfl) ?_; refine WO.o (by simp only [aop, S0, Nat.reduceEqDiff, reduceIte, q6_1]; first | done | with_reducible rfl) ?_) | (refine WO.guardF (by simp only [S0, S1, decide_true, decide_false, Nat.reduceEqDiff, reduceIte, Int.reduceEq, Int.reduceLT, Int.reduceLE, *]; first | done | with_reducible rfl) ?_) | (refine WO.guardU (by simp only [S0, S1, decide_true, decide_false, Nat.reduceEqDiff, reduceIte, Int.reduceEq, Int.reduceLT, Int.reduceLE, *]; first | done | with_reducible rfl) ?_)
      refine WO.nil ?_
      first | (refine uK_q ?_) | (refine uK_e (by assumption) ?_)
      refine WU.q rfl ?_
      first | (refine WO.guardT (by simp only [S0, S1, decide_true, decide_false, Nat.reduceEqDiff, reduceIte, Int.reduceEq, Int.reduceLT, Int.reduceLE, *]; first | done | with_reducible rfl) ?_; refine WO.o (by simp only [aop, S0, Nat.reduceEqDiff, reduceIte, q6_5]; first | done | with_reducible rfl) ?_) | (refine WO.guardF (by simp only [S0, S1, decide_true, decide_false, Nat.reduceEqDiff, reduceIte, Int.reduceEq, Int.reduceLT, Int.reduceLE, *]; first | done | with_reducible rfl) ?_) | (refine WO.guardU (by simp only [S0, S1, decide_true, decide_false, Nat.reduceEqDiff, reduceIte, Int.reduceEq, Int.reduceLT, Int.reduceLE, *]; first | done | with_reducible rfl) ?_)
      refine WO.nil ?_
      first | (refine uK_q ?_) | (refine uK_e (by assumption) ?_)
      refine WU.q rfl ?_
      first | (refine WO.guardT (by simp only [S0, S1, decide_true, decide_false, Nat.reduceEqDiff, reduceIte, Int.reduceEq, Int.reduceLT, Int.reduceLE, *]; first | done | with_reducible rfl) ?_; refine WO.o (SlR.idx' (by first | (simp only [S0, Nat.reduceEqDiff, reduceIte]; first | done | with_reducible rfl) | (simp only [S0, S1, decide_true, decide_false, Nat.reduceEqDiff, reduceIte, Int.reduceEq, Int.reduceLT, Int.reduceLE, *]; first | done | with_reducible rfl)) (by first | (simp only [S0, Nat.reduceEqDiff, reduceIte]; first | done | rfl) | (simp only [S0, S1, decide_true, decide_false, Nat.reduceEqDiff, reduceIte, Int.reduceEq, Int.reduceLT, Int.reduceLE, *]; first | done | rfl)) (by assumption) (by first | omega | assumption | (simp only [List.length_map, List.length_set]; omega))) ?_) | (refine WO.guardF (by simp only [S0, S1, decide_true, decide_false, Nat.reduceEqDiff, reduceIte, Int.reduceEq, Int.reduceLT, Int.reduceLE, *]; first | done | with_reducible rfl) ?_) | (refine WO.guardU (by simp only [S0, S1, decide_true, decide_false, Nat.reduceEqDiff, reduceIte, Int.reduceEq, Int.reduceLT, Int.reduceLE, *]; first | done | with_reducible rfl) ?_)
      refine WO.nil ?_
      first | (refine uK_q ?_) | (refine uK_e (by assumption) ?_)
      refine WU.q rfl ?_
      first | (refine WO.guardT (by simp only [S0, S1, decide_true, decide_false, Nat.reduceEqDiff, reduceIte, Int.reduceEq, Int.reduceLT, Int.reduceLE, *]; first | done | with_reducible rfl) ?_; refine WO.o (fldP (by first | (simp only [S0, Nat.reduceEqDiff, reduceIte]; first | done | with_reducible rfl) | (simp only [S0, S1, decide_true, decide_false, Nat.reduceEqDiff, reduceIte, Int.reduceEq, Int.reduceLT, Int.reduceLE, *]; first | done | with_reducible rfl)) (SlR.some (i := 0) (by assumption) (by first | omega | assumption | (simp only [List.length_map, List.length_set]; omega)))) ?_) | (refine WO.guardF (by simp only [S0, S1, decide_true, decide_false, Nat.reduceEqDiff, reduceIte, Int.reduceEq, Int.reduceLT, Int.reduceLE, *]; first | done | with_reducible rfl) ?_) | (refine WO.guardU (by simp only [S0, S1, decide_true, decide_false, Nat.reduceEqDiff, reduceIte, Int.reduceEq, Int.reduceLT, Int.reduceLE, *]; first | done | with_reducible rfl) ?_)
      refine WO.nil ?_
      first | (refine uK_q ?_) | (refine uK_e (by assumption) ?_)
      refine WU.q rfl ?_
      first | (refine WO.guardT (by simp only [S0, S1, decide_true, decide_false, Nat.reduceEqDiff, reduceIte, Int.reduceEq, Int.reduceLT, Int.reduceLE, *]; first | done | with_reducible rfl) ?_; first | (refine WO.o (Piece.load (by first | (simp only [S0, Nat.reduceEqDiff, reduceIte]; first | done | with_reducible rfl) | (simp only [S0, S1, decide_true, decide_false, Nat.reduceEqDiff, reduceIte, Int.reduceEq, Int.reduceLT, Int.reduceLE, *]; first | done | with_reducible rfl)) (by assumption) (by decide) rfl) ?_) | (refine WO.o (Piece.load0 (by first | (simp only [S0, Nat.reduceEqDiff, reduceIte]; first | done | with_reducible rfl) | (simp only [S0, S1, decide_true, decide_false, Nat.reduceEqDiff, reduceIte, Int.reduceEq, Int.reduceLT, Int.reduceLE, *]; first | done | with_reducible rfl)) (by assumption) (by decide) rfl) ?_)) | (refine WO.guardF (by simp only [S0, S1, decide_true, decide_false, Nat.reduceEqDiff, reduceIte, Int.reduceEq, Int.reduceLT, Int.reduceLE, *]; first | done | with_reducible rfl) ?_) | (refine WO.guardU (by simp only [S0, S1, decide_true, decide_false, Nat.reduceEqDiff, reduceIte, Int.reduceEq, Int.reduceLT, Int.reduceLE, *]; first | done | with_reducible rfl) ?_)
      refine WO.nil ?_
      first | (refine uK_q ?_) | (refine uK_e (by assumption) ?_)
      refine WU.q rfl ?_
      first | (refine WO.guardT (by simp only [S0, S1, decide_true, decide_false, Nat.reduceEqDiff, reduceIte, Int.reduceEq, Int.reduceLT, Int.reduceLE, *]; first | done | with_reducible rfl) ?_; refine WO.o (by simp only [aop, binV_neq, Option.map_some, S0, S1, decide_true, decide_false, Nat.reduceEqDiff, reduceIte, Int.reduceEq, Int.reduceLT, Int.reduceLE, *]; first | done | with_reducible rfl) ?_) | (refine WO.guardF (by simp only [S0, S1, decide_true, decide_false, Nat.reduceEqDiff, reduceIte, Int.reduceEq, Int.reduceLT, Int.reduceLE, *]; first | done | with_reducible rfl) ?_) | (refine WO.guardU (by simp only [S0, S1, decide_true, decide_false, Nat.reduceEqDiff, reduceIte, Int.reduceEq, Int.reduceLT, Int.reduceLE, *]; first | done | with_reducible rfl) ?_)
      refine WO.nil ?_
      first | (refine uK_q ?_) | (refine uK_e (by assumption) ?_)
      refine WU.q rfl ?_
      refine WO.o (by simp only [aop, pick_or, pick_and, S0, S1, decide_true, decide_false, Nat.reduceEqDiff, reduceIte, Int.reduceEq, Int.reduceLT, Int.reduceLE, *]; first | done | with_reducible rfl) ?_
      refine WO.nil ?_
      first | (refine uK_q ?_) | (refine uK_e (by assumption) ?_)
      refine WU.q rfl ?_
      refine WO.o (by simp only [aop, S0, Nat.reduceEqDiff, reduceIte]; first | done | with_reducible rfl) ?_
      refine WO.nil ?_
      first | (refine uK_q ?_) | (refine uK_e (by assumption) ?_)
      refine WU.q rfl ?_
      first | (refine WO.guardT (by simp only [S0, S1, decide_true, decide_false, Nat.reduceEqDiff, reduceIte, Int.reduceEq, Int.reduceLT, Int.reduceLE, *]; first | done | with_reducible rfl) ?_; refine WO.o (by simp only [aop, S0, Nat.reduceEqDiff, reduceIte, q6_0]; first | done | with_reducible rfl) ?_) | (refine WO.guardF (by simp only [S0, S1, decide_true, decide_false, Nat.reduceEqDiff, reduceIte, Int.reduceEq, Int.reduceLT, Int.reduceLE, *]; first | done | with_reducible rfl) ?_) | (refine WO.guardU (by simp only [S0, S1, decide_true, decide_false, Nat.reduceEqDiff, reduceIte, Int.reduceEq, Int.reduceLT, Int.reduceLE, *]; first | done | with_reducible rfl) ?_)
      refine WO.nil ?_
      first | (refine uK_q ?_) | (refine uK_e (by assumption) ?_)
      refine WU.q rfl ?_
      first | (refine WO.guardT (by simp only [S0, S1, decide_true, decide_false, Nat.reduceEqDiff, reduceIte, Int.reduceEq, Int.reduceLT, Int.reduceLE, *]; first | done | with_reducible rfl) ?_; refine WO.o (by simp only [aop, S0, Nat.reduceEqDiff, reduceIte, q6_5]; first | done | with_reducible rfl) ?_) | (refine WO.guardF (by simp only [S0, S1, decide_true, decide_false, Nat.reduceEqDiff, reduceIte, Int.reduceEq, Int.reduceLT, Int.reduceLE, *]; first | done | with_reducible rfl) ?_) | (refine WO.guardU (by simp only [S0, S1, decide_true, decide_false, Nat.reduceEqDiff, reduceIte, Int.reduceEq, Int.reduceLT, Int.reduceLE, *]; first | done | with_reducible rfl) ?_)
      refine WO.nil ?_
      first | (refine uK_q ?_) | (refine uK_e (by assumption) ?_)
      refine WU.q rfl ?_
      first | (refine WO.guardT (by simp only [S0, S1, decide_true, decide_false, Nat.reduceEqDiff, reduceIte, Int.reduceEq, Int.reduceLT, Int.reduceLE, *]; first | done | with_reducible rfl) ?_; refine WO.o (SlR.idx' (by first | (simp only [S0, Nat.reduceEqDiff, reduceIte]; first | done | with_reducible rfl) | (simp only [S0, S1, decide_true, decide_false, Nat.reduceEqDiff, reduceIte, Int.reduceEq, Int.reduceLT, Int.reduceLE, *]; first | done | with_reducible rfl)) (by first | (simp only [S0, Nat.reduceEqDiff, reduceIte]; first | done | rfl) | (simp only [S0, S1, decide_true, decide_false, Nat.reduceEqDiff, reduceIte, Int.reduceEq, Int.reduceLT, Int.reduceLE, *]; first | done | rfl)) (by assumption) (by first | omega | assumption | (simp only [List.length_map, List.length_set]; omega))) ?_) | (refine WO.guardF (by simp only [S0, S1, decide_true, decide_false, Nat.reduceEqDiff, reduceIte, Int.reduceEq, Int.reduceLT, Int.reduceLE, *]; first | done | with_reducible rfl) ?_) | (refine WO.guardU (by simp only [S0, S1, decide_true, decide_false, Nat.reduceEqDiff, reduceIte, Int.reduceEq, Int.reduceLT, Int.reduceLE, *]; first | done | with_reducible rfl) ?_)
      refine WO.nil ?_
      first | (refine uK_q ?_) | (refine uK_e (by assumption) ?_)
      refine WU.q rfl ?_
      first | (refine WO.guardT (by simp only [S0, S1, decide_true, decide_false, Nat.reduceEqDiff, reduceIte, Int.reduceEq, Int.reduceLT, Int.reduceLE, *]; first | done | with_reducible rfl) ?_; refine WO.o (fldP (by first | (simp only [S0, Nat.reduceEqDiff, reduceIte]; first | done | with_reducible rfl) | (simp only [S0, S1, decide_true, decide_false, Nat.reduceEqDiff, reduceIte, Int.reduceEq, Int.reduceLT, Int.reduceLE, *]; first | done | with_reducible rfl)) (SlR.some (i := 0) (by assumption) (by first | omega | assumption | (simp only [List.length_map, List.length_set]; omega)))) ?_) | (refine WO.guardF (by simp only [S0, S1, decide_true, decide_false, Nat.reduceEqDiff, reduceIte, Int.reduceEq, Int.reduceLT, Int.reduceLE, *]; first | done | with_reducible rfl) ?_) | (refine WO.guardU (by simp only [S0, S1, decide_true, decide_false, Nat.reduceEqDiff, reduceIte, Int.reduceEq, Int.reduceLT, Int.reduceLE, *]; first | done | with_reducible rfl) ?_)
      refine WO.nil ?_
      first | (refine uK_q ?_) | (refine uK_e (by assumption) ?_)
      refine WU.q rfl ?_
      first | (refine WO.guardT (by simp only [S0, S1, decide_true, decide_false, Nat.reduceEqDiff, reduceIte, Int.reduceEq, Int.reduceLT, Int.reduceLE, *]; first | done | with_reducible rfl) ?_; first | (refine WO.o (Piece.load (by first | (simp only [S0, Nat.reduceEqDiff, reduceIte]; first | done | with_reducible rfl) | (simp only [S0, S1, decide_true, decide_false, Nat.reduceEqDiff, reduceIte, Int.reduceEq, Int.reduceLT, Int.reduceLE, *]; first | done | with_reducible rfl)) (by assumption) (by decide) rfl) ?_) | (refine WO.o (Piece.load0 (by first | (simp only [S0, Nat.reduceEqDiff, reduceIte]; first | done | with_reducible rfl) | (simp only [S0, S1, decide_true, decide_false, Nat.reduceEqDiff, reduceIte, Int.reduceEq, Int.reduceLT, Int.reduceLE, *]; first | done | with_reducible rfl)) (by assumption) (by decide) rfl) ?_)) | (refine WO.guardF (by simp only [S0, S1, decide_true, decide_false, Nat.reduceEqDiff, reduceIte, Int.reduceEq, Int.reduceLT, Int.reduceLE, *]; first | done | with_reducible rfl) ?_) | (refine WO.guardU (by simp only [S0, S1, decide_true, decide_false, Nat.reduceEqDiff, reduceIte, Int.reduceEq, Int.reduceLT, Int.reduceLE, *]; first | done | with_reducible rfl) ?_)
      refine WO.nil ?_
      first | (refine uK_q ?_) | (refine uK_e (by assumption) ?_)
      refine WU.q rfl ?_
      first | (refine WO.guardT (by simp only [S0, S1, decide_true, decide_false, Nat.reduceEqDiff, reduceIte, Int.reduceEq, Int.reduceLT, Int.reduceLE, *]; first | done | with_reducible rfl) ?_; refine WO.o (by simp only [aop, S0, Nat.reduceEqDiff, reduceIte, q6_1]; first | done | with_reducible rfl) ?_) | (refine WO.guardF (by simp only [S0, S1, decide_true, decide_false, Nat.reduceEqDiff, reduceIte, Int.reduceEq, Int.reduceLT, Int.reduceLE, *]; first | done | with_reducible rfl) ?_) | (refine WO.guardU (by simp only [S0, S1, decide_true, decide_false, Nat.reduceEqDiff, reduceIte, Int.reduceEq, Int.reduceLT, Int.reduceLE, *]; first | done | with_reducible rfl) ?_)
      refine WO.nil ?_
      first | (refine uK_q ?_) | (refine uK_e (by assumption) ?_)
      refine WU.q rfl ?_
      refine WO.abs fun t7_ ht7_ => ?_
      have q7_0 := (ht7_ 0).trans (by simp only [S0, Nat.reduceEqDiff, reduceIte, q6_0]; first | done | with_reducible rfl)
      have q7_1 := (ht7_ 1).trans (by simp only [S0, Nat.reduceEqDiff, reduceIte, q6_1]; first | done | with_reducible rfl)
      have q7_5 := (ht7_ 5).trans (by simp only [S0, Nat.reduceEqDiff, reduceIte, q6_5]; first | done | with_reducible rfl)
      have q7_54 := (ht7_ 54).trans (by simp only [S0, Nat.reduceEqDiff, reduceIte]; first | done | with_reducible rfl)
      have q7_59 := (ht7_ 59).trans (by simp only [S0, Nat.reduceEqDiff, reduceIte]; first | done | with_reducible rfl)
      have q7_60 := (ht7_ 60).trans (by simp only [S0, Nat.reduceEqDiff, reduceIte]; first | done | with_reducible rfl)
      clear ht7_
      clear q6_0 q6_1 q6_5 q6_28 q6_33 q6_36
      first | (refine WO.guardT (by simp only [S0, S1, decide_true, decide_false, Nat.reduceEqDiff, reduceIte, Int.reduceEq, Int.reduceLT, Int.reduceLE, *]; first | done | with_reducible rfl) ?_; refine WO.o (by simp only [aop, S0, Nat.reduceEqDiff, reduceIte, q7_5, q7_54]; first | done | with_reducible rfl) ?_) | (refine WO.guardF (by simp only [S0, S1, decide_true, decide_false, Nat.reduceEqDiff, reduceIte, Int.reduceEq, Int.reduceLT, Int.reduceLE, *]; first | done | with_reducible rfl) ?_) | (refine WO.guardU (by simp only [S0, S1, decide_true, decide_false, Nat.reduceEqDiff, reduceIte, Int.reduceEq, Int.reduceLT, Int.reduceLE, *]; first | done | with_reducible rfl) ?_)
      refine WO.nil ?_
      first | (refine uK_q ?_) | (refine uK_e (by assumption) ?_)
      refine WU.q rfl ?_
      first | (refine WO.guardT (by simp only [S0, S1, decide_true, decide_false, Nat.reduceEqDiff, reduceIte, Int.reduceEq, Int.reduceLT, Int.reduceLE, *]; first | done | with_reducible rfl) ?_; refine WO.o (SlR.idx' (by first | (simp only [S0, Nat.reduceEqDiff, reduceIte, q7_54, q7_60]; first | done | with_reducible rfl) | (simp only [S0, S1, decide_true, decide_false, Nat.reduceEqDiff, reduceIte, Int.reduceEq, Int.reduceLT, Int.reduceLE, *]; first | done | with_reducible rfl)) (by first | (simp only [S0, Nat.reduceEqDiff, reduceIte, q7_54, q7_60]; first | done | rfl) | (simp only [S0, S1, decide_true, decide_false, Nat.reduceEqDiff, reduceIte, Int.reduceEq, Int.reduceLT, Int.reduceLE, *]; first | done | rfl)) (by assumption) (by first | omega | assumption | (simp only [List.length_map, List.length_set]; omega))) ?_) | (refine WO.guardF (by simp only [S0, S1, decide_true, decide_false, Nat.reduceEqDiff, reduceIte, Int.reduceEq, Int.reduceLT, Int.reduceLE, *]; first | done | with_reducible rfl) ?_) | (refine WO.guardU (by simp only [S0, S1, decide_true, decide_false, Nat.reduceEqDiff, reduceIte, Int.reduceEq, Int.reduceLT, Int.reduceLE, *]; first | done | with_reducible rfl) ?_)
      refine WO.nil ?_
      first | (refine uK_q ?_) | (refine uK_e (by assumption) ?_)
      refine WU.q rfl ?_
      first | (refine WO.guardT (by simp only [S0, S1, decide_true, decide_false, Nat.reduceEqDiff, reduceIte, Int.reduceEq, Int.reduceLT, Int.reduceLE, *]; first | done | with_reducible rfl) ?_; refine WO.o (fldP (by first | (simp only [S0, Nat.reduceEqDiff, reduceIte, q7_54]; first | done | with_reducible rfl) | (simp only [S0, S1, decide_true, decide_false, Nat.reduceEqDiff, reduceIte, Int.reduceEq, Int.reduceLT, Int.reduceLE, *]; first | done | with_reducible rfl)) (SlR.some (i := 0) (by assumption) (by first | omega | assumption | (simp only [List.length_map, List.length_set]; omega)))) ?_) | (refine WO.guardF (by simp only [S0, S1, decide_true, decide_false, Nat.reduceEqDiff, reduceIte, Int.reduceEq, Int.reduceLT, Int.reduceLE, *]; first | done | with_reducible rfl) ?_) | (refine WO.guardU (by simp only [S0, S1, decide_true, decide_false, Nat.reduceEqDiff, reduceIte, Int.reduceEq, Int.reduceLT, Int.reduceLE, *]; first | done | with_reducible rfl) ?_)
      refine WO.nil ?_
      first | (refine uK_q ?_) | (refine uK_e (by assumption) ?_)
      refine WU.q rfl ?_
      first | (refine WO.guardT (by simp only [S0, S1, decide_true, decide_false, Nat.reduceEqDiff, reduceIte, Int.reduceEq, Int.reduceLT, Int.reduceLE, *]; first | done | with_reducible rfl) ?_; first | (refine WO.o (Piece.load (by first | (simp only [S0, Nat.reduceEqDiff, reduceIte, q7_54]; first | done | with_reducible rfl) | (simp only [S0, S1, decide_true, decide_false, Nat.reduceEqDiff, reduceIte, Int.reduceEq, Int.reduceLT, Int.reduceLE, *]; first | done | with_reducible rfl)) (by assumption) (by decide) rfl) ?_) | (refine WO.o (Piece.load0 (by first | (simp only [S0, Nat.reduceEqDiff, reduceIte, q7_54]; first | done | with_reducible rfl) | (simp only [S0, S1, decide_true, decide_false, Nat.reduceEqDiff, reduceIte, Int.reduceEq, Int.reduceLT, Int.reduceLE, *]; first | done | with_reducible rfl)) (by assumption) (by decide) rfl) ?_)) | (refine WO.guardF (by simp only [S0, S1, decide_true, decide_false, Nat.reduceEqDiff, reduceIte, Int.reduceEq, Int.reduceLT, Int.reduceLE, *]; first | done | with_reducible rfl) ?_) | (refine WO.guardU (by simp only [S0, S1, decide_true, decide_false, Nat.reduceEqDiff, reduceIte, Int.reduceEq, Int.reduceLT, Int.reduceLE, *]; first | done | with_reducible rfl) ?_)
      refine WO.nil ?_
      first | (refine uK_q ?_) | (refine uK_e (by assumption) ?_)
      refine WU.q rfl ?_
      first | (refine WO.guardT (by simp only [S0, S1, decide_true, decide_false, Nat.reduceEqDiff, reduceIte, Int.reduceEq, Int.reduceLT, Int.reduceLE, *]; first | done | with_reducible rfl) ?_; refine WO.o (by simp only [aop, binV_neq, Option.map_some, S0, S1, decide_true, decide_false, Nat.reduceEqDiff, reduceIte, Int.reduceEq, Int.reduceLT, Int.reduceLE, *]; first | done | with_reducible rfl) ?_) | (refine WO.guardF (by simp only [S0, S1, decide_true, decide_false, Nat.reduceEqDiff, reduceIte, Int.reduceEq, Int.reduceLT, Int.reduceLE, *]; first | done | with_reducible rfl) ?_) | (refine WO.guardU (by simp only [S0, S1, decide_true, decide_false, Nat.reduceEqDiff, reduceIte, Int.reduceEq, Int.reduceLT, Int.reduceLE, *]; first | done | with_reducible rfl) ?_)
      refine WO.nil ?_
      first | (refine uK_q ?_) | (refine uK_e (by assumption) ?_)
      refine WU.q rfl ?_
      refine WO.o (by simp only [aop, pick_or, pick_and, S0, S1, decide_true, decide_false, Nat.reduceEqDiff, reduceIte, Int.reduceEq, Int.reduceLT, Int.reduceLE, *]; first | done | with_reducible rfl) ?_
      refine WO.nil ?_
      first | (refine uK_q ?_) | (refine uK_e (by assumption) ?_)
      refine WU.q rfl ?_
      refine WO.o (by simp only [aop, S0, Nat.reduceEqDiff, reduceIte]; first | done | with_reducible rfl) ?_
      refine WO.nil ?_
      first | (refine uK_q ?_) | (refine uK_e (by assumption) ?_)
      refine WU.q rfl ?_
      first | (refine WO.guardT (by simp only [S0, S1, decide_true, decide_false, Nat.reduceEqDiff, reduceIte, Int.reduceEq, Int.reduceLT, Int.reduceLE, *]; first | done | with_reducible rfl) ?_; refine WO.o (by simp only [aop, S0, Nat.reduceEqDiff, reduceIte, q7_0]; first | done | with_reducible rfl) ?_) | (refine WO.guardF (by simp only [S0, S1, decide_true, decide_false, Nat.reduceEqDiff, reduceIte, Int.reduceEq, Int.reduceLT, Int.reduceLE, *]; first | done | with_reducible rfl) ?_) | (refine WO.guardU (by simp only [S0, S1, decide_true, decide_false, Nat.reduceEqDiff, reduceIte, Int.reduceEq, Int.reduceLT, Int.reduceLE, *]; first | done | with_reducible rfl) ?_)
      refine WO.nil ?_
      first | (refine uK_q ?_) | (refine uK_e (by assumption) ?_)
      refine WU.q rfl ?_
      first | (refine WO.guardT (by simp only [S0, S1, decide_true, decide_false, Nat.reduceEqDiff, reduceIte, Int.reduceEq, Int.reduceLT, Int.reduceLE, *]; first | done | with_reducible rfl) ?_; refine WO.o (by simp only [aop, S0, Nat.reduceEqDiff, reduceIte, q7_5]; first | done | with_reducible rfl) ?_) | (refine WO.guardF (by simp only [S0, S1, decide_true, decide_false, Nat.reduceEqDiff, reduceIte, Int.reduceEq, Int.reduceLT, Int.reduceLE, *]; first | done | with_reducible rfl) ?_) | (refine WO.guardU (by simp only [S0, S1, decide_true, decide_false, Nat.reduceEqDiff, reduceIte, Int.reduceEq, Int.reduceLT, Int.reduceLE, *]; first | done | with_reducible rfl) ?_)
      refine WO.nil ?_
      first | (refine uK_q ?_) | (refine uK_e (by assumption) ?_)
      refine WU.q rfl ?_
      first | (refine WO.guardT (by simp only [S0, S1, decide_true, decide_false, Nat.reduceEqDiff, reduceIte, Int.reduceEq, Int.reduceLT, Int.reduceLE, *]; first | done | with_reducible rfl) ?_; refine WO.o (SlR.idx' (by first | (simp only [S0, Nat.reduceEqDiff, reduceIte]; first | done | with_reducible rfl) | (simp only [S0, S1, decide_true, decide_false, Nat.reduceEqDiff, reduceIte, Int.reduceEq, Int.reduceLT, Int.reduceLE, *]; first | done | with_reducible rfl)) (by first | (simp only [S0, Nat.reduceEqDiff, reduceIte]; first | done | rfl) | (simp only [S0, S1, decide_true, decide_false, Nat.reduceEqDiff, reduceIte, Int.reduceEq, Int.reduceLT, Int.reduceLE, *]; first | done | rfl)) (by assumption) (by first | omega | assumption | (simp only [List.length_map, List.length_set]; omega))) ?_) | (refine WO.guardF (by simp only [S0, S1, decide_true, decide_false, Nat.reduceEqDiff, reduceIte, Int.reduceEq, Int.reduceLT, Int.reduceLE, *]; first | done | with_reducible rfl) ?_) | (refine WO.guardU (by simp only [S0, S1, decide_true, decide_false, Nat.reduceEqDiff, reduceIte, Int.reduceEq, Int.reduceLT, Int.reduceLE, *]; first | done | with_reducible rfl) ?_)
      refine WO.nil ?_
      first | (refine uK_q ?_) | (refine uK_e (by assumption) ?_)
      refine WU.q rfl ?_
      first | (refine WO.guardT (by simp only [S0, S1, decide_true, decide_false, Nat.reduceEqDiff, reduceIte, Int.reduceEq, Int.reduceLT, Int.reduceLE, *]; first | done | with_reducible rfl) ?_; refine WO.o (fldP (by first | (simp only [S0, Nat.reduceEqDiff, reduceIte]; first | done | with_reducible rfl) | (simp only [S0, S1, decide_true, decide_false, Nat.reduceEqDiff, reduceIte, Int.reduceEq, Int.reduceLT, Int.reduceLE, *]; first | done | with_reducible rfl)) (SlR.some (i := 0) (by assumption) (by first | omega | assumption | (simp only [List.length_map, List.length_set]; omega)))) ?_) | (refine WO.guardF (by simp only [S0, S1, decide_true, decide_false, Nat.reduceEqDiff, reduceIte, Int.reduceEq, Int.reduceLT, Int.reduceLE, *]; first | done | with_reducible rfl) ?_) | (refine WO.guardU (by simp only [S0, S1, decide_true, decide_false, Nat.reduceEqDiff, reduceIte, Int.reduceEq, Int.reduceLT, Int.reduceLE, *]; first | done | with_reducible rfl) ?_)
      refine WO.nil ?_
      first | (refine uK_q ?_) | (refine uK_e (by assumption) ?_)
      refine WU.q rfl ?_
      first | (refine WO.guardT (by simp only [S0, S1, decide_true, decide_false, Nat.reduceEqDiff, reduceIte, Int.reduceEq, Int.reduceLT, Int.reduceLE, *]; first | done | with_reducible rfl) ?_; first | (refine WO.o (Piece.load (by first | (simp only [S0, Nat.reduceEqDiff, reduceIte]; first | done | with_reducible rfl) | (simp only [S0, S1, decide_true, decide_false, Nat.reduceEqDiff, reduceIte, Int.reduceEq, Int.reduceLT, Int.reduceLE, *]; first | done | with_reducible rfl)) (by assumption) (by decide) rfl) ?_) | (refine WO.o (Piece.load0 (by first | (simp only [S0, Nat.reduceEqDiff, reduceIte]; first | done | with_reducible rfl) | (simp only [S0, S1, decide_true, decide_false, Nat.reduceEqDiff, reduceIte, Int.reduceEq, Int.reduceLT, Int.reduceLE, *]; first | done | with_reducible rfl)) (by assumption) (by decide) rfl) ?_)) | (refine WO.guardF (by simp only [S0, S1, decide_true, decide_false, Nat.reduceEqDiff, reduceIte, Int.reduceEq, Int.reduceLT, Int.reduceLE, *]; first | done | with_reducible rfl) ?_) | (refine WO.guardU (by simp only [S0, S1, decide_true, decide_false, Nat.reduceEqDiff, reduceIte, Int.reduceEq, Int.reduceLT, Int.reduceLE, *]; first | done | with_reducible rfl) ?_)
      refine WO.nil ?_
      first | (refine uK_q ?_) | (refine uK_e (by assumption) ?_)
      refine WU.q rfl ?_
      first | (refine WO.guardT (by simp only [S0, S1, decide_true, decide_false, Nat.reduceEqDiff, reduceIte, Int.reduceEq, Int.reduceLT, Int.reduceLE, *]; first | done | with_reducible rfl) ?_; refine WO.o (by simp only [aop, S0, Nat.reduceEqDiff, reduceIte, q7_1]; first | done | with_reducible rfl) ?_) | (refine WO.guardF (by simp only [S0, S1, decide_true, decide_false, Nat.reduceEqDiff, reduceIte, Int.reduceEq, Int.reduceLT, Int.reduceLE, *]; first | done | with_reducible rfl) ?_) | (refine WO.guardU (by simp only [S0, S1, decide_true, decide_false, Nat.reduceEqDiff, reduceIte, Int.reduceEq, Int.reduceLT, Int.reduceLE, *]; first | done | with_reducible rfl) ?_)
      refine WO.nil ?_
      first | (refine uK_q ?_) | (refine uK_e (by assumption) ?_)
      refine WU.q rfl ?_
      first | (refine WO.guardT (by simp only [S0, S1, decide_true, decide_false, Nat.reduceEqDiff, reduceIte, Int.reduceEq, Int.reduceLT, Int.reduceLE, *]; first | done | with_reducible rfl) ?_; refine WO.o (by simp only [aop, S0, Nat.reduceEqDiff, reduceIte, q7_5]; first | done | with_reducible rfl) ?_) | (refine WO.guardF (by simp only [S0, S1, decide_true, decide_false, Nat.reduceEqDiff, reduceIte, Int.reduceEq, Int.reduceLT, Int.reduceLE, *]; first | done | with_reducible rfl) ?_) | (refine WO.guardU (by simp only [S0, S1, decide_true, decide_false, Nat.reduceEqDiff, reduceIte, Int.reduceEq, Int.reduceLT, Int.reduceLE, *]; first | done | with_reducible rfl) ?_)
      refine WO.nil ?_
      first | (refine uK_q ?_) | (refine uK_e (by assumption) ?_)
      refine WU.q rfl ?_
      first | (refine WO.guardT (by simp only [S0, S1, decide_true, decide_false, Nat.reduceEqDiff, reduceIte, Int.reduceEq, Int.reduceLT, Int.reduceLE, *]; first | done | with_reducible rfl) ?_; refine WO.o (SlR.idx' (by first | (simp only [S0, Nat.reduceEqDiff, reduceIte]; first | done | with_reducible rfl) | (simp only [S0, S1, decide_true, decide_false, Nat.reduceEqDiff, reduceIte, Int.reduceEq, Int.reduceLT, Int.reduceLE, *]; first | done | with_reducible rfl)) (by first | (simp only [S0, Nat.reduceEqDiff, reduceIte]; first | done | rfl) | (simp only [S0, S1, decide_true, decide_false, Nat.reduceEqDiff, reduceIte, Int.reduceEq, Int.reduceLT, Int.reduceLE, *]; first | done | rfl)) (by assumption) (by first | omega | assumption | (simp only [List.length_map, List.length_set]; omega))) ?_) | (refine WO.guardF (by simp only [S0, S1, decide_true, decide_false, Nat.reduceEqDiff, reduceIte, Int.reduceEq, Int.reduceLT, Int.reduceLE, *]; first | done | with_reducible rfl) ?_) | (refine WO.guardU (by simp only [S0, S1, decide_true, decide_false, Nat.reduceEqDiff, reduceIte, Int.reduceEq, Int.reduceLT, Int.reduceLE, *]; first | done | with_reducible rfl) ?_)
      refine WO.nil ?_
      first | (refine uK_q ?_) | (refine uK_e (by assumption) ?_)
      refine WU.q rfl ?_
      first | (refine WO.guardT (by simp only [S0, S1, decide_true, decide_false, Nat.reduceEqDiff, reduceIte, Int.reduceEq, Int.reduceLT, Int.reduceLE, *]; first | done | with_reducible rfl) ?_; refine WO.o (fldP (by first | (simp only [S0, Nat.reduceEqDiff, reduceIte]; first | done | with_reducible rfl) | (simp only [S0, S1, decide_true, decide_false, Nat.reduceEqDiff, reduceIte, Int.reduceEq, Int.reduceLT, Int.reduceLE, *]; first | done | with_reducible rfl)) (SlR.some (i := 0) (by assumption) (by first | omega | assumption | (simp only [List.length_map, List.length_set]; omega)))) ?_) | (refine WO.guardF (by simp only [S0, S1, decide_true, decide_false, Nat.reduceEqDiff, reduceIte, Int.reduceEq, Int.reduceLT, Int.reduceLE, *]; first | done | with_reducible rfl) ?_) | (refine WO.guardU (by simp only [S0, S1, decide_true, decide_false, Nat.reduceEqDiff, reduceIte, Int.reduceEq, Int.reduceLT, Int.reduceLE, *]; first | done | with_reducible rfl) ?_)
      refine WO.nil ?_
      first | (refine uK_q ?_) | (refine uK_e (by assumption) ?_)
      refine WU.q rfl ?_
      first | (refine WO.guardT (by simp only [S0, S1, decide_true, decide_false, Nat.reduceEqDiff, reduceIte, Int.reduceEq, Int.reduceLT, Int.reduceLE, *]; first | done | with_reducible rfl) ?_; first | (refine WO.o (Piece.load (by first | (simp only [S0, Nat.reduceEqDiff, reduceIte]; first | done | with_reducible rfl) | (simp only [S0, S1, decide_true, decide_false, Nat.reduceEqDiff, reduceIte, Int.reduceEq, Int.reduceLT, Int.reduceLE, *]; first | done | with_reducible rfl)) (by assumption) (by decide) rfl) ?_) | (refine WO.o (Piece.load0 (by first | (simp only [S0, Nat.reduceEqDiff, reduceIte]; first | done | with_reducible rfl) | (simp only [S0, S1, decide_true, decide_false, Nat.reduceEqDiff, reduceIte, Int.reduceEq, Int.reduceLT, Int.reduceLE, *]; first | done | with_reducible rfl)) (by assumption) (by decide) rfl) ?_)) | (refine WO.guardF (by simp only [S0, S1, decide_true, decide_false, Nat.reduceEqDiff, reduceIte, Int.reduceEq, Int.reduceLT, Int.reduceLE, *]; first | done | with_reducible rfl) ?_) | (refine WO.guardU (by simp only [S0, S1, decide_true, decide_false, Nat.reduceEqDiff, reduceIte, Int.reduceEq, Int.reduceLT, Int.reduceLE, *]; first | done | with_reducible rfl) ?_)
      refine WO.nil ?_
      first | (refine uK_q ?_) | (refine uK_e (by assumption) ?_)
      refine WU.q rfl ?_
      first | (refine WO.guardF (by first | (simp only [S0, Nat.reduceEqDiff, reduceIte]; first | done | with_reducible rfl) | (simp only [S0, S1, decide_true, decide_false, Nat.reduceEqDiff, reduceIte, Int.reduceEq, Int.reduceLT, Int.reduceLE, *]; first | done | with_reducible rfl)) ?_) | (refine WO.guardF (by simp only [S0, S1, decide_true, decide_false, Nat.reduceEqDiff, reduceIte, Int.reduceEq, Int.reduceLT, Int.reduceLE, *]; first | done | with_reducible rfl) ?_)
      refine WO.nil ?_
      first | (refine uK_q ?_) | (refine uK_e (by assumption) ?_)
      refine WU.q rfl ?_
      first | (refine WO.guardT (by simp only [S0, S1, decide_true, decide_false, Nat.reduceEqDiff, reduceIte, Int.reduceEq, Int.reduceLT, Int.reduceLE, *]; first | done | with_reducible rfl) ?_; refine WO.o (by simp only [aop, unV, Option.map_some, S0, S1, decide_true, decide_false, Nat.reduceEqDiff, reduceIte, Int.reduceEq, Int.reduceLT, Int.reduceLE, *]; first | done | with_reducible rfl) ?_) | (refine WO.guardF (by simp only [S0, S1, decide_true, decide_false, Nat.reduceEqDiff, reduceIte, Int.reduceEq, Int.reduceLT, Int.reduceLE, *]; first | done | with_reducible rfl) ?_) | (refine WO.guardU (by simp only [S0, S1, decide_true, decide_false, Nat.reduceEqDiff, reduceIte, Int.reduceEq, Int.reduceLT, Int.reduceLE, *]; first | done | with_reducible rfl) ?_)
      refine WO.nil ?_
      first | (refine uK_q ?_) | (refine uK_e (by assumption) ?_)
      refine WU.q rfl ?_
      refine WO.o (by simp only [aop, pick_or, pick_and, S0, S1, decide_true, decide_false, Nat.reduceEqDiff, reduceIte, Int.reduceEq, Int.reduceLT, Int.reduceLE, *]; first | done | with_reducible rfl) ?_
      refine WO.nil ?_
      first | (refine uK_nil ?_) | (refine uK_ne (by assumption) ?_)
      refine thenK_normal ?_
      first | (refine WX.condT (by simp only [S0, Nat.reduceEqDiff, reduceIte, q7_0, q7_1, q7_5, q7_54, q7_59, q7_60]; first | done | with_reducible rfl) ?_) | (refine WX.condT (by simp only [S0, S1, decide_true, decide_false, Nat.reduceEqDiff, reduceIte, Int.reduceEq, Int.reduceLT, Int.reduceLE, *]; first | done | with_reducible rfl) ?_)
      refine WX.seq ?_
      refine WX.region ?_
      refine WO.o (by simp only [aop, S0, Nat.reduceEqDiff, reduceIte]; first | done | with_reducible rfl) ?_
      refine WO.nil ?_
      refine thenK_normal ?_
      refine WX.ret ?_
      refine blockK_ret ?_
      refine thenK_ret ?_
      refine loopK_ret ?_
      refine blockK_ret ?_
      refine thenK_ret ?_
      first | (refine retK_ret (by simp only [resultsA, resultA, S0, Nat.reduceEqDiff, reduceIte, q7_0, q7_1, q7_5, q7_54, q7_59, q7_60]; rfl) ?_) | (refine retK_ret (by simp only [resultsA, resultA, S0, S1, decide_true, decide_false, Nat.reduceEqDiff, reduceIte, Int.reduceEq, Int.reduceLT, Int.reduceLE, *]; rfl) ?_)
      refine ⟨?_, rfl⟩
      rcases hne with e | e
      · exact absurd (by injection e) c3
      · rw [decide_eq_false e]; rfl
    by_cases c4 : xn = yn
    case neg =>
      refine WX.regionU0 rfl rfl ?_ rfl
      refine WU.q rfl ?_
      refine WO.o (by simp only [aop, S0, Nat.reduceEqDiff, reduceIte, p1_0]; first | done | with_reducible rfl) ?_
      refine WO.nil ?_
      first | (refine uK_q ?_) | (refine uK_e (by assumption) ?_)
      refine WU.q rfl ?_
      refine WO.o (by simp only [aop, S0, Nat.reduceEqDiff, reduceIte, s5]; first | done | with_reducible rfl) ?_
      refine WO.nil ?_
      first | (refine uK_q ?_) | (refine uK_e (by assumption) ?_)
      refine WU.q rfl ?_
      refine WO.o (SlR.idx' (by first | (simp only [S0, Nat.reduceEqDiff, reduceIte]; first | done | with_reducible rfl) | (simp only [S0, S1, decide_true, decide_false, Nat.reduceEqDiff, reduceIte, Int.reduceEq, Int.reduceLT, Int.reduceLE, *]; first | done | with_reducible rfl)) (by first | (simp only [S0, Nat.reduceEqDiff, reduceIte]; first | done | rfl) | (simp only [S0, S1, decide_true, decide_false, Nat.reduceEqDiff, reduceIte, Int.reduceEq, Int.reduceLT, Int.reduceLE, *]; first | done | rfl)) (by assumption) (by first | omega | assumption | (simp only [List.length_map, List.length_set]; omega))) ?_
      refine WO.nil ?_
      first | (refine uK_q ?_) | (refine uK_e (by assumption) ?_)
      refine WU.q rfl ?_
      refine WO.o (fldP (by first | (simp only [S0, Nat.reduceEqDiff, reduceIte]; first | done | with_reducible rfl) | (simp only [S0, S1, decide_true, decide_false, Nat.reduceEqDiff, reduceIte, Int.reduceEq, Int.reduceLT, Int.reduceLE, *]; first | done | with_reducible rfl)) (SlR.some (i := 0) (by assumption) (by first | omega | assumption | (simp only [List.length_map, List.length_set]; omega)))) ?_
      refine WO.nil ?_
      first | (refine uK_q ?_) | (refine uK_e (by assumption) ?_)
      refine WU.q rfl ?_
      first | (refine WO.o (Piece.load (by first | (simp only [S0, Nat.reduceEqDiff, reduceIte]; first | done | with_reducible rfl) | (simp only [S0, S1, decide_true, decide_false, Nat.reduceEqDiff, reduceIte, Int.reduceEq, Int.reduceLT, Int.reduceLE, *]; first | done | with_reducible rfl)) (by assumption) (by decide) rfl) ?_) | (refine WO.o (Piece.load0 (by first | (simp only [S0, Nat.reduceEqDiff, reduceIte]; first | done | with_reducible rfl) | (simp only [S0, S1, decide_true, decide_false, Nat.reduceEqDiff, reduceIte, Int.reduceEq, Int.reduceLT, Int.reduceLE, *]; first | done | with_reducible rfl)) (by assumption) (by decide) rfl) ?_)
      refine WO.nil ?_
      first | (refine uK_q ?_) | (refine uK_e (by assumption) ?_)
      refine WU.q rfl ?_
      refine WO.o (by simp only [aop, S0, Nat.reduceEqDiff, reduceIte, p1_1]; first | done | with_reducible rfl) ?_
      refine WO.nil ?_
      first | (refine uK_q ?_) | (refine uK_e (by assumption) ?_)
      refine WU.q rfl ?_
      refine WO.o (by simp only [aop, S0, Nat.reduceEqDiff, reduceIte, s5]; first | done | with_reducible rfl) ?_
      refine WO.nil ?_
      first | (refine uK_q ?_) | (refine uK_e (by assumption) ?_)
      refine WU.q rfl ?_
      refine WO.o (SlR.idx' (by first | (simp only [S0, Nat.reduceEqDiff, reduceIte]; first | done | with_reducible rfl) | (simp only [S0, S1, decide_true, decide_false, Nat.reduceEqDiff, reduceIte, Int.reduceEq, Int.reduceLT, Int.reduceLE, *]; first | done | with_reducible rfl)) (by first | (simp only [S0, Nat.reduceEqDiff, reduceIte]; first | done | rfl) | (simp only [S0, S1, decide_true, decide_false, Nat.reduceEqDiff, reduceIte, Int.reduceEq, Int.reduceLT, Int.reduceLE, *]; first | done | rfl)) (by assumption) (by first | omega | assumption | (simp only [List.length_map, List.length_set]; omega))) ?_
      refine WO.nil ?_
      first | (refine uK_q ?_) | (refine uK_e (by assumption) ?_)
      refine WU.q rfl ?_
      refine WO.o (fldP (by first | (simp only [S0, Nat.reduceEqDiff, reduceIte]; first | done | with_reducible rfl) | (simp only [S0, S1, decide_true, decide_false, Nat.reduceEqDiff, reduceIte, Int.reduceEq, Int.reduceLT, Int.reduceLE, *]; first | done | with_reducible rfl)) (SlR.some (i := 0) (by assumption) (by first | omega | assumption | (simp only [List.length_map, List.length_set]; omega)))) ?_
      refine WO.nil ?_
      first | (refine uK_q ?_) | (refine uK_e (by assumption) ?_)
      refine WU.q rfl ?_
      first | (refine WO.o (Piece.load (by first | (simp only [S0, Nat.reduceEqDiff, reduceIte]; first | done | with_reducible rfl) | (simp only [S0, S1, decide_true, decide_false, Nat.reduceEqDiff, reduceIte, Int.reduceEq, Int.reduceLT, Int.reduceLE, *]; first | done | with_reducible rfl)) (by assumption) (by decide) rfl) ?_) | (refine WO.o (Piece.load0 (by first | (simp only [S0, Nat.reduceEqDiff, reduceIte]; first | done | with_reducible rfl) | (simp only [S0, S1, decide_true, decide_false, Nat.reduceEqDiff, reduceIte, Int.reduceEq, Int.reduceLT, Int.reduceLE, *]; first | done | with_reducible rfl)) (by assumption) (by decide) rfl) ?_)
      refine WO.nil ?_
      first | (refine uK_q ?_) | (refine uK_e (by assumption) ?_)
      refine WU.q rfl ?_
      refine WO.o (by simp only [aop, binV_neq, Option.map_some, S0, S1, decide_true, decide_false, Nat.reduceEqDiff, reduceIte, Int.reduceEq, Int.reduceLT, Int.reduceLE, *]; first | done | with_reducible rfl) ?_
      refine WO.nil ?_
      first | (refine uK_q ?_) | (refine uK_e (by assumption) ?_)
      refine WU.q rfl ?_
      refine WO.o (by simp only [aop, S0, Nat.reduceEqDiff, reduceIte]; first | done | with_reducible rfl) ?_
      refine WO.nil ?_
      first | (refine uK_q ?_) | (refine uK_e (by assumption) ?_)
      refine WU.q rfl ?_
      first | (refine WO.guardT (by simp only [S0, S1, decide_true, decide_false, Nat.reduceEqDiff, reduceIte, Int.reduceEq, Int.reduceLT, Int.reduceLE, *]; first | done | with_reducible rfl) ?_; refine WO.o (by simp only [aop, S0, Nat.reduceEqDiff, reduceIte, p1_0]; first | done | with_reducible rfl) ?_) | (refine WO.guardF (by simp only [S0, S1, decide_true, decide_false, Nat.reduceEqDiff, reduceIte, Int.reduceEq, Int.reduceLT, Int.reduceLE, *]; first | done | with_reducible rfl) ?_) | (refine WO.guardU (by simp only [S0, S1, decide_true, decide_false, Nat.reduceEqDiff, reduceIte, Int.reduceEq, Int.reduceLT, Int.reduceLE, *]; first | done | with_reducible rfl) ?_)
      refine WO.nil ?_
      first | (refine uK_q ?_) | (refine uK_e (by assumption) ?_)
      refine WU.q rfl ?_
      first | (refine WO.guardT (by simp only [S0, S1, decide_true, decide_false, Nat.reduceEqDiff, reduceIte, Int.reduceEq, Int.reduceLT, Int.reduceLE, *]; first | done | with_reducible rfl) ?_; refine WO.o (by simp only [aop, S0, Nat.reduceEqDiff, reduceIte, s5]; first | done | with_reducible rfl) ?_) | (refine WO.guardF (by simp only [S0, S1, decide_true, decide_false, Nat.reduceEqDiff, reduceIte, Int.reduceEq, Int.reduceLT, Int.reduceLE, *]; first | done | with_reducible rfl) ?_) | (refine WO.guardU (by simp only [S0, S1, decide_true, decide_false, Nat.reduceEqDiff, reduceIte, Int.reduceEq, Int.reduceLT, Int.reduceLE, *]; first | done | with_reducible rfl) ?_)
      refine WO.nil ?_
      first | (refine uK_q ?_) | (refine uK_e (by assumption) ?_)
      refine WU.q rfl ?_
      first | (refine WO.guardT (by simp only [S0, S1, decide_true, decide_false, Nat.reduceEqDiff, reduceIte, Int.reduceEq, Int.reduceLT, Int.reduceLE, *]; first | done | with_reducible rfl) ?_; refine WO.o (SlR.idx' (by first | (simp only [S0, Nat.reduceEqDiff, reduceIte]; first | done | with_reducible rfl) | (simp only [S0, S1, decide_true, decide_false, Nat.reduceEqDiff, reduceIte, Int.reduceEq, Int.reduceLT, Int.reduceLE, *]; first | done | with_reducible rfl)) (by first | (simp only [S0, Nat.reduceEqDiff, reduceIte]; first | done | rfl) | (simp only [S0, S1, decide_true, decide_false, Nat.reduceEqDiff, reduceIte, Int.reduceEq, Int.reduceLT, Int.reduceLE, *]; first | done | rfl)) (by assumption) (by first | omega | assumption | (simp only [List.length_map, List.length_set]; omega))) ?_) | (refine WO.guardF (by simp only [S0, S1, decide_true, decide_false, Nat.reduceEqDiff, reduceIte, Int.reduceEq, Int.reduceLT, Int.reduceLE, *]; first | done | with_reducible rfl) ?_) | (refine WO.guardU (by simp only [S0, S1, decide_true, decide_false, Nat.reduceEqDiff, reduceIte, Int.reduceEq, Int.reduceLT, Int.reduceLE, *]; first | done | with_reducible rfl) ?_)
      refine WO.nil ?_
      first | (refine uK_q ?_) | (refine uK_e (by assumption) ?_)
      refine WU.q rfl ?_
      first | (refine WO.guardT (by simp only [S0, S1, decide_true, decide_false, Nat.reduceEqDiff, reduceIte, Int.reduceEq, Int.reduceLT, Int.reduceLE, *]; first | done | with_reducible rfl) ?_; refine WO.o (fldP (by first | (simp only [S0, Nat.reduceEqDiff, reduceIte]; first | done | with_reducible rfl) | (simp only [S0, S1, decide_true, decide_false, Nat.reduceEqDiff, reduceIte, Int.reduceEq, Int.reduceLT, Int.reduceLE, *]; first | done | with_reducible rfl)) (SlR.some (i := 0) (by assumption) (by first | omega | assumption | (simp only [List.length_map, List.length_set]; omega)))) ?_) | (refine WO.guardF (by simp only [S0, S1, decide_true, decide_false, Nat.reduceEqDiff, reduceIte, Int.reduceEq, Int.reduceLT, Int.reduceLE, *]; first | done | with_reducible rfl) ?_) | (refine WO.guardU (by simp only [S0, S1, decide_true, decide_false, Nat.reduceEqDiff, reduceIte, Int.reduceEq, Int.reduceLT, Int.reduceLE, *]; first | done | with_reducible rfl) ?_)
      refine WO.nil ?_
      first | (refine uK_q ?_) | (refine uK_e (by assumption) ?_)
      refine WU.q rfl ?_
      first | (refine WO.guardT (by simp only [S0, S1, decide_true, decide_false, Nat.reduceEqDiff, reduceIte, Int.reduceEq, Int.reduceLT, Int.reduceLE, *]; first | done | with_reducible rfl) ?_; first | (refine WO.o (Piece.load (by first | (simp only [S0, Nat.reduceEqDiff, reduceIte]; first | done | with_reducible rfl) | (simp only [S0, S1, decide_true, decide_false, Nat.reduceEqDiff, reduceIte, Int.reduceEq, Int.reduceLT, Int.reduceLE, *]; first | done | with_reducible rfl)) (by assumption) (by decide) rfl) ?_) | (refine WO.o (Piece.load0 (by first | (simp only [S0, Nat.reduceEqDiff, reduceIte]; first | done | with_reducible rfl) | (simp only [S0, S1, decide_true, decide_false, Nat.reduceEqDiff, reduceIte, Int.reduceEq, Int.reduceLT, Int.reduceLE, *]; first | done | with_reducible rfl)) (by assumption) (by decide) rfl) ?_)) | (refine WO.guardF (by simp only [S0, S1, decide_true, decide_false, Nat.reduceEqDiff, reduceIte, Int.reduceEq, Int.reduceLT, Int.reduceLE, *]; first | done | with_reducible rfl) ?_) | (refine WO.guardU (by simp only [S0, S1, decide_true, decide_false, Nat.reduceEqDiff, reduceIte, Int.reduceEq, Int.reduceLT, Int.reduceLE, *]; first | done | with_reducible rfl) ?_)
      refine WO.nil ?_
      first | (refine uK_q ?_) | (refine uK_e (by assumption) ?_)
      refine WU.q rfl ?_
      first | (refine WO.guardT (by simp only [S0, S1, decide_true, decide_false, Nat.reduceEqDiff, reduceIte, Int.reduceEq, Int.reduceLT, Int.reduceLE, *]; first | done | with_reducible rfl) ?_; refine WO.o (by simp only [aop, S0, Nat.reduceEqDiff, reduceIte, p1_1]; first | done | with_reducible rfl) ?_) | (refine WO.guardF (by simp only [S0, S1, decide_true, decide_false, Nat.reduceEqDiff, reduceIte, Int.reduceEq, Int.reduceLT, Int.reduceLE, *]; first | done | with_reducible rfl) ?_) | (refine WO.guardU (by simp only [S0, S1, decide_true, decide_false, Nat.reduceEqDiff, reduceIte, Int.reduceEq, Int.reduceLT, Int.reduceLE, *]; first | done | with_reducible rfl) ?_)
      refine WO.nil ?_
      first | (refine uK_q ?_) | (refine uK_e (by assumption) ?_)
      refine WU.q rfl ?_
      first | (refine WO.guardT (by simp only [S0, S1, decide_true, decide_false, Nat.reduceEqDiff, reduceIte, Int.reduceEq, Int.reduceLT, Int.reduceLE, *]; first | done | with_reducible rfl) ?_; refine WO.o (by simp only [aop, S0, Nat.reduceEqDiff, reduceIte, s5]; first | done | with_reducible rfl) ?_) | (refine WO.guardF (by simp only [S0, S1, decide_true, decide_false, Nat.reduceEqDiff, reduceIte, Int.reduceEq, Int.reduceLT, Int.reduceLE, *]; first | done | with_reducible rfl) ?_) | (refine WO.guardU (by simp only [S0, S1, decide_true, decide_false, Nat.reduceEqDiff, reduceIte, Int.reduceEq, Int.reduceLT, Int.reduceLE, *]; first | done | with_reducible rfl) ?_)
      refine WO.nil ?_
      first | (refine uK_q ?_) | (refine uK_e (by assumption) ?_)
      refine WU.q rfl ?_
      first | (refine WO.guardT (by simp only [S0, S1, decide_true, decide_false, Nat.reduceEqDiff, reduceIte, Int.reduceEq, Int.reduceLT, Int.reduceLE, *]; first | done | with_reducible rfl) ?_; refine WO.o (SlR.idx' (by first | (simp only [S0, Nat.reduceEqDiff, reduceIte]; first | done | with_reducible rfl) | (simp only [S0, S1, decide_true, decide_false, Nat.reduceEqDiff, reduceIte, Int.reduceEq, Int.reduceLT, Int.reduceLE, *]; first | done | with_reducible rfl)) (by first | (simp only [S0, Nat.reduceEqDiff, reduceIte]; first | done | rfl) | (simp only [S0, S1, decide_true, decide_false, Nat.reduceEqDiff, reduceIte, Int.reduceEq, Int.reduceLT, Int.reduceLE, *]; first | done | rfl)) (by assumption) (by first | omega | assumption | (simp only [List.length_map, List.length_set]; omega))) ?_) | (refine WO.guardF (by simp only [S0, S1, decide_true, decide_false, Nat.reduceEqDiff, reduceIte, Int.reduceEq, Int.reduceLT, Int.reduceLE, *]; first | done | with_reducible rfl) ?_) | (refine WO.guardU (by simp only [S0, S1, decide_true, decide_false, Nat.reduceEqDiff, reduceIte, Int.reduceEq, Int.reduceLT, Int.reduceLE, *]; first | done | with_reducible rfl) ?_)
      refine WO.nil ?_
      first | (refine uK_q ?_) | (refine uK_e (by assumption) ?_)
      refine WU.q rfl ?_
      refine WO.abs fun t8_ ht8_ => ?_
      have q8_0 := (ht8_ 0).trans (by simp only [S0, Nat.reduceEqDiff, reduceIte, p1_0]; first | done | with_reducible rfl)
      have q8_1 := (ht8_ 1).trans (by simp only [S0, Nat.reduceEqDiff, reduceIte, p1_1]; first | done | with_reducible rfl)
      have q8_5 := (ht8_ 5).trans (by simp only [S0, Nat.reduceEqDiff, reduceIte, s5]; first | done | with_reducible rfl)
      have q8_28 := (ht8_ 28).trans (by simp only [S0, Nat.reduceEqDiff, reduceIte]; first | done | with_reducible rfl)
      have q8_33 := (ht8_ 33).trans (by simp only [S0, Nat.reduceEqDiff, reduceIte]; first | done | with_reducible rfl)
      have q8_36 := (ht8_ 36).trans (by simp only [S0, Nat.reduceEqDiff, reduceIte]; first | done | with_reducible rfl)
      clear ht8_
      clear p1_0 p1_1 s5
      first | (refine WO.guardT (by simp only [S0, S1, decide_true, decide_false, Nat.reduceEqDiff, reduceIte, Int.reduceEq, Int.reduceLT, Int.reduceLE, *]; first | done | with_reducible rfl) ?_; refine WO.o (fldP (by first | (simp only [S0, Nat.reduceEqDiff, reduceIte, q8_28, q8_36]; first | done | with_reducible rfl) | (simp only [S0, S1, decide_true, decide_false, Nat.reduceEqDiff, reduceIte, Int.reduceEq, Int.reduceLT, Int.reduceLE, *]; first | done | with_reducible rfl)) (SlR.some (i := 0) (by assumption) (by first | omega | assumption | (simp only [List.length_map, List.length_set]; omega)))) ?_) | (refine WO.guardF (by simp only [S0, S1, decide_true, decide_false, Nat.reduceEqDiff, reduceIte, Int.reduceEq, Int.reduceLT, Int.reduceLE, *]; first | done | with_reducible rfl) ?_) | (refine WO.guardU (by simp only [S0, S1, decide_true, decide_false, Nat.reduceEqDiff, reduceIte, Int.reduceEq, Int.reduceLT, Int.reduceLE, *]; first | done | with_reducible rfl) ?_)
      refine WO.nil ?_
      first | (refine uK_q ?_) | (refine uK_e (by assumption) ?_)
      refine WU.q rfl ?_
      first | (refine WO.guardT (by simp only [S0, S1, decide_true, decide_false, Nat.reduceEqDiff, reduceIte, Int.reduceEq, Int.reduceLT, Int.reduceLE, *]; first | done | with_reducible rfl) ?_; first | (refine WO.o (Piece.load (by first | (simp only [S0, Nat.reduceEqDiff, reduceIte, q8_28]; first | done | with_reducible rfl) | (simp only [S0, S1, decide_true, decide_false, Nat.reduceEqDiff, reduceIte, Int.reduceEq, Int.reduceLT, Int.reduceLE, *]; first | done | with_reducible rfl)) (by assumption) (by decide) rfl) ?_) | (refine WO.o (Piece.load0 (by first | (simp only [S0, Nat.reduceEqDiff, reduceIte, q8_28]; first | done | with_reducible rfl) | (simp only [S0, S1, decide_true, decide_false, Nat.reduceEqDiff, reduceIte, Int.reduceEq, Int.reduceLT, Int.reduceLE, *]; first | done | with_reducible rfl)) (by assumption) (by decide) rfl) ?_)) | (refine WO.guardF (by simp only [S0, S1, decide_true, decide_false, Nat.reduceEqDiff, reduceIte, Int.reduceEq, Int.reduceLT, Int.reduceLE, *]; first | done | with_reducible rfl) ?_) | (refine WO.guardU (by simp only [S0, S1, decide_true, decide_false, Nat.reduceEqDiff, reduceIte, Int.reduceEq, Int.reduceLT, Int.reduceLE, *]; first | done | with_reducible rfl) ?_)
      refine WO.nil ?_
      first | (refine uK_q ?_) | (refine uK_e (by assumption) ?_)
      refine WU.q rfl ?_
      first | (refine WO.guardT (by simp only [S0, S1, decide_true, decide_false, Nat.reduceEqDiff, reduceIte, Int.reduceEq, Int.reduceLT, Int.reduceLE, *]; first | done | with_reducible rfl) ?_; refine WO.o (by simp only [aop, binV_neq, Option.map_some, S0, S1, decide_true, decide_false, Nat.reduceEqDiff, reduceIte, Int.reduceEq, Int.reduceLT, Int.reduceLE, *]; first | done | with_reducible rfl) ?_) | (refine WO.guardF (by simp only [S0, S1, decide_true, decide_false, Nat.reduceEqDiff, reduceIte, Int.reduceEq, Int.reduceLT, Int.reduceLE, *]; first | done | with_reducible rfl) ?_) | (refine WO.guardU (by simp only [S0, S1, decide_true, decide_false, Nat.reduceEqDiff, reduceIte, Int.reduceEq, Int.reduceLT, Int.reduceLE, *]; first | done | with_reducible rfl) ?_)
      refine WO.nil ?_
      first | (refine uK_q ?_) | (refine uK_e (by assumption) ?_)
      refine WU.q rfl ?_
      refine WO.o (by simp only [aop, pick_or, pick_and, S0, S1, decide_true, decide_false, Nat.reduceEqDiff, reduceIte, Int.reduceEq, Int.reduceLT, Int.reduceLE, *]; first | done | with_reducible rfl) ?_
      refine WO.nil ?_
      first | (refine uK_q ?_) | (refine uK_e (by assumption) ?_)
      refine WU.q rfl ?_
      refine WO.o (by simp only [aop, S0, Nat.reduceEqDiff, reduceIte]; first | done | with_reducible rfl) ?_
      refine WO.nil ?_
      first | (refine uK_q ?_) | (refine uK_e (by assumption) ?_)
      refine WU.q rfl ?_
      first | (refine WO.guardT (by simp only [S0, S1, decide_true, decide_false, Nat.reduceEqDiff, reduceIte, Int.reduceEq, Int.reduceLT, Int.reduceLE, *]; first | done | with_reducible rfl) ?_; refine WO.o (by simp only [aop, S0, Nat.reduceEqDiff, reduceIte, q8_0]; first | done | with_reducible rfl) ?_) | (refine WO.guardF (by simp only [S0, S1, decide_true, decide_false, Nat.reduceEqDiff, reduceIte, Int.reduceEq, Int.reduceLT, Int.reduceLE, *]; first | done | with_reducible rfl) ?_) | (refine WO.guardU (by simp only [S0, S1, decide_true, decide_false, Nat.reduceEqDiff, reduceIte, Int.reduceEq, Int.reduceLT, Int.reduceLE, *]; first | done | with_reducible rfl) ?_)
      refine WO.nil ?_
      first | (refine uK_q ?_) | (refine uK_e (by assumption) ?_)
      refine WU.q rfl ?_
      first | (refine WO.guardT (by simp only [S0, S1, decide_true, decide_false, Nat.reduceEqDiff, reduceIte, Int.reduceEq, Int.reduceLT, Int.reduceLE, *]; first | done | with_reducible rfl) ?_; refine WO.o (by simp only [aop, S0, Nat.reduceEqDiff, reduceIte, q8_5]; first | done | with_reducible rfl) ?_) | (refine WO.guardF (by simp only [S0, S1, decide_true, decide_false, Nat.reduceEqDiff, reduceIte, Int.reduceEq, Int.reduceLT, Int.reduceLE, *]; first | done | with_reducible rfl) ?_) | (refine WO.guardU (by simp only [S0, S1, decide_true, decide_false, Nat.reduceEqDiff, reduceIte, Int.reduceEq, Int.reduceLT, Int.reduceLE, *]; first | done | with_reducible rfl) ?_)
      refine WO.nil ?_
      first | (refine uK_q ?_) | (refine uK_e (by assumption) ?_)
      refine WU.q rfl ?_
      first | (refine WO.guardT (by simp only [S0, S1, decide_true, decide_false, Nat.reduceEqDiff, reduceIte, Int.reduceEq, Int.reduceLT, Int.reduceLE, *]; first | done | with_reducible rfl) ?_; refine WO.o (SlR.idx' (by first | (simp only [S0, Nat.reduceEqDiff, reduceIte]; first | done | with_reducible rfl) | (simp only [S0, S1, decide_true, decide_false, Nat.reduceEqDiff, reduceIte, Int.reduceEq, Int.reduceLT, Int.reduceLE, *]; first | done | with_reducible rfl)) (by first | (simp only [S0, Nat.reduceEqDiff, reduceIte]; first | done | rfl) | (simp only [S0, S1, decide_true, decide_false, Nat.reduceEqDiff, reduceIte, Int.reduceEq, Int.reduceLT, Int.reduceLE, *]; first | done | rfl)) (by assumption) (by first | omega | assumption | (simp only [List.length_map, List.length_set]; omega))) ?_) | (refine WO.guardF (by simp only [S0, S1, decide_true, decide_false, Nat.reduceEqDiff, reduceIte, Int.reduceEq, Int.reduceLT, Int.reduceLE, *]; first | done | with_reducible rfl) ?_) | (refine WO.guardU (by simp only [S0, S1, decide_true, decide_false, Nat.reduceEqDiff, reduceIte, Int.reduceEq, Int.reduceLT, Int.reduceLE, *]; first | done | with_reducible rfl) ?_)
      refine WO.nil ?_
      first | (refine uK_q ?_) | (refine uK_e (by assumption) ?_)
      refine WU.q rfl ?_
      first | (refine WO.guardT (by simp only [S0, S1, decide_true, decide_false, Nat.reduceEqDiff, reduceIte, Int.reduceEq, Int.reduceLT, Int.reduceLE, *]; first | done | with_reducible rfl) ?_; refine WO.o (fldP (by first | (simp only [S0, Nat.reduceEqDiff, reduceIte]; first | done | with_reducible rfl) | (simp only [S0, S1, decide_true, decide_false, Nat.reduceEqDiff, reduceIte, Int.reduceEq, Int.reduceLT, Int.reduceLE, *]; first | done | with_reducible rfl)) (SlR.some (i := 0) (by assumption) (by first | omega | assumption | (simp only [List.length_map, List.length_set]; omega)))) ?_) | (refine WO.guardF (by simp only [S0, S1, decide_true, decide_false, Nat.reduceEqDiff, reduceIte, Int.reduceEq, Int.reduceLT, Int.reduceLE, *]; first | done | with_reducible rfl) ?_) | (refine WO.guardU (by simp only [S0, S1, decide_true, decide_false, Nat.reduceEqDiff, reduceIte, Int.reduceEq, Int.reduceLT, Int.reduceLE, *]; first | done | with_reducible rfl) ?_)
      refine WO.nil ?_
      first | (refine uK_q ?_) | (refine uK_e (by assumption) ?_)
      refine WU.q rfl ?_
      first | (refine WO.guardT (by simp only [S0, S1, decide_true, decide_false, Nat.reduceEqDiff, reduceIte, Int.reduceEq, Int.reduceLT, Int.reduceLE, *]; first | done | with_reducible rfl) ?_; first | (refine WO.o (Piece.load (by first | (simp only [S0, Nat.reduceEqDiff, reduceIte]; first | done | with_reducible rfl) | (simp only [S0, S1, decide_true, decide_false, Nat.reduceEqDiff, reduceIte, Int.reduceEq, Int.reduceLT, Int.reduceLE, *]; first | done | with_reducible rfl)) (by assumption) (by decide) rfl) ?_) | (refine WO.o (Piece.load0 (by first | (simp only [S0, Nat.reduceEqDiff, reduceIte]; first | done | with_reducible rfl) | (simp only [S0, S1, decide_true, decide_false, Nat.reduceEqDiff, reduceIte, Int.reduceEq, Int.reduceLT, Int.reduceLE, *]; first | done | with_reducible rfl)) (by assumption) (by decide) rfl) ?_)) | (refine WO.guardF (by simp only [S0, S1, decide_true, decide_false, Nat.reduceEqDiff, reduceIte, Int.reduceEq, Int.reduceLT, Int.reduceLE, *]; first | done | with_reducible rfl) ?_) | (refine WO.guardU (by simp only [S0, S1, decide_true, decide_false, Nat.reduceEqDiff, reduceIte, Int.reduceEq, Int.reduceLT, Int.reduceLE, *]; first | done | with_reducible rfl) ?_)
      refine WO.nil ?_
      first | (refine uK_q ?_) | (refine uK_e (by assumption) ?_)
      refine WU.q rfl ?_
      first | (refine WO.guardT (by simp only [S0, S1, decide_true, decide_false, Nat.reduceEqDiff, reduceIte, Int.reduceEq, Int.reduceLT, Int.reduceLE, *]; first | done | with_reducible rfl) ?_; refine WO.o (by simp only [aop, S0, Nat.reduceEqDiff, reduceIte, q8_1]; first | done | with_reducible rfl) ?_) | (refine WO.guardF (by simp only [S0, S1, decide_true, decide_false, Nat.reduceEqDiff, reduceIte, Int.reduceEq, Int.reduceLT, Int.reduceLE, *]; first | done | with_reducible rfl) ?_) | (refine WO.guardU (by simp only [S0, S1, decide_true, decide_false, Nat.reduceEqDiff, reduceIte, Int.reduceEq, Int.reduceLT, Int.reduceLE, *]; first | done | with_reducible rfl) ?_)
      refine WO.nil ?_
      first | (refine uK_q ?_) | (refine uK_e (by assumption) ?_)
      refine WU.q rfl ?_
      first | (refine WO.guardT (by simp only [S0, S1, decide_true, decide_false, Nat.reduceEqDiff, reduceIte, Int.reduceEq, Int.reduceLT, Int.reduceLE, *]; first | done | with_reducible rfl) ?_; refine WO.o (by simp only [aop, S0, Nat.reduceEqDiff, reduceIte, q8_5]; first | done | with_reducible rfl) ?_) | (refine WO.guardF (by simp only [S0, S1, decide_true, decide_false, Nat.reduceEqDiff, reduceIte, Int.reduceEq, Int.reduceLT, Int.reduceLE, *]; first | done | with_reducible rfl) ?_) | (refine WO.guardU (by simp only [S0, S1, decide_true, decide_false, Nat.reduceEqDiff, reduceIte, Int.reduceEq, Int.reduceLT, Int.reduceLE, *]; first | done | with_reducible rfl) ?_)
      refine WO.nil ?_
      first | (refine uK_q ?_) | (refine uK_e (by assumption) ?_)
      refine WU.q rfl ?_
      first | (refine WO.guardT (by simp only [S0, S1, decide_true, decide_false, Nat.reduceEqDiff, reduceIte, Int.reduceEq, Int.reduceLT, Int.reduceLE, *]; first | done | with_reducible rfl) ?_; refine WO.o (SlR.idx' (by first | (simp only [S0, Nat.reduceEqDiff, reduceIte]; first | done | with_reducible rfl) | (simp only [S0, S1, decide_true, decide_false, Nat.reduceEqDiff, reduceIte, Int.reduceEq, Int.reduceLT, Int.reduceLE, *]; first | done | with_reducible rfl)) (by first | (simp only [S0, Nat.reduceEqDiff, reduceIte]; first | done | rfl) | (simp only [S0, S1, decide_true, decide_false, Nat.reduceEqDiff, reduceIte, Int.reduceEq, Int.reduceLT, Int.reduceLE, *]; first | done | rfl)) (by assumption) (by first | omega | assumption | (simp only [List.length_map, List.length_set]; omega))) ?_) | (refine WO.guardF (by simp only [S0, S1, decide_true, decide_false, Nat.reduceEqDiff, reduceIte, Int.reduceEq, Int.reduceLT, Int.reduceLE, *]; first | done | with_reducible rfl) ?_) | (refine WO.guardU (by simp only [S0, S1, decide_true, decide_false, Nat.reduceEqDiff, reduceIte, Int.reduceEq, Int.reduceLT, Int.reduceLE, *]; first | done | with_reducible rfl) ?_)
      refine WO.nil ?_
      first | (refine uK_q ?_) | (refine uK_e (by assumption) ?_)
      refine WU.q rfl ?_
      first | (refine WO.guardT (by simp only [S0, S1, decide_true, decide_false, Nat.reduceEqDiff, reduceIte, Int.reduceEq, Int.reduceLT, Int.reduceLE, *]; first | done | with_reducible rfl) ?_; refine WO.o (fldP (by first | (simp only [S0, Nat.reduceEqDiff, reduceIte]; first | done | with_reducible rfl) | (simp only [S0, S1, decide_true, decide_false, Nat.reduceEqDiff, reduceIte, Int.reduceEq, Int.reduceLT, Int.reduceLE, *]; first | done | with_reducible rfl)) (SlR.some (i := 0) (by assumption) (by first | omega | assumption | (simp only [List.length_map, List.length_set]; omega)))) ?_) | (refine WO.guardF (by simp only [S0, S1, decide_true, decide_false, Nat.reduceEqDiff, reduceIte, Int.reduceEq, Int.reduceLT, Int.reduceLE, *]; first | done | with_reducible rfl) ?_) | (refine WO.guardU (by simp only [S0, S1, decide_true, decide_false, Nat.reduceEqDiff, reduceIte, Int.reduceEq, Int.reduceLT, Int.reduceLE, *]; first | done | with_reducible rfl) ?_)
      refine WO.nil ?_
      first | (refine uK_q ?_) | (refine uK_e (by assumption) ?_)
      refine WU.q rfl ?_
      first | (refine WO.guardT (by simp only [S0, S1, decide_true, decide_false, Nat.reduceEqDiff, reduceIte, Int.reduceEq, Int.reduceLT, Int.reduceLE, *]; first | done | with_reducible rfl) ?_; first | (refine WO.o (Piece.load (by first | (simp only [S0, Nat.reduceEqDiff, reduceIte]; first | done | with_reducible rfl) | (simp only [S0, S1, decide_true, decide_false, Nat.reduceEqDiff, reduceIte, Int.reduceEq, Int.reduceLT, Int.reduceLE, *]; first | done | with_reducible rfl)) (by assumption) (by decide) rfl) ?_) | (refine WO.o (Piece.load0 (by first | (simp only [S0, Nat.reduceEqDiff, reduceIte]; first | done | with_reducible rfl) | (simp only [S0, S1, decide_true, decide_false, Nat.reduceEqDiff, reduceIte, Int.reduceEq, Int.reduceLT, Int.reduceLE, *]; first | done | with_reducible rfl)) (by assumption) (by decide) rfl) ?_)) | (refine WO.guardF (by simp only [S0, S1, decide_true, decide_false, Nat.reduceEqDiff, reduceIte, Int.reduceEq, Int.reduceLT, Int.reduceLE, *]; first | done | with_reducible rfl) ?_) | (refine WO.guardU (by simp only [S0, S1, decide_true, decide_false, Nat.reduceEqDiff, reduceIte, Int.reduceEq, Int.reduceLT, Int.reduceLE, *]; first | done | with_reducible rfl) ?_)
      refine WO.nil ?_
      first | (refine uK_q ?_) | (refine uK_e (by assumption) ?_)
      refine WU.q rfl ?_
      first | (refine WO.guardT (by simp only [S0, S1, decide_true, decide_false, Nat.reduceEqDiff, reduceIte, Int.reduceEq, Int.reduceLT, Int.reduceLE, *]; first | done | with_reducible rfl) ?_; refine WO.o (by simp only [aop, binV_neq, Option.map_some, S0, S1, decide_true, decide_false, Nat.reduceEqDiff, reduceIte, Int.reduceEq, Int.reduceLT, Int.reduceLE, *]; first | done | with_reducible rfl) ?_) | (refine WO.guardF (by simp only [S0, S1, decide_true, decide_false, Nat.reduceEqDiff, reduceIte, Int.reduceEq, Int.reduceLT, Int.reduceLE, *]; first | done | with_reducible rfl) ?_) | (refine WO.guardU (by simp only [S0, S1, decide_true, decide_false, Nat.reduceEqDiff, reduceIte, Int.reduceEq, Int.reduceLT, Int.reduceLE, *]; first | done | with_reducible rfl) ?_)
      refine WO.nil ?_
      first | (refine uK_q ?_) | (refine uK_e (by assumption) ?_)
      refine WU.q rfl ?_
      refine WO.o (by simp only [aop, pick_or, pick_and, S0, S1, decide_true, decide_false, Nat.reduceEqDiff, reduceIte, Int.reduceEq, Int.reduceLT, Int.reduceLE, *]; first | done | with_reducible rfl) ?_
      refine WO.nil ?_
      first | (refine uK_q ?_) | (refine uK_e (by assumption) ?_)
      refine WU.q rfl ?_
      refine WO.o (by simp only [aop, S0, Nat.reduceEqDiff, reduceIte]; first | done | with_reducible rfl) ?_
      refine WO.nil ?_
      first | (refine uK_q ?_) | (refine uK_e (by assumption) ?_)
      refine WU.q rfl ?_
      first | (refine WO.guardT (by simp only [S0, S1, decide_true, decide_false, Nat.reduceEqDiff, reduceIte, Int.reduceEq, Int.reduceLT, Int.reduceLE, *]; first | done | with_reducible rfl) ?_; refine WO.o (by simp only [aop, S0, Nat.reduceEqDiff, reduceIte, q8_0]; first | done | with_reducible rfl) ?_) | (refine WO.guardF (by simp only [S0, S1, decide_true, decide_false, Nat.reduceEqDiff, reduceIte, Int.reduceEq, Int.reduceLT, Int.reduceLE, *]; first | done | with_reducible rfl) ?_) | (refine WO.guardU (by simp only [S0, S1, decide_true, decide_false, Nat.reduceEqDiff, reduceIte, Int.reduceEq, Int.reduceLT, Int.reduceLE, *]; first | done | with_reducible rfl) ?_)
      refine WO.nil ?_
      first | (refine uK_q ?_) | (refine uK_e (by assumption) ?_)
      refine WU.q rfl ?_
      first | (refine WO.guardT (by simp only [S0, S1, decide_true, decide_false, Nat.reduceEqDiff, reduceIte, Int.reduceEq, Int.reduceLT, Int.reduceLE, *]; first | done | with_reducible rfl) ?_; refine WO.o (by simp only [aop, S0, Nat.reduceEqDiff, reduceIte, q8_5]; first | done | with_reducible rfl) ?_) | (refine WO.guardF (by simp only [S0, S1, decide_true, decide_false, Nat.reduceEqDiff, reduceIte, Int.reduceEq, Int.reduceLT, Int.reduceLE, *]; first | done | with_reducible rfl) ?_) | (refine WO.guardU (by simp only [S0, S1, decide_true, decide_false, Nat.reduceEqDiff, reduceIte, Int.reduceEq, Int.reduceLT, Int.reduceLE, *]; first | done | with_reducible rfl) ?_)
      refine WO.nil ?_
      first | (refine uK_q ?_) | (refine uK_e (by assumption) ?_)
      refine WU.q rfl ?_
      first | (refine WO.guardT (by simp only [S0, S1, decide_true, decide_false, Nat.reduceEqDiff, reduceIte, Int.reduceEq, Int.reduceLT, Int.reduceLE, *]; first | done | with_reducible rfl) ?_; refine WO.o (SlR.idx' (by first | (simp only [S0, Nat.reduceEqDiff, reduceIte]; first | done | with_reducible rfl) | (simp only [S0, S1, decide_true, decide_false, Nat.reduceEqDiff, reduceIte, Int.reduceEq, Int.reduceLT, Int.reduceLE, *]; first | done | with_reducible rfl)) (by first | (simp only [S0, Nat.reduceEqDiff, reduceIte]; first | done | rfl) | (simp only [S0, S1, decide_true, decide_false, Nat.reduceEqDiff, reduceIte, Int.reduceEq, Int.reduceLT, Int.reduceLE, *]; first | done | rfl)) (by assumption) (by first | omega | assumption | (simp only [List.length_map, List.length_set]; omega))) ?_) | (refine WO.guardF (by simp only [S0, S1, decide_true, decide_false, Nat.reduceEqDiff, reduceIte, Int.reduceEq, Int.reduceLT, Int.reduceLE, *]; first | done | with_reducible rfl) ?_) | (refine WO.guardU (by simp only [S0, S1, decide_true, decide_false, Nat.reduceEqDiff, reduceIte, Int.reduceEq, Int.reduceLT, Int.reduceLE, *]; first | done | with_reducible rfl) ?_)
      refine WO.nil ?_
      first | (refine uK_q ?_) | (refine uK_e (by assumption) ?_)
      refine WU.q rfl ?_
      first | (refine WO.guardT (by simp only [S0, S1, decide_true, decide_false, Nat.reduceEqDiff, reduceIte, Int.reduceEq, Int.reduceLT, Int.reduceLE, *]; first | done | with_reducible rfl) ?_; refine WO.o (fldP (by first | (simp only [S0, Nat.reduceEqDiff, reduceIte]; first | done | with_reducible rfl) | (simp only [S0, S1, decide_true, decide_false, Nat.reduceEqDiff, reduceIte, Int.reduceEq, Int.reduceLT, Int.reduceLE, *]; first | done | with_reducible rfl)) (SlR.some (i := 0) (by assumption) (by first | omega | assumption | (simp only [List.length_map, List.length_set]; omega)))) ?_) | (refine WO.guardF (by simp only [S0, S1, decide_true, decide_false, Nat.reduceEqDiff, reduceIte, Int.reduceEq, Int.reduceLT, Int.reduceLE, *]; first | done | with_reducible rfl) ?_) | (refine WO.guardU (by simp only [S0, S1, decide_true, decide_false, Nat.reduceEqDiff, reduceIte, Int.reduceEq, Int.reduceLT, Int.reduceLE, *]; first | done | with_reducible rfl) ?_)
      refine WO.nil ?_
      first | (refine uK_q ?_) | (refine uK_e (by assumption) ?_)
      refine WU.q rfl ?_
      first | (refine WO.guardT (by simp only [S0, S1, decide_true, decide_false, Nat.reduceEqDiff, reduceIte, Int.reduceEq, Int.reduceLT, Int.reduceLE, *]; first | done | with_reducible rfl) ?_; first | (refine WO.o (Piece.load (by first | (simp only [S0, Nat.reduceEqDiff, reduceIte]; first | done | with_reducible rfl) | (simp only [S0, S1, decide_true, decide_false, Nat.reduceEqDiff, reduceIte, Int.reduceEq, Int.reduceLT, Int.reduceLE, *]; first | done | with_reducible rfl)) (by assumption) (by decide) rfl) ?_) | (refine WO.o (Piece.load0 (by first | (simp only [S0, Nat.reduceEqDiff, reduceIte]; first | done | with_reducible rfl) | (simp only [S0, S1, decide_true, decide_false, Nat.reduceEqDiff, reduceIte, Int.reduceEq, Int.reduceLT, Int.reduceLE, *]; first | done | with_reducible rfl)) (by assumption) (by decide) rfl) ?_)) | (refine WO.guardF (by simp only [S0, S1, decide_true, decide_false, Nat.reduceEqDiff, reduceIte, Int.reduceEq, Int.reduceLT, Int.reduceLE, *]; first | done | with_reducible rfl) ?_) | (refine WO.guardU (by simp only [S0, S1, decide_true, decide_false, Nat.reduceEqDiff, reduceIte, Int.reduceEq, Int.reduceLT, Int.reduceLE, *]; first | done | with_reducible rfl) ?_)
      refine WO.nil ?_
      first | (refine uK_q ?_) | (refine uK_e (by assumption) ?_)
      refine WU.q rfl ?_
      first | (refine WO.guardT (by simp only [S0, S1, decide_true, decide_false, Nat.reduceEqDiff, reduceIte, Int.reduceEq, Int.reduceLT, Int.reduceLE, *]; first | done | with_reducible rfl) ?_; refine WO.o (by simp only [aop, S0, Nat.reduceEqDiff, reduceIte, q8_1]; first | done | with_reducible rfl) ?_) | (refine WO.guardF (by simp only [S0, S1, decide_true, decide_false, Nat.reduceEqDiff, reduceIte, Int.reduceEq, Int.reduceLT, Int.reduceLE, *]; first | done | with_reducible rfl) ?_) | (refine WO.guardU (by simp only [S0, S1, decide_true, decide_false, Nat.reduceEqDiff, reduceIte, Int.reduceEq, Int.reduceLT, Int.reduceLE, *]; first | done | with_reducible rfl) ?_)
      refine WO.nil ?_
      first | (refine uK_q ?_) | (refine uK_e (by assumption) ?_)
      refine WU.q rfl ?_
      refine WO.abs fun t9_ ht9_ => ?_
      have q9_0 := (ht9_ 0).trans (by simp only [S0, Nat.reduceEqDiff, reduceIte, q8_0]; first | done | with_reducible rfl)
      have q9_1 := (ht9_ 1).trans (by simp only [S0, Nat.reduceEqDiff, reduceIte, q8_1]; first | done | with_reducible rfl)
      have q9_5 := (ht9_ 5).trans (by simp only [S0, Nat.reduceEqDiff, reduceIte, q8_5]; first | done | with_reducible rfl)
      have q9_54 := (ht9_ 54).trans (by simp only [S0, Nat.reduceEqDiff, reduceIte]; first | done | with_reducible rfl)
      have q9_59 := (ht9_ 59).trans (by simp only [S0, Nat.reduceEqDiff, reduceIte]; first | done | with_reducible rfl)
      have q9_60 := (ht9_ 60).trans (by simp only [S0, Nat.reduceEqDiff, reduceIte]; first | done | with_reducible rfl)
      clear ht9_
      clear q8_0 q8_1 q8_5 q8_28 q8_33 q8_36
      first | (refine WO.guardT (by simp only [S0, S1, decide_true, decide_false, Nat.reduceEqDiff, reduceIte, Int.reduceEq, Int.reduceLT, Int.reduceLE, *]; first | done | with_reducible rfl) ?_; refine WO.o (by simp only [aop, S0, Nat.reduceEqDiff, reduceIte, q9_5, q9_54]; first | done | with_reducible rfl) ?_) | (refine WO.guardF (by simp only [S0, S1, decide_true, decide_false, Nat.reduceEqDiff, reduceIte, Int.reduceEq, Int.reduceLT, Int.reduceLE, *]; first | done | with_reducible rfl) ?_) | (refine WO.guardU (by simp only [S0, S1, decide_true, decide_false, Nat.reduceEqDiff, reduceIte, Int.reduceEq, Int.reduceLT, Int.reduceLE, *]; first | done | with_reducible rfl) ?_)
      refine WO.nil ?_
      first | (refine uK_q ?_) | (refine uK_e (by assumption) ?_)
      refine WU.q rfl ?_
      first | (refine WO.guardT (by simp only [S0, S1, decide_true, decide_false, Nat.reduceEqDiff, reduceIte, Int.reduceEq, Int.reduceLT, Int.reduceLE, *]; first | done | with_reducible rfl) ?_; refine WO.o (SlR.idx' (by first | (simp only [S0, Nat.reduceEqDiff, reduceIte, q9_54, q9_60]; first | done | with_reducible rfl) | (simp only [S0, S1, decide_true, decide_false, Nat.reduceEqDiff, reduceIte, Int.reduceEq, Int.reduceLT, Int.reduceLE, *]; first | done | with_reducible rfl)) (by first | (simp only [S0, Nat.reduceEqDiff, reduceIte, q9_54, q9_60]; first | done | rfl) | (simp only [S0, S1, decide_true, decide_false, Nat.reduceEqDiff, reduceIte, Int.reduceEq, Int.reduceLT, Int.reduceLE, *]; first | done | rfl)) (by assumption) (by first | omega | assumption | (simp only [List.length_map, List.length_set]; omega))) ?_) | (refine WO.guardF (by simp only [S0, S1, decide_true, decide_false, Nat.reduceEqDiff, reduceIte, Int.reduceEq, Int.reduceLT, Int.reduceLE, *]; first | done | with_reducible rfl) ?_) | (refine WO.guardU (by simp only [S0, S1, decide_true, decide_false, Nat.reduceEqDiff, reduceIte, Int.reduceEq, Int.reduceLT, Int.reduceLE, *]; first | done | with_reducible rfl) ?_)
      refine WO.nil ?_
      first | (refine uK_q ?_) | (refine uK_e (by assumption) ?_)
      refine WU.q rfl ?_
      first | (refine WO.guardT (by simp only [S0, S1, decide_true, decide_false, Nat.reduceEqDiff, reduceIte, Int.reduceEq, Int.reduceLT, Int.reduceLE, *]; first | done | with_reducible rfl) ?_; refine WO.o (fldP (by first | (simp only [S0, Nat.reduceEqDiff, reduceIte, q9_54]; first | done | with_reducible rfl) | (simp only [S0, S1, decide_true, decide_false, Nat.reduceEqDiff, reduceIte, Int.reduceEq, Int.reduceLT, Int.reduceLE, *]; first | done | with_reducible rfl)) (SlR.some (i := 0) (by assumption) (by first | omega | assumption | (simp only [List.length_map, List.length_set]; omega)))) ?_) | (refine WO.guardF (by simp only [S0, S1, decide_true, decide_false, Nat.reduceEqDiff, reduceIte, Int.reduceEq, Int.reduceLT, Int.reduceLE, *]; first | done | with_reducible rfl) ?_) | (refine WO.guardU (by simp only [S0, S1, decide_true, decide_false, Nat.reduceEqDiff, reduceIte, Int.reduceEq, Int.reduceLT, Int.reduceLE, *]; first | done | with_reducible rfl) ?_)
      refine WO.nil ?_
      first | (refine uK_q ?_) | (refine uK_e (by assumption) ?_)
      refine WU.q rfl ?_
      first | (refine WO.guardT (by simp only [S0, S1, decide_true, decide_false, Nat.reduceEqDiff, reduceIte, Int.reduceEq, Int.reduceLT, Int.reduceLE, *]; first | done | with_reducible rfl) ?_; first | (refine WO.o (Piece.load (by first | (simp only [S0, Nat.reduceEqDiff, reduceIte, q9_54]; first | done | with_reducible rfl) | (simp only [S0, S1, decide_true, decide_false, Nat.reduceEqDiff, reduceIte, Int.reduceEq, Int.reduceLT, Int.reduceLE, *]; first | done | with_reducible rfl)) (by assumption) (by decide) rfl) ?_) | (refine WO.o (Piece.load0 (by first | (simp only [S0, Nat.reduceEqDiff, reduceIte, q9_54]; first | done | with_reducible rfl) | (simp only [S0, S1, decide_true, decide_false, Nat.reduceEqDiff, reduceIte, Int.reduceEq, Int.reduceLT, Int.reduceLE, *]; first | done | with_reducible rfl)) (by assumption) (by decide) rfl) ?_)) | (refine WO.guardF (by simp only [S0, S1, decide_true, decide_false, Nat.reduceEqDiff, reduceIte, Int.reduceEq, Int.reduceLT, Int.reduceLE, *]; first | done | with_reducible rfl) ?_) | (refine WO.guardU (by simp only [S0, S1, decide_true, decide_false, Nat.reduceEqDiff, reduceIte, Int.reduceEq, Int.reduceLT, Int.reduceLE, *]; first | done | with_reducible rfl) ?_)
      refine WO.nil ?_
      first | (refine uK_q ?_) | (refine uK_e (by assumption) ?_)
      refine WU.q rfl ?_
      first | (refine WO.guardT (by simp only [S0, S1, decide_true, decide_false, Nat.reduceEqDiff, reduceIte, Int.reduceEq, Int.reduceLT, Int.reduceLE, *]; first | done | with_reducible rfl) ?_; refine WO.o (by simp only [aop, binV_neq, Option.map_some, S0, S1, decide_true, decide_false, Nat.reduceEqDiff, reduceIte, Int.reduceEq, Int.reduceLT, Int.reduceLE, *]; first | done | with_reducible rfl) ?_) | (refine WO.guardF (by simp only [S0, S1, decide_true, decide_false, Nat.reduceEqDiff, reduceIte, Int.reduceEq, Int.reduceLT, Int.reduceLE, *]; first | done | with_reducible rfl) ?_) | (refine WO.guardU (by simp only [S0, S1, decide_true, decide_false, Nat.reduceEqDiff, reduceIte, Int.reduceEq, Int.reduceLT, Int.reduceLE, *]; first | done | with_reducible rfl) ?_)
      refine WO.nil ?_
      first | (refine uK_q ?_) | (refine uK_e (by assumption) ?_)
      refine WU.q rfl ?_
      refine WO.o (by simp only [aop, pick_or, pick_and, S0, S1, decide_true, decide_false, Nat.reduceEqDiff, reduceIte, Int.reduceEq, Int.reduceLT, Int.reduceLE, *]; first | done | with_reducible rfl) ?_
      refine WO.nil ?_
      first | (refine uK_q ?_) | (refine uK_e (by assumption) ?_)
      refine WU.q rfl ?_
      refine WO.o (by simp only [aop, S0, Nat.reduceEqDiff, reduceIte]; first | done | with_reducible rfl) ?_
      refine WO.nil ?_
      first | (refine uK_q ?_) | (refine uK_e (by assumption) ?_)
      refine WU.q rfl ?_
      first | (refine WO.guardT (by simp only [S0, S1, decide_true, decide_false, Nat.reduceEqDiff, reduceIte, Int.reduceEq, Int.reduceLT, Int.reduceLE, *]; first | done | with_reducible rfl) ?_; refine WO.o (by simp only [aop, S0, Nat.reduceEqDiff, reduceIte, q9_0]; first | done | with_reducible rfl) ?_) | (refine WO.guardF (by simp only [S0, S1, decide_true, decide_false, Nat.reduceEqDiff, reduceIte, Int.reduceEq, Int.reduceLT, Int.reduceLE, *]; first | done | with_reducible rfl) ?_) | (refine WO.guardU (by simp only [S0, S1, decide_true, decide_false, Nat.reduceEqDiff, reduceIte, Int.reduceEq, Int.reduceLT, Int.reduceLE, *]; first | done | with_reducible rfl) ?_)
      refine WO.nil ?_
      first | (refine uK_q ?_) | (refine uK_e (by assumption) ?_)
      refine WU.q rfl ?_
      first | (refine WO.guardT (by simp only [S0, S1, decide_true, decide_false, Nat.reduceEqDiff, reduceIte, Int.reduceEq, Int.reduceLT, Int.reduceLE, *]; first | done | with_reducible rfl) ?_; refine WO.o (by simp only [aop, S0, Nat.reduceEqDiff, reduceIte, q9_5]; first | done | with_reducible rfl) ?_) | (refine WO.guardF (by simp only [S0, S1, decide_true, decide_false, Nat.reduceEqDiff, reduceIte, Int.reduceEq, Int.reduceLT, Int.reduceLE, *]; first | done | with_reducible rfl) ?_) | (refine WO.guardU (by simp only [S0, S1, decide_true, decide_false, Nat.reduceEqDiff, reduceIte, Int.reduceEq, Int.reduceLT, Int.reduceLE, *]; first | done | with_reducible rfl) ?_)
      refine WO.nil ?_
      first | (refine uK_q ?_) | (refine uK_e (by assumption) ?_)
      refine WU.q rfl ?_
      first | (refine WO.guardT (by simp only [S0, S1, decide_true, decide_false, Nat.reduceEqDiff, reduceIte, Int.reduceEq, Int.reduceLT, Int.reduceLE, *]; first | done | with_reducible rfl) ?_; refine WO.o (SlR.idx' (by first | (simp only [S0, Nat.reduceEqDiff, reduceIte]; first | done | with_reducible rfl) | (simp only [S0, S1, decide_true, decide_false, Nat.reduceEqDiff, reduceIte, Int.reduceEq, Int.reduceLT, Int.reduceLE, *]; first | done | with_reducible rfl)) (by first | (simp only [S0, Nat.reduceEqDiff, reduceIte]; first | done | rfl) | (simp only [S0, S1, decide_true, decide_false, Nat.reduceEqDiff, reduceIte, Int.reduceEq, Int.reduceLT, Int.reduceLE, *]; first | done | rfl)) (by assumption) (by first | omega | assumption | (simp only [List.length_map, List.length_set]; omega))) ?_) | (refine WO.guardF (by simp only [S0, S1, decide_true, decide_false, Nat.reduceEqDiff, reduceIte, Int.reduceEq, Int.reduceLT, Int.reduceLE, *]; first | done | with_reducible rfl) ?_) | (refine WO.guardU (by simp only [S0, S1, decide_true, decide_false, Nat.reduceEqDiff, reduceIte, Int.reduceEq, Int.reduceLT, Int.reduceLE, *]; first | done | with_reducible rfl) ?_)
      refine WO.nil ?_
      first | (refine uK_q ?_) | (refine uK_e (by assumption) ?_)
      refine WU.q rfl ?_
      first | (refine WO.guardT (by simp only [S0, S1, decide_true, decide_false, Nat.reduceEqDiff, reduceIte, Int.reduceEq, Int.reduceLT, Int.reduceLE, *]; first | done | with_reducible rfl) ?_; refine WO.o (fldP (by first | (simp only [S0, Nat.reduceEqDiff, reduceIte]; first | done | with_reducible rfl) | (simp only [S0, S1, decide_true, decide_false, Nat.reduceEqDiff, reduceIte, Int.reduceEq, Int.reduceLT, Int.reduceLE, *]; first | done | with_reducible rfl)) (SlR.some (i := 0) (by assumption) (by first | omega | assumption | (simp only [List.length_map, List.length_set]; omega)))) ?_) | (refine WO.guardF (by simp only [S0, S1, decide_true, decide_false, Nat.reduceEqDiff, reduceIte, Int.reduceEq, Int.reduceLT, Int.reduceLE, *]; first | done | with_reducible rfl) ?_) | (refine WO.guardU (by simp only [S0, S1, decide_true, decide_false, Nat.reduceEqDiff, reduceIte, Int.reduceEq, Int.reduceLT, Int.reduceLE, *]; first | done | with_reducible rfl) ?_)
      refine WO.nil ?_
      first | (refine uK_q ?_) | (refine uK_e (by assumption) ?_)
      refine WU.q rfl ?_
      first | (refine WO.guardT (by simp only [S0, S1, decide_true, decide_false, Nat.reduceEqDiff, reduceIte, Int.reduceEq, Int.reduceLT, Int.reduceLE, *]; first | done | with_reducible rfl) ?_; first | (refine WO.o (Piece.load (by first | (simp only [S0, Nat.reduceEqDiff, reduceIte]; first | done | with_reducible rfl) | (simp only [S0, S1, decide_true, decide_false, Nat.reduceEqDiff, reduceIte, Int.reduceEq, Int.reduceLT, Int.reduceLE, *]; first | done | with_reducible rfl)) (by assumption) (by decide) rfl) ?_) | (refine WO.o (Piece.load0 (by first | (simp only [S0, Nat.reduceEqDiff, reduceIte]; first | done | with_reducible rfl) | (simp only [S0, S1, decide_true, decide_false, Nat.reduceEqDiff, reduceIte, Int.reduceEq, Int.reduceLT, Int.reduceLE, *]; first | done | with_reducible rfl)) (by assumption) (by decide) rfl) ?_)) | (refine WO.guardF (by simp only [S0, S1, decide_true, decide_false, Nat.reduceEqDiff, reduceIte, Int.reduceEq, Int.reduceLT, Int.reduceLE, *]; first | done | with_reducible rfl) ?_) | (refine WO.guardU (by simp only [S0, S1, decide_true, decide_false, Nat.reduceEqDiff, reduceIte, Int.reduceEq, Int.reduceLT, Int.reduceLE, *]; first | done | with_reducible rfl) ?_)
      refine WO.nil ?_
      first | (refine uK_q ?_) | (refine uK_e (by assumption) ?_)
      refine WU.q rfl ?_
      first | (refine WO.guardT (by simp only [S0, S1, decide_true, decide_false, Nat.reduceEqDiff, reduceIte, Int.reduceEq, Int.reduceLT, Int.reduceLE, *]; first | done | with_reducible rfl) ?_; refine WO.o (by simp only [aop, S0, Nat.reduceEqDiff, reduceIte, q9_1]; first | done | with_reducible rfl) ?_) | (refine WO.guardF (by simp only [S0, S1, decide_true, decide_false, Nat.reduceEqDiff, reduceIte, Int.reduceEq, Int.reduceLT, Int.reduceLE, *]; first | done | with_reducible rfl) ?_) | (refine WO.guardU (by simp only [S0, S1, decide_true, decide_false, Nat.reduceEqDiff, reduceIte, Int.reduceEq, Int.reduceLT, Int.reduceLE, *]; first | done | with_reducible rfl) ?_)
      refine WO.nil ?_
      first | (refine uK_q ?_) | (refine uK_e (by assumption) ?_)
      refine WU.q rfl ?_
      first | (refine WO.guardT (by simp only [S0, S1, decide_true, decide_false, Nat.reduceEqDiff, reduceIte, Int.reduceEq, Int.reduceLT, Int.reduceLE, *]; first | done | with_reducible rfl) ?_; refine WO.o (by simp only [aop, S0, Nat.reduceEqDiff, reduceIte, q9_5]; first | done | with_reducible rfl) ?_) | (refine WO.guardF (by simp only [S0, S1, decide_true, decide_false, Nat.reduceEqDiff, reduceIte, Int.reduceEq, Int.reduceLT, Int.reduceLE, *]; first | done | with_reducible rfl) ?_) | (refine WO.guardU (by simp only [S0, S1, decide_true, decide_false, Nat.reduceEqDiff, reduceIte, Int.reduceEq, Int.reduceLT, Int.reduceLE, *]; first | done | with_reducible rfl) ?_)
      refine WO.nil ?_
      first | (refine uK_q ?_) | (refine uK_e (by assumption) ?_)
      refine WU.q rfl ?_
      first | (refine WO.guardT (by simp only [S0, S1, decide_true, decide_false, Nat.reduceEqDiff, reduceIte, Int.reduceEq, Int.reduceLT, Int.reduceLE, *]; first | done | with_reducible rfl) ?_; refine WO.o (SlR.idx' (by first | (simp only [S0, Nat.reduceEqDiff, reduceIte]; first | done | with_reducible rfl) | (simp only [S0, S1, decide_true, decide_false, Nat.reduceEqDiff, reduceIte, Int.reduceEq, Int.reduceLT, Int.reduceLE, *]; first | done | with_reducible rfl)) (by first | (simp only [S0, Nat.reduceEqDiff, reduceIte]; first | done | rfl) | (simp only [S0, S1, decide_true, decide_false, Nat.reduceEqDiff, reduceIte, Int.reduceEq, Int.reduceLT, Int.reduceLE, *]; first | done | rfl)) (by assumption) (by first | omega | assumption | (simp only [List.length_map, List.length_set]; omega))) ?_) | (refine WO.guardF (by simp only [S0, S1, decide_true, decide_false, Nat.reduceEqDiff, reduceIte, Int.reduceEq, Int.reduceLT, Int.reduceLE, *]; first | done | with_reducible rfl) ?_) | (refine WO.guardU (by simp only [S0, S1, decide_true, decide_false, Nat.reduceEqDiff, reduceIte, Int.reduceEq, Int.reduceLT, Int.reduceLE, *]; first | done | with_reducible rfl) ?_)
      refine WO.nil ?_
      first | (refine uK_q ?_) | (refine uK_e (by assumption) ?_)
      refine WU.q rfl ?_
      first | (refine WO.guardT (by simp only [S0, S1, decide_true, decide_false, Nat.reduceEqDiff, reduceIte, Int.reduceEq, Int.reduceLT, Int.reduceLE, *]; first | done | with_reducible rfl) ?_; refine WO.o (fldP (by first | (simp only [S0, Nat.reduceEqDiff, reduceIte]; first | done | with_reducible rfl) | (simp only [S0, S1, decide_true, decide_false, Nat.reduceEqDiff, reduceIte, Int.reduceEq, Int.reduceLT, Int.reduceLE, *]; first | done | with_reducible rfl)) (SlR.some (i := 0) (by assumption) (by first | omega | assumption | (simp only [List.length_map, List.length_set]; omega)))) ?_) | (refine WO.guardF (by simp only [S0, S1, decide_true, decide_false, Nat.reduceEqDiff, reduceIte, Int.reduceEq, Int.reduceLT, Int.reduceLE, *]; first | done | with_reducible rfl) ?_) | (refine WO.guardU (by simp only [S0, S1, decide_true, decide_false, Nat.reduceEqDiff, reduceIte, Int.reduceEq, Int.reduceLT, Int.reduceLE, *]; first | done | with_reducible rfl) ?_)
      refine WO.nil ?_
      first | (refine uK_q ?_) | (refine uK_e (by assumption) ?_)
      refine WU.q rfl ?_
      first | (refine WO.guardT (by simp only [S0, S1, decide_true, decide_false, Nat.reduceEqDiff, reduceIte, Int.reduceEq, Int.reduceLT, Int.reduceLE, *]; first | done | with_reducible rfl) ?_; first | (refine WO.o (Piece.load (by first | (simp only [S0, Nat.reduceEqDiff, reduceIte]; first | done | with_reducible rfl) | (simp only [S0, S1, decide_true, decide_false, Nat.reduceEqDiff, reduceIte, Int.reduceEq, Int.reduceLT, Int.reduceLE, *]; first | done | with_reducible rfl)) (by assumption) (by decide) rfl) ?_) | (refine WO.o (Piece.load0 (by first | (simp only [S0, Nat.reduceEqDiff, reduceIte]; first | done | with_reducible rfl) | (simp only [S0, S1, decide_true, decide_false, Nat.reduceEqDiff, reduceIte, Int.reduceEq, Int.reduceLT, Int.reduceLE, *]; first | done | with_reducible rfl)) (by assumption) (by decide) rfl) ?_)) | (refine WO.guardF (by simp only [S0, S1, decide_true, decide_false, Nat.reduceEqDiff, reduceIte, Int.reduceEq, Int.reduceLT, Int.reduceLE, *]; first | done | with_reducible rfl) ?_) | (refine WO.guardU (by simp only [S0, S1, decide_true, decide_false, Nat.reduceEqDiff, reduceIte, Int.reduceEq, Int.reduceLT, Int.reduceLE, *]; first | done | with_reducible rfl) ?_)
      refine WO.nil ?_
      first | (refine uK_q ?_) | (refine uK_e (by assumption) ?_)
      refine WU.q rfl ?_
      first | (refine WO.guardF (by first | (simp only [S0, Nat.reduceEqDiff, reduceIte]; first | done | with_reducible rfl) | (simp only [S0, S1, decide_true, decide_false, Nat.reduceEqDiff, reduceIte, Int.reduceEq, Int.reduceLT, Int.reduceLE, *]; first | done | with_reducible rfl)) ?_) | (refine WO.guardF (by simp only [S0, S1, decide_true, decide_false, Nat.reduceEqDiff, reduceIte, Int.reduceEq, Int.reduceLT, Int.reduceLE, *]; first | done | with_reducible rfl) ?_)
      refine WO.nil ?_
      first | (refine uK_q ?_) | (refine uK_e (by assumption) ?_)
      refine WU.q rfl ?_
      first | (refine WO.guardT (by simp only [S0, S1, decide_true, decide_false, Nat.reduceEqDiff, reduceIte, Int.reduceEq, Int.reduceLT, Int.reduceLE, *]; first | done | with_reducible rfl) ?_; refine WO.o (by simp only [aop, unV, Option.map_some, S0, S1, decide_true, decide_false, Nat.reduceEqDiff, reduceIte, Int.reduceEq, Int.reduceLT, Int.reduceLE, *]; first | done | with_reducible rfl) ?_) | (refine WO.guardF (by simp only [S0, S1, decide_true, decide_false, Nat.reduceEqDiff, reduceIte, Int.reduceEq, Int.reduceLT, Int.reduceLE, *]; first | done | with_reducible rfl) ?_) | (refine WO.guardU (by simp only [S0, S1, decide_true, decide_false, Nat.reduceEqDiff, reduceIte, Int.reduceEq, Int.reduceLT, Int.reduceLE, *]; first | done | with_reducible rfl) ?_)
      refine WO.nil ?_
      first | (refine uK_q ?_) | (refine uK_e (by assumption) ?_)
      refine WU.q rfl ?_
      refine WO.o (by simp only [aop, pick_or, pick_and, S0, S1, decide_true, decide_false, Nat.reduceEqDiff, reduceIte, Int.reduceEq, Int.reduceLT, Int.reduceLE, *]; first | done | with_reducible rfl) ?_
      refine WO.nil ?_
      first | (refine uK_nil ?_) | (refine uK_ne (by assumption) ?_)
      refine thenK_normal ?_
      first | (refine WX.condT (by simp only [S0, Nat.reduceEqDiff, reduceIte, q9_0, q9_1, q9_5, q9_54, q9_59, q9_60]; first | done | with_reducible rfl) ?_) | (refine WX.condT (by simp only [S0, S1, decide_true, decide_false, Nat.reduceEqDiff, reduceIte, Int.reduceEq, Int.reduceLT, Int.reduceLE, *]; first | done | with_reducible rfl) ?_)
      refine WX.seq ?_
      refine WX.region ?_
      refine WO.o (by simp only [aop, S0, Nat.reduceEqDiff, reduceIte]; first | done | with_reducible rfl) ?_
      refine WO.nil ?_
      refine thenK_normal ?_
      refine WX.ret ?_
      refine blockK_ret ?_
      refine thenK_ret ?_
      refine loopK_ret ?_
      refine blockK_ret ?_
      refine thenK_ret ?_
      first | (refine retK_ret (by simp only [resultsA, resultA, S0, Nat.reduceEqDiff, reduceIte, q9_0, q9_1, q9_5, q9_54, q9_59, q9_60]; rfl) ?_) | (refine retK_ret (by simp only [resultsA, resultA, S0, S1, decide_true, decide_false, Nat.reduceEqDiff, reduceIte, Int.reduceEq, Int.reduceLT, Int.reduceLE, *]; rfl) ?_)
      refine ⟨?_, rfl⟩
      rcases hne with e | e
      · exact absurd (by injection e) c4
      · rw [decide_eq_false e]; rfl
    subst c1 c2 c3 c4
    refine WX.regionU0 rfl rfl ?_ rfl
    refine WU.q rfl ?_
    refine WO.o (by simp only [aop, S0, Nat.reduceEqDiff, reduceIte, p1_0]; first | done | with_reducible rfl) ?_
    refine WO.nil ?_
    first | (refine uK_q ?_) | (refine uK_e (by assumption) ?_)
    refine WU.q rfl ?_
    refine WO.o (by simp only [aop, S0, Nat.reduceEqDiff, reduceIte, s5]; first | done | with_reducible rfl) ?_
    refine WO.nil ?_
    first | (refine uK_q ?_) | (refine uK_e (by assumption) ?_)
    refine WU.q rfl ?_
    refine WO.o (SlR.idx' (by first | (simp only [S0, Nat.reduceEqDiff, reduceIte]; first | done | with_reducible rfl) | (simp only [S0, S1, decide_true, decide_false, Nat.reduceEqDiff, reduceIte, Int.reduceEq, Int.reduceLT, Int.reduceLE, *]; first | done | with_reducible rfl)) (by first | (simp only [S0, Nat.reduceEqDiff, reduceIte]; first | done | rfl) | (simp only [S0, S1, decide_true, decide_false, Nat.reduceEqDiff, reduceIte, Int.reduceEq, Int.reduceLT, Int.reduceLE, *]; first | done | rfl)) (by assumption) (by first | omega | assumption | (simp only [List.length_map, List.length_set]; omega))) ?_
    refine WO.nil ?_
    first | (refine uK_q ?_) | (refine uK_e (by assumption) ?_)
    refine WU.q rfl ?_
    refine WO.o (fldP (by first | (simp only [S0, Nat.reduceEqDiff, reduceIte]; first | done | with_reducible rfl) | (simp only [S0, S1, decide_true, decide_false, Nat.reduceEqDiff, reduceIte, Int.reduceEq, Int.reduceLT, Int.reduceLE, *]; first | done | with_reducible rfl)) (SlR.some (i := 0) (by assumption) (by first | omega | assumption | (simp only [List.length_map, List.length_set]; omega)))) ?_
    refine WO.nil ?_
    first | (refine uK_q ?_) | (refine uK_e (by assumption) ?_)
    refine WU.q rfl ?_
    first | (refine WO.o (Piece.load (by first | (simp only [S0, Nat.reduceEqDiff, reduceIte]; first | done | with_reducible rfl) | (simp only [S0, S1, decide_true, decide_false, Nat.reduceEqDiff, reduceIte, Int.reduceEq, Int.reduceLT, Int.reduceLE, *]; first | done | with_reducible rfl)) (by assumption) (by decide) rfl) ?_) | (refine WO.o (Piece.load0 (by first | (simp only [S0, Nat.reduceEqDiff, reduceIte]; first | done | with_reducible rfl) | (simp only [S0, S1, decide_true, decide_false, Nat.reduceEqDiff, reduceIte, Int.reduceEq, Int.reduceLT, Int.reduceLE, *]; first | done | with_reducible rfl)) (by assumption) (by decide) rfl) ?_)
    refine WO.nil ?_
    first | (refine uK_q ?_) | (refine uK_e (by assumption) ?_)
    refine WU.q rfl ?_
    refine WO.o (by simp only [aop, S0, Nat.reduceEqDiff, reduceIte, p1_1]; first | done | with_reducible rfl) ?_
    refine WO.nil ?_
    first | (refine uK_q ?_) | (refine uK_e (by assumption) ?_)
    refine WU.q rfl ?_
    refine WO.o (by simp only [aop, S0, Nat.reduceEqDiff, reduceIte, s5]; first | done | with_reducible rfl) ?_
    refine WO.nil ?_
    first | (refine uK_q ?_) | (refine uK_e (by assumption) ?_)
    refine WU.q rfl ?_
    refine WO.o (SlR.idx' (by first | (simp only [S0, Nat.reduceEqDiff, reduceIte]; first | done | with_reducible rfl) | (simp only [S0, S1, decide_true, decide_false, Nat.reduceEqDiff, reduceIte, Int.reduceEq, Int.reduceLT, Int.reduceLE, *]; first | done | with_reducible rfl)) (by first | (simp only [S0, Nat.reduceEqDiff, reduceIte]; first | done | rfl) | (simp only [S0, S1, decide_true, decide_false, Nat.reduceEqDiff, reduceIte, Int.reduceEq, Int.reduceLT, Int.reduceLE, *]; first | done | rfl)) (by assumption) (by first | omega | assumption | (simp only [List.length_map, List.length_set]; omega))) ?_
    refine WO.nil ?_
    first | (refine uK_q ?_) | (refine uK_e (by assumption) ?_)
    refine WU.q rfl ?_
    refine WO.o (fldP (by first | (simp only [S0, Nat.reduceEqDiff, reduceIte]; first | done | with_reducible rfl) | (simp only [S0, S1, decide_true, decide_false, Nat.reduceEqDiff, reduceIte, Int.reduceEq, Int.reduceLT, Int.reduceLE, *]; first | done | with_reducible rfl)) (SlR.some (i := 0) (by assumption) (by first | omega | assumption | (simp only [List.length_map, List.length_set]; omega)))) ?_
    refine WO.nil ?_
    first | (refine uK_q ?_) | (refine uK_e (by assumption) ?_)
    refine WU.q rfl ?_
    first | (refine WO.o (Piece.load (by first | (simp only [S0, Nat.reduceEqDiff, reduceIte]; first | done | with_reducible rfl) | (simp only [S0, S1, decide_true, decide_false, Nat.reduceEqDiff, reduceIte, Int.reduceEq, Int.reduceLT, Int.reduceLE, *]; first | done | with_reducible rfl)) (by assumption) (by decide) rfl) ?_) | (refine WO.o (Piece.load0 (by first | (simp only [S0, Nat.reduceEqDiff, reduceIte]; first | done | with_reducible rfl) | (simp only [S0, S1, decide_true, decide_false, Nat.reduceEqDiff, reduceIte, Int.reduceEq, Int.reduceLT, Int.reduceLE, *]; first | done | with_reducible rfl)) (by assumption) (by decide) rfl) ?_)
    refine WO.nil ?_
    first | (refine uK_q ?_) | (refine uK_e (by assumption) ?_)
    refine WU.q rfl ?_
    refine WO.o (by simp only [aop, binV_neq, Option.map_some, S0, S1, decide_true, decide_false, Nat.reduceEqDiff, reduceIte, Int.reduceEq, Int.reduceLT, Int.reduceLE, *]; first | done | with_reducible rfl) ?_
    refine WO.nil ?_
    first | (refine uK_q ?_) | (refine uK_e (by assumption) ?_)
    refine WU.q rfl ?_
    refine WO.o (by simp only [aop, S0, Nat.reduceEqDiff, reduceIte]; first | done | with_reducible rfl) ?_
    refine WO.nil ?_
    first | (refine uK_q ?_) | (refine uK_e (by assumption) ?_)
    refine WU.q rfl ?_
    first | (refine WO.guardT (by simp only [S0, S1, decide_true, decide_false, Nat.reduceEqDiff, reduceIte, Int.reduceEq, Int.reduceLT, Int.reduceLE, *]; first | done | with_reducible rfl) ?_; refine WO.o (by simp only [aop, S0, Nat.reduceEqDiff, reduceIte, p1_0]; first | done | with_reducible rfl) ?_) | (refine WO.guardF (by simp only [S0, S1, decide_true, decide_false, Nat.reduceEqDiff, reduceIte, Int.reduceEq, Int.reduceLT, Int.reduceLE, *]; first | done | with_reducible rfl) ?_) | (refine WO.guardU (by simp only [S0, S1, decide_true, decide_false, Nat.reduceEqDiff, reduceIte, Int.reduceEq, Int.reduceLT, Int.reduceLE, *]; first | done | with_reducible rfl) ?_)
    refine WO.nil ?_
    first | (refine uK_q ?_) | (refine uK_e (by assumption) ?_)
    refine WU.q rfl ?_
    first | (refine WO.guardT (by simp only [S0, S1, decide_true, decide_false, Nat.reduceEqDiff, reduceIte, Int.reduceEq, Int.reduceLT, Int.reduceLE, *]; first | done | with_reducible rfl) ?_; refine WO.o (by simp only [aop, S0, Nat.reduceEqDiff, reduceIte, s5]; first | done | with_reducible rfl) ?_) | (refine WO.guardF (by simp only [S0, S1, decide_true, decide_false, Nat.reduceEqDiff, reduceIte, Int.reduceEq, Int.reduceLT, Int.reduceLE, *]; first | done | with_reducible rfl) ?_) | (refine WO.guardU (by simp only [S0, S1, decide_true, decide_false, Nat.reduceEqDiff, reduceIte, Int.reduceEq, Int.reduceLT, Int.reduceLE, *]; first | done | with_reducible rfl) ?_)
    refine WO.nil ?_
    first | (refine uK_q ?_) | (refine uK_e (by assumption) ?_)
    refine WU.q rfl ?_
    first | (refine WO.guardT (by simp only [S0, S1, decide_true, decide_false, Nat.reduceEqDiff, reduceIte, Int.reduceEq, Int.reduceLT, Int.reduceLE, *]; first | done | with_reducible rfl) ?_; refine WO.o (SlR.idx' (by first | (simp only [S0, Nat.reduceEqDiff, reduceIte]; first | done | with_reducible rfl) | (simp only [S0, S1, decide_true, decide_false, Nat.reduceEqDiff, reduceIte, Int.reduceEq, Int.reduceLT, Int.reduceLE, *]; first | done | with_reducible rfl)) (by first | (simp only [S0, Nat.reduceEqDiff, reduceIte]; first | done | rfl) | (simp only [S0, S1, decide_true, decide_false, Nat.reduceEqDiff, reduceIte, Int.reduceEq, Int.reduceLT, Int.reduceLE, *]; first | done | rfl)) (by assumption) (by first | omega | assumption | (simp only [List.length_map, List.length_set]; omega))) ?_) | (refine WO.guardF (by simp only [S0, S1, decide_true, decide_false, Nat.reduceEqDiff, reduceIte, Int.reduceEq, Int.reduceLT, Int.reduceLE, *]; first | done | with_reducible rfl) ?_) | (refine WO.guardU (by simp only [S0, S1, decide_true, decide_false, Nat.reduceEqDiff, reduceIte, Int.reduceEq, Int.reduceLT, Int.reduceLE, *]; first | done | with_reducible rfl) ?_)
    refine WO.nil ?_
    first | (refine uK_q ?_) | (refine uK_e (by assumption) ?_)
    refine WU.q rfl ?_
    first | (refine WO.guardT (by simp only [S0, S1, decide_true, decide_false, Nat.reduceEqDiff, reduceIte, Int.reduceEq, Int.reduceLT, Int.reduceLE, *]; first | done | with_reducible rfl) ?_; refine WO.o (fldP (by first | (simp only [S0, Nat.reduceEqDiff, reduceIte]; first | done | with_reducible rfl) | (simp only [S0, S1, decide_true, decide_false, Nat.reduceEqDiff, reduceIte, Int.reduceEq, Int.reduceLT, Int.reduceLE, *]; first | done | with_reducible rfl)) (SlR.some (i := 0) (by assumption) (by first | omega | assumption | (simp only [List.length_map, List.length_set]; omega)))) ?_) | (refine WO.guardF (by simp only [S0, S1, decide_true, decide_false, Nat.reduceEqDiff, reduceIte, Int.reduceEq, Int.reduceLT, Int.reduceLE, *]; first | done | with_reducible rfl) ?_) | (refine WO.guardU (by simp only [S0, S1, decide_true, decide_false, Nat.reduceEqDiff, reduceIte, Int.reduceEq, Int.reduceLT, Int.reduceLE, *]; first | done | with_reducible rfl) ?_)
    refine WO.nil ?_
    first | (refine uK_q ?_) | (refine uK_e (by assumption) ?_)
    refine WU.q rfl ?_
    first | (refine WO.guardT (by simp only [S0, S1, decide_true, decide_false, Nat.reduceEqDiff, reduceIte, Int.reduceEq, Int.reduceLT, Int.reduceLE, *]; first | done | with_reducible rfl) ?_; first | (refine WO.o (Piece.load (by first | (simp only [S0, Nat.reduceEqDiff, reduceIte]; first | done | with_reducible rfl) | (simp only [S0, S1, decide_true, decide_false, Nat.reduceEqDiff, reduceIte, Int.reduceEq, Int.reduceLT, Int.reduceLE, *]; first | done | with_reducible rfl)) (by assumption) (by decide) rfl) ?_) | (refine WO.o (Piece.load0 (by first | (simp only [S0, Nat.reduceEqDiff, reduceIte]; first | done | with_reducible rfl) | (simp only [S0, S1, decide_true, decide_false, Nat.reduceEqDiff, reduceIte, Int.reduceEq, Int.reduceLT, Int.reduceLE, *]; first | done | with_reducible rfl)) (by assumption) (by decide) rfl) ?_)) | (refine WO.guardF (by simp only [S0, S1, decide_true, decide_false, Nat.reduceEqDiff, reduceIte, Int.reduceEq, Int.reduceLT, Int.reduceLE, *]; first | done | with_reducible rfl) ?_) | (refine WO.guardU (by simp only [S0, S1, decide_true, decide_false, Nat.reduceEqDiff, reduceIte, Int.reduceEq, Int.reduceLT, Int.reduceLE, *]; first | done | with_reducible rfl) ?_)
    refine WO.nil ?_
    first | (refine uK_q ?_) | (refine uK_e (by assumption) ?_)
    refine WU.q rfl ?_
    first | (refine WO.guardT (by simp only [S0, S1, decide_true, decide_false, Nat.reduceEqDiff, reduceIte, Int.reduceEq, Int.reduceLT, Int.reduceLE, *]; first | done | with_reducible rfl) ?_; refine WO.o (by simp only [aop, S0, Nat.reduceEqDiff, reduceIte, p1_1]; first | done | with_reducible rfl) ?_) | (refine WO.guardF (by simp only [S0, S1, decide_true, decide_false, Nat.reduceEqDiff, reduceIte, Int.reduceEq, Int.reduceLT, Int.reduceLE, *]; first | done | with_reducible rfl) ?_) | (refine WO.guardU (by simp only [S0, S1, decide_true, decide_false, Nat.reduceEqDiff, reduceIte, Int.reduceEq, Int.reduceLT, Int.reduceLE, *]; first | done | with_reducible rfl) ?_)
    refine WO.nil ?_
    first | (refine uK_q ?_) | (refine uK_e (by assumption) ?_)
    refine WU.q rfl ?_
    first | (refine WO.guardT (by simp only [S0, S1, decide_true, decide_false, Nat.reduceEqDiff, reduceIte, Int.reduceEq, Int.reduceLT, Int.reduceLE, *]; first | done | with_reducible rfl) ?_; refine WO.o (by simp only [aop, S0, Nat.reduceEqDiff, reduceIte, s5]; first | done | with_reducible rfl) ?_) | (refine WO.guardF (by simp only [S0, S1, decide_true, decide_false, Nat.reduceEqDiff, reduceIte, Int.reduceEq, Int.reduceLT, Int.reduceLE, *]; first | done | with_reducible rfl) ?_) | (refine WO.guardU (by simp only [S0, S1, decide_true, decide_false, Nat.reduceEqDiff, reduceIte, Int.reduceEq, Int.reduceLT, Int.reduceLE, *]; first | done | with_reducible rfl) ?_)
    refine WO.nil ?_
    first | (refine uK_q ?_) | (refine uK_e (by assumption) ?_)
    refine WU.q rfl ?_
    first | (refine WO.guardT (by simp only [S0, S1, decide_true, decide_false, Nat.reduceEqDiff, reduceIte, Int.reduceEq, Int.reduceLT, Int.reduceLE, *]; first | done | with_reducible rfl) ?_; refine WO.o (SlR.idx' (by first | (simp only [S0, Nat.reduceEqDiff, reduceIte]; first | done | with_reducible rfl) | (simp only [S0, S1, decide_true, decide_false, Nat.reduceEqDiff, reduceIte, Int.reduceEq, Int.reduceLT, Int.reduceLE, *]; first | done | with_reducible rfl)) (by first | (simp only [S0, Nat.reduceEqDiff, reduceIte]; first | done | rfl) | (simp only [S0, S1, decide_true, decide_false, Nat.reduceEqDiff, reduceIte, Int.reduceEq, Int.reduceLT, Int.reduceLE, *]; first | done | rfl)) (by assumption) (by first | omega | assumption | (simp only [List.length_map, List.length_set]; omega))) ?_) | (refine WO.guardF (by simp only [S0, S1, decide_true, decide_false, Nat.reduceEqDiff, reduceIte, Int.reduceEq, Int.reduceLT, Int.reduceLE, *]; first | done | with_reducible rfl) ?_) | (refine WO.guardU (by simp only [S0, S1, decide_true, decide_false, Nat.reduceEqDiff, reduceIte, Int.reduceEq, Int.reduceLT, Int.reduceLE, *]; first | done | with_reducible rfl) ?_)
    refine WO.nil ?_
    first | (refine uK_q ?_) | (refine uK_e (by assumption) ?_)
    refine WU.q rfl ?_
    refine WO.abs fun t10_ ht10_ => ?_
    have q10_0 := (ht10_ 0).trans (by simp only [S0, Nat.reduceEqDiff, reduceIte, p1_0]; first | done | with_reducible rfl)
    have q10_1 := (ht10_ 1).trans (by simp only [S0, Nat.reduceEqDiff, reduceIte, p1_1]; first | done | with_reducible rfl)
    have q10_5 := (ht10_ 5).trans (by simp only [S0, Nat.reduceEqDiff, reduceIte, s5]; first | done | with_reducible rfl)
    have q10_28 := (ht10_ 28).trans (by simp only [S0, Nat.reduceEqDiff, reduceIte]; first | done | with_reducible rfl)
    have q10_33 := (ht10_ 33).trans (by simp only [S0, Nat.reduceEqDiff, reduceIte]; first | done | with_reducible rfl)
    have q10_36 := (ht10_ 36).trans (by simp only [S0, Nat.reduceEqDiff, reduceIte]; first | done | with_reducible rfl)
    clear ht10_
    clear p1_0 p1_1 s5
    first | (refine WO.guardT (by simp only [S0, S1, decide_true, decide_false, Nat.reduceEqDiff, reduceIte, Int.reduceEq, Int.reduceLT, Int.reduceLE, *]; first | done | with_reducible rfl) ?_; refine WO.o (fldP (by first | (simp only [S0, Nat.reduceEqDiff, reduceIte, q10_28, q10_36]; first | done | with_reducible rfl) | (simp only [S0, S1, decide_true, decide_false, Nat.reduceEqDiff, reduceIte, Int.reduceEq, Int.reduceLT, Int.reduceLE, *]; first | done | with_reducible rfl)) (SlR.some (i := 0) (by assumption) (by first | omega | assumption | (simp only [List.length_map, List.length_set]; omega)))) ?_) | (refine WO.guardF (by simp only [S0, S1, decide_true, decide_false, Nat.reduceEqDiff, reduceIte, Int.reduceEq, Int.reduceLT, Int.reduceLE, *]; first | done | with_reducible rfl) ?_) | (refine WO.guardU (by simp only [S0, S1, decide_true, decide_false, Nat.reduceEqDiff, reduceIte, Int.reduceEq, Int.reduceLT, Int.reduceLE, *]; first | done | with_reducible rfl) ?_)
    refine WO.nil ?_
    first | (refine uK_q ?_) | (refine uK_e (by assumption) ?_)
    refine WU.q rfl ?_
    first | (refine WO.guardT (by simp only [S0, S1, decide_true, decide_false, Nat.reduceEqDiff, reduceIte, Int.reduceEq, Int.reduceLT, Int.reduceLE, *]; first | done | with_reducible rfl) ?_; first | (refine WO.o (Piece.load (by first | (simp only [S0, Nat.reduceEqDiff, reduceIte, q10_28]; first | done | with_reducible rfl) | (simp only [S0, S1, decide_true, decide_false, Nat.reduceEqDiff, reduceIte, Int.reduceEq, Int.reduceLT, Int.reduceLE, *]; first | done | with_reducible rfl)) (by assumption) (by decide) rfl) ?_) | (refine WO.o (Piece.load0 (by first | (simp only [S0, Nat.reduceEqDiff, reduceIte, q10_28]; first | done | with_reducible rfl) | (simp only [S0, S1, decide_true, decide_false, Nat.reduceEqDiff, reduceIte, Int.reduceEq, Int.reduceLT, Int.reduceLE, *]; first | done | with_reducible rfl)) (by assumption) (by decide) rfl) ?_)) | (refine WO.guardF (by simp only [S0, S1, decide_true, decide_false, Nat.reduceEqDiff, reduceIte, Int.reduceEq, Int.reduceLT, Int.reduceLE, *]; first | done | with_reducible rfl) ?_) | (refine WO.guardU (by simp only [S0, S1, decide_true, decide_false, Nat.reduceEqDiff, reduceIte, Int.reduceEq, Int.reduceLT, Int.reduceLE, *]; first | done | with_reducible rfl) ?_)
    refine WO.nil ?_
    first | (refine uK_q ?_) | (refine uK_e (by assumption) ?_)
    refine WU.q rfl ?_
    first | (refine WO.guardT (by simp only [S0, S1, decide_true, decide_false, Nat.reduceEqDiff, reduceIte, Int.reduceEq, Int.reduceLT, Int.reduceLE, *]; first | done | with_reducible rfl) ?_; refine WO.o (by simp only [aop, binV_neq, Option.map_some, S0, S1, decide_true, decide_false, Nat.reduceEqDiff, reduceIte, Int.reduceEq, Int.reduceLT, Int.reduceLE, *]; first | done | with_reducible rfl) ?_) | (refine WO.guardF (by simp only [S0, S1, decide_true, decide_false, Nat.reduceEqDiff, reduceIte, Int.reduceEq, Int.reduceLT, Int.reduceLE, *]; first | done | with_reducible rfl) ?_) | (refine WO.guardU (by simp only [S0, S1, decide_true, decide_false, Nat.reduceEqDiff, reduceIte, Int.reduceEq, Int.reduceLT, Int.reduceLE, *]; first | done | with_reducible rfl) ?_)
    refine WO.nil ?_
    first | (refine uK_q ?_) | (refine uK_e (by assumption) ?_)
    refine WU.q rfl ?_
    refine WO.o (by simp only [aop, pick_or, pick_and, S0, S1, decide_true, decide_false, Nat.reduceEqDiff, reduceIte, Int.reduceEq, Int.reduceLT, Int.reduceLE, *]; first | done | with_reducible rfl) ?_
    refine WO.nil ?_
    first | (refine uK_q ?_) | (refine uK_e (by assumption) ?_)
    refine WU.q rfl ?_
    refine WO.o (by simp only [aop, S0, Nat.reduceEqDiff, reduceIte]; first | done | with_reducible rfl) ?_
    refine WO.nil ?_
    first | (refine uK_q ?_) | (refine uK_e (by assumption) ?_)
    refine WU.q rfl ?_
    first | (refine WO.guardT (by simp only [S0, S1, decide_true, decide_false, Nat.reduceEqDiff, reduceIte, Int.reduceEq, Int.reduceLT, Int.reduceLE, *]; first | done | with_reducible rfl) ?_; refine WO.o (by simp only [aop, S0, Nat.reduceEqDiff, reduceIte, q10_0]; first | done | with_reducible rfl) ?_) | (refine WO.guardF (by simp only [S0, S1, decide_true, decide_false, Nat.reduceEqDiff, reduceIte, Int.reduceEq, Int.reduceLT, Int.reduceLE, *]; first | done | with_reducible rfl) ?_) | (refine WO.guardU (by simp only [S0, S1, decide_true, decide_false, Nat.reduceEqDiff, reduceIte, Int.reduceEq, Int.reduceLT, Int.reduceLE, *]; first | done | with_reducible rfl) ?_)
    refine WO.nil ?_
    first | (refine uK_q ?_) | (refine uK_e (by assumption) ?_)
    refine WU.q rfl ?_
    first | (refine WO.guardT (by simp only [S0, S1, decide_true, decide_false, Nat.reduceEqDiff, reduceIte, Int.reduceEq, Int.reduceLT, Int.reduceLE, *]; first | done | with_reducible rfl) ?_; refine WO.o (by simp only [aop, S0, Nat.reduceEqDiff, reduceIte, q10_5]; first | done | with_reducible rfl) ?_) | (refine WO.guardF (by simp only [S0, S1, decide_true, decide_false, Nat.reduceEqDiff, reduceIte, Int.reduceEq, Int.reduceLT, Int.reduceLE, *]; first | done | with_reducible rfl) ?_) | (refine WO.guardU (by simp only [S0, S1, decide_true, decide_false, Nat.reduceEqDiff, reduceIte, Int.reduceEq, Int.reduceLT, Int.reduceLE, *]; first | done | with_reducible rfl) ?_)
    refine WO.nil ?_
    first | (refine uK_q ?_) | (refine uK_e (by assumption) ?_)
    refine WU.q rfl ?_
    first | (refine WO.guardT (by simp only [S0, S1, decide_true, decide_false, Nat.reduceEqDiff, reduceIte, Int.reduceEq, Int.reduceLT, Int.reduceLE, *]; first | done | with_reducible rfl) ?_; refine WO.o (SlR.idx' (by first | (simp only [S0, Nat.reduceEqDiff, reduceIte]; first | done | with_reducible rfl) | (simp only [S0, S1, decide_true, decide_false, Nat.reduceEqDiff, reduceIte, Int.reduceEq, Int.reduceLT, Int.reduceLE, *]; first | done | with_reducible rfl)) (by first | (simp only [S0, Nat.reduceEqDiff, reduceIte]; first | done | rfl) | (simp only [S0, S1, decide_true, decide_false, Nat.reduceEqDiff, reduceIte, Int.reduceEq, Int.reduceLT, Int.reduceLE, *]; first | done | rfl)) (by assumption) (by first | omega | assumption | (simp only [List.length_map, List.length_set]; omega))) ?_) | (refine WO.guardF (by simp only [S0, S1, decide_true, decide_false, Nat.reduceEqDiff, reduceIte, Int.reduceEq, Int.reduceLT, Int.reduceLE, *]; first | done | with_reducible rfl) ?_) | (refine WO.guardU (by simp only [S0, S1, decide_true, decide_false, Nat.reduceEqDiff, reduceIte, Int.reduceEq, Int.reduceLT, Int.reduceLE, *]; first | done | with_reducible rfl) ?_)
    refine WO.nil ?_
    first | (refine uK_q ?_) | (refine uK_e (by assumption) ?_)
    refine WU.q rfl ?_
    first | (refine WO.guardT (by simp only [S0, S1, decide_true, decide_false, Nat.reduceEqDiff, reduceIte, Int.reduceEq, Int.reduceLT, Int.reduceLE, *]; first | done | with_reducible rfl) ?_; refine WO.o (fldP (by first | (simp only [S0, Nat.reduceEqDiff, reduceIte]; first | done | with_reducible rfl) | (simp only [S0, S1, decide_true, decide_false, Nat.reduceEqDiff, reduceIte, Int.reduceEq, Int.reduceLT, Int.reduceLE, *]; first | done | with_reducible rfl)) (SlR.some (i := 0) (by assumption) (by first | omega | assumption | (simp only [List.length_map, List.length_set]; omega)))) ?_) | (refine WO.guardF (by simp only [S0, S1, decide_true, decide_false, Nat.reduceEqDiff, reduceIte, Int.reduceEq, Int.reduceLT, Int.reduceLE, *]; first | done | with_reducible rfl) ?_) | (refine WO.guardU (by simp only [S0, S1, decide_true, decide_false, Nat.reduceEqDiff, reduceIte, Int.reduceEq, Int.reduceLT, Int.reduceLE, *]; first | done | with_reducible rfl) ?_)
    refine WO.nil ?_
    first | (refine uK_q ?_) | (refine uK_e (by assumption) ?_)
    refine WU.q rfl ?_
    first | (refine WO.guardT (by simp only [S0, S1, decide_true, decide_false, Nat.reduceEqDiff, reduceIte, Int.reduceEq, Int.reduceLT, Int.reduceLE, *]; first | done | with_reducible rfl) ?_; first | (refine WO.o (Piece.load (by first | (simp only [S0, Nat.reduceEqDiff, reduceIte]; first | done | with_reducible rfl) | (simp only [S0, S1, decide_true, decide_false, Nat.reduceEqDiff, reduceIte, Int.reduceEq, Int.reduceLT, Int.reduceLE, *]; first | done | with_reducible rfl)) (by assumption) (by decide) rfl) ?_) | (refine WO.o (Piece.load0 (by first | (simp only [S0, Nat.reduceEqDiff, reduceIte]; first | done | with_reducible rfl) | (simp only [S0, S1, decide_true, decide_false, Nat.reduceEqDiff, reduceIte, Int.reduceEq, Int.reduceLT, Int.reduceLE, *]; first | done | with_reducible rfl)) (by assumption) (by decide) rfl) ?_)) | (refine WO.guardF (by simp only [S0, S1, decide_true, decide_false, Nat.reduceEqDiff, reduceIte, Int.reduceEq, Int.reduceLT, Int.reduceLE, *]; first | done | with_reducible rfl) ?_) | (refine WO.guardU (by simp only [S0, S1, decide_true, decide_false, Nat.reduceEqDiff, reduceIte, Int.reduceEq, Int.reduceLT, Int.reduceLE, *]; first | done | with_reducible rfl) ?_)
    refine WO.nil ?_
    first | (refine uK_q ?_) | (refine uK_e (by assumption) ?_)
    refine WU.q rfl ?_
    first | (refine WO.guardT (by simp only [S0, S1, decide_true, decide_false, Nat.reduceEqDiff, reduceIte, Int.reduceEq, Int.reduceLT, Int.reduceLE, *]; first | done | with_reducible rfl) ?_; refine WO.o (by simp only [aop, S0, Nat.reduceEqDiff, reduceIte, q10_1]; first | done | with_reducible rfl) ?_) | (refine WO.guardF (by simp only [S0, S1, decide_true, decide_false, Nat.reduceEqDiff, reduceIte, Int.reduceEq, Int.reduceLT, Int.reduceLE, *]; first | done | with_reducible rfl) ?_) | (refine WO.guardU (by simp only [S0, S1, decide_true, decide_false, Nat.reduceEqDiff, reduceIte, Int.reduceEq, Int.reduceLT, Int.reduceLE, *]; first | done | with_reducible rfl) ?_)
    refine WO.nil ?_
    first | (refine uK_q ?_) | (refine uK_e (by assumption) ?_)
    refine WU.q rfl ?_
    first | (refine WO.guardT (by simp only [S0, S1, decide_true, decide_false, Nat.reduceEqDiff, reduceIte, Int.reduceEq, Int.reduceLT, Int.reduceLE, *]; first | done | with_reducible rfl) ?_; refine WO.o (by simp only [aop, S0, Nat.reduceEqDiff, reduceIte, q10_5]; first | done | with_reducible rfl) ?_) | (refine WO.guardF (by simp only [S0, S1, decide_true, decide_false, Nat.reduceEqDiff, reduceIte, Int.reduceEq, Int.reduceLT, Int.reduceLE, *]; first | done | with_reducible rfl) ?_) | (refine WO.guardU (by simp only [S0, S1, decide_true, decide_false, Nat.reduceEqDiff, reduceIte, Int.reduceEq, Int.reduceLT, Int.reduceLE, *]; first | done | with_reducible rfl) ?_)
    refine WO.nil ?_
    first | (refine uK_q ?_) | (refine uK_e (by assumption) ?_)
    refine WU.q rfl ?_
    first | (refine WO.guardT (by simp only [S0, S1, decide_true, decide_false, Nat.reduceEqDiff, reduceIte, Int.reduceEq, Int.reduceLT, Int.reduceLE, *]; first | done | with_reducible rfl) ?_; refine WO.o (SlR.idx' (by first | (simp only [S0, Nat.reduceEqDiff, reduceIte]; first | done | with_reducible rfl) | (simp only [S0, S1, decide_true, decide_false, Nat.reduceEqDiff, reduceIte, Int.reduceEq, Int.reduceLT, Int.reduceLE, *]; first | done | with_reducible rfl)) (by first | (simp only [S0, Nat.reduceEqDiff, reduceIte]; first | done | rfl) | (simp only [S0, S1, decide_true, decide_false, Nat.reduceEqDiff, reduceIte, Int.reduceEq, Int.reduceLT, Int.reduceLE, *]; first | done | rfl)) (by assumption) (by first | omega | assumption | (simp only [List.length_map, List.length_set]; omega))) ?_) | (refine WO.guardF (by simp only [S0, S1, decide_true, decide_false, Nat.reduceEqDiff, reduceIte, Int.reduceEq, Int.reduceLT, Int.reduceLE, *]; first | done | with_reducible rfl) ?_) | (refine WO.guardU (by simp only [S0, S1, decide_true, decide_false, Nat.reduceEqDiff, reduceIte, Int.reduceEq, Int.reduceLT, Int.reduceLE, *]; first | done | with_reducible rfl) ?_)
    refine WO.nil ?_
    first | (refine uK_q ?_) | (refine uK_e (by assumption) ?_)
    refine WU.q rfl ?_
    first | (refine WO.guardT (by simp only [S0, S1, decide_true, decide_false, Nat.reduceEqDiff, reduceIte, Int.reduceEq, Int.reduceLT, Int.reduceLE, *]; first | done | with_reducible rfl) ?_; refine WO.o (fldP (by first | (simp only [S0, Nat.reduceEqDiff, reduceIte]; first | done | with_reducible rfl) | (simp only [S0, S1, decide_true, decide_false, Nat.reduceEqDiff, reduceIte, Int.reduceEq, Int.reduceLT, Int.reduceLE, *]; first | done | with_reducible rfl)) (SlR.some (i := 0) (by assumption) (by first | omega | assumption | (simp only [List.length_map, List.length_set]; omega)))) ?_) | (refine WO.guardF (by simp only [S0, S1, decide_true, decide_false, Nat.reduceEqDiff, reduceIte, Int.reduceEq, Int.reduceLT, Int.reduceLE, *]; first | done | with_reducible rfl) ?_) | (refine WO.guardU (by simp only [S0, S1, decide_true, decide_false, Nat.reduceEqDiff, reduceIte, Int.reduceEq, Int.reduceLT, Int.reduceLE, *]; first | done | with_reducible rfl) ?_)
    refine WO.nil ?_
    first | (refine uK_q ?_) | (refine uK_e (by assumption) ?_)
    refine WU.q rfl ?_
    first | (refine WO.guardT (by simp only [S0, S1, decide_true, decide_false, Nat.reduceEqDiff, reduceIte, Int.reduceEq, Int.reduceLT, Int.reduceLE, *]; first | done | with_reducible rfl) ?_; first | (refine WO.o (Piece.load (by first | (simp only [S0, Nat.reduceEqDiff, reduceIte]; first | done | with_reducible rfl) | (simp only [S0, S1, decide_true, decide_false, Nat.reduceEqDiff, reduceIte, Int.reduceEq, Int.reduceLT, Int.reduceLE, *]; first | done | with_reducible rfl)) (by assumption) (by decide) rfl) ?_) | (refine WO.o (Piece.load0 (by first | (simp only [S0, Nat.reduceEqDiff, reduceIte]; first | done | with_reducible rfl) | (simp only [S0, S1, decide_true, decide_false, Nat.reduceEqDiff, reduceIte, Int.reduceEq, Int.reduceLT, Int.reduceLE, *]; first | done | with_reducible rfl)) (by assumption) (by decide) rfl) ?_)) | (refine WO.guardF (by simp only [S0, S1, decide_true, decide_false, Nat.reduceEqDiff, reduceIte, Int.reduceEq, Int.reduceLT, Int.reduceLE, *]; first | done | with_reducible rfl) ?_) | (refine WO.guardU (by simp only [S0, S1, decide_true, decide_false, Nat.reduceEqDiff, reduceIte, Int.reduceEq, Int.reduceLT, Int.reduceLE, *]; first | done | with_reducible rfl) ?_)
    refine WO.nil ?_
    first | (refine uK_q ?_) | (refine uK_e (by assumption) ?_)
    refine WU.q rfl ?_
    first | (refine WO.guardT (by simp only [S0, S1, decide_true, decide_false, Nat.reduceEqDiff, reduceIte, Int.reduceEq, Int.reduceLT, Int.reduceLE, *]; first | done | with_reducible rfl) ?_; refine WO.o (by simp only [aop, binV_neq, Option.map_some, S0, S1, decide_true, decide_false, Nat.reduceEqDiff, reduceIte, Int.reduceEq, Int.reduceLT, Int.reduceLE, *]; first | done | with_reducible rfl) ?_) | (refine WO.guardF (by simp only [S0, S1, decide_true, decide_false, Nat.reduceEqDiff, reduceIte, Int.reduceEq, Int.reduceLT, Int.reduceLE, *]; first | done | with_reducible rfl) ?_) | (refine WO.guardU (by simp only [S0, S1, decide_true, decide_false, Nat.reduceEqDiff, reduceIte, Int.reduceEq, Int.reduceLT, Int.reduceLE, *]; first | done | with_reducible rfl) ?_)
    refine WO.nil ?_
    first | (refine uK_q ?_) | (refine uK_e (by assumption) ?_)
    refine WU.q rfl ?_
    refine WO.o (by simp only [aop, pick_or, pick_and, S0, S1, decide_true, decide_false, Nat.reduceEqDiff, reduceIte, Int.reduceEq, Int.reduceLT, Int.reduceLE, *]; first | done | with_reducible rfl) ?_
    refine WO.nil ?_
    first | (refine uK_q ?_) | (refine uK_e (by assumption) ?_)
    refine WU.q rfl ?_
    refine WO.o (by simp only [aop, S0, Nat.reduceEqDiff, reduceIte]; first | done | with_reducible rfl) ?_
    refine WO.nil ?_
    first | (refine uK_q ?_) | (refine uK_e (by assumption) ?_)
    refine WU.q rfl ?_
    first | (refine WO.guardT (by simp only [S0, S1, decide_true, decide_false, Nat.reduceEqDiff, reduceIte, Int.reduceEq, Int.reduceLT, Int.reduceLE, *]; first | done | with_reducible rfl) ?_; refine WO.o (by simp only [aop, S0, Nat.reduceEqDiff, reduceIte, q10_0]; first | done | with_reducible rfl) ?_) | (refine WO.guardF (by simp only [S0, S1, decide_true, decide_false, Nat.reduceEqDiff, reduceIte, Int.reduceEq, Int.reduceLT, Int.reduceLE, *]; first | done | with_reducible rfl) ?_) | (refine WO.guardU (by simp only [S0, S1, decide_true, decide_false, Nat.reduceEqDiff, reduceIte, Int.reduceEq, Int.reduceLT, Int.reduceLE, *]; first | done | with_reducible rfl) ?_)
    refine WO.nil ?_
    first | (refine uK_q ?_) | (refine uK_e (by assumption) ?_)
    refine WU.q rfl ?_
    first | (refine WO.guardT (by simp only [S0, S1, decide_true, decide_false, Nat.reduceEqDiff, reduceIte, Int.reduceEq, Int.reduceLT, Int.reduceLE, *]; first | done | with_reducible rfl) ?_; refine WO.o (by simp only [aop, S0, Nat.reduceEqDiff, reduceIte, q10_5]; first | done | with_reducible rfl) ?_) | (refine WO.guardF (by simp only [S0, S1, decide_true, decide_false, Nat.reduceEqDiff, reduceIte, Int.reduceEq, Int.reduceLT, Int.reduceLE, *]; first | done | with_reducible rfl) ?_) | (refine WO.guardU (by simp only [S0, S1, decide_true, decide_false, Nat.reduceEqDiff, reduceIte, Int.reduceEq, Int.reduceLT, Int.reduceLE, *]; first | done | with_reducible rfl) ?_)
    refine WO.nil ?_
    first | (refine uK_q ?_) | (refine uK_e (by assumption) ?_)
    refine WU.q rfl ?_
    first | (refine WO.guardT (by simp only [S0, S1, decide_true, decide_false, Nat.reduceEqDiff, reduceIte, Int.reduceEq, Int.reduceLT, Int.reduceLE, *]; first | done | with_reducible rfl) ?_; refine WO.o (SlR.idx' (by first | (simp only [S0, Nat.reduceEqDiff, reduceIte]; first | done | with_reducible rfl) | (simp only [S0, S1, decide_true, decide_false, Nat.reduceEqDiff, reduceIte, Int.reduceEq, Int.reduceLT, Int.reduceLE, *]; first | done | with_reducible rfl)) (by first | (simp only [S0, Nat.reduceEqDiff, reduceIte]; first | done | rfl) | (simp only [S0, S1, decide_true, decide_false, Nat.reduceEqDiff, reduceIte, Int.reduceEq, Int.reduceLT, Int.reduceLE, *]; first | done | rfl)) (by assumption) (by first | omega | assumption | (simp only [List.length_map, List.length_set]; omega))) ?_) | (refine WO.guardF (by simp only [S0, S1, decide_true, decide_false, Nat.reduceEqDiff, reduceIte, Int.reduceEq, Int.reduceLT, Int.reduceLE, *]; first | done | with_reducible rfl) ?_) | (refine WO.guardU (by simp only [S0, S1, decide_true, decide_false, Nat.reduceEqDiff, reduceIte, Int.reduceEq, Int.reduceLT, Int.reduceLE, *]; first | done | with_reducible rfl) ?_)
    refine WO.nil ?_
    first | (refine uK_q ?_) | (refine uK_e (by assumption) ?_)
    refine WU.q rfl ?_
    first | (refine WO.guardT (by simp only [S0, S1, decide_true, decide_false, Nat.reduceEqDiff, reduceIte, Int.reduceEq, Int.reduceLT, Int.reduceLE, *]; first | done | with_reducible rfl) ?_; refine WO.o (fldP (by first | (simp only [S0, Nat.reduceEqDiff, reduceIte]; first | done | with_reducible rfl) | (simp only [S0, S1, decide_true, decide_false, Nat.reduceEqDiff, reduceIte, Int.reduceEq, Int.reduceLT, Int.reduceLE, *]; first | done | with_reducible rfl)) (SlR.some (i := 0) (by assumption) (by first | omega | assumption | (simp only [List.length_map, List.length_set]; omega)))) ?_) | (refine WO.guardF (by simp only [S0, S1, decide_true, decide_false, Nat.reduceEqDiff, reduceIte, Int.reduceEq, Int.reduceLT, Int.reduceLE, *]; first | done | with_reducible rfl) ?_) | (refine WO.guardU (by simp only [S0, S1, decide_true, decide_false, Nat.reduceEqDiff, reduceIte, Int.reduceEq, Int.reduceLT, Int.reduceLE, *]; first | done | with_reducible rfl) ?_)
    refine WO.nil ?_
    first | (refine uK_q ?_) | (refine uK_e (by assumption) ?_)
    refine WU.q rfl ?_
    first | (refine WO.guardT (by simp only [S0, S1, decide_true, decide_false, Nat.reduceEqDiff, reduceIte, Int.reduceEq, Int.reduceLT, Int.reduceLE, *]; first | done | with_reducible rfl) ?_; first | (refine WO.o (Piece.load (by first | (simp only [S0, Nat.reduceEqDiff, reduceIte]; first | done | with_reducible rfl) | (simp only [S0, S1, decide_true, decide_false, Nat.reduceEqDiff, reduceIte, Int.reduceEq, Int.reduceLT, Int.reduceLE, *]; first | done | with_reducible rfl)) (by assumption) (by decide) rfl) ?_) | (refine WO.o (Piece.load0 (by first | (simp only [S0, Nat.reduceEqDiff, reduceIte]; first | done | with_reducible rfl) | (simp only [S0, S1, decide_true, decide_false, Nat.reduceEqDiff, reduceIte, Int.reduceEq, Int.reduceLT, Int.reduceLE, *]; first | done | with_reducible rfl)) (by assumption) (by decide) rfl) ?_)) | (refine WO.guardF (by simp only [S0, S1, decide_true, decide_false, Nat.reduceEqDiff, reduceIte, Int.reduceEq, Int.reduceLT, Int.reduceLE, *]; first | done | with_reducible rfl) ?_) | (refine WO.guardU (by simp only [S0, S1, decide_true, decide_false, Nat.reduceEqDiff, reduceIte, Int.reduceEq, Int.reduceLT, Int.reduceLE, *]; first | done | with_reducible rfl) ?_)
    refine WO.nil ?_
    first | (refine uK_q ?_) | (refine uK_e (by assumption) ?_)
    refine WU.q rfl ?_
    first | (refine WO.guardT (by simp only [S0, S1, decide_true, decide_false, Nat.reduceEqDiff, reduceIte, Int.reduceEq, Int.reduceLT, Int.reduceLE, *]; first | done | with_reducible rfl) ?_; refine WO.o (by simp only [aop, S0, Nat.reduceEqDiff, reduceIte, q10_1]; first | done | with_reducible rfl) ?_) | (refine WO.guardF (by simp only [S0, S1, decide_true, decide_false, Nat.reduceEqDiff, reduceIte, Int.reduceEq, Int.reduceLT, Int.reduceLE, *]; first | done | with_reducible rfl) ?_) | (refine WO.guardU (by simp only [S0, S1, decide_true, decide_false, Nat.reduceEqDiff, reduceIte, Int.reduceEq, Int.reduceLT, Int.reduceLE, *]; first | done | with_reducible rfl) ?_)
    refine WO.nil ?_
    first | (refine uK_q ?_) | (refine uK_e (by assumption) ?_)
    refine WU.q rfl ?_
    refine WO.abs fun t11_ ht11_ => ?_
    have q11_0 := (ht11_ 0).trans (by simp only [S0, Nat.reduceEqDiff, reduceIte, q10_0]; first | done | with_reducible rfl)
    have q11_1 := (ht11_ 1).trans (by simp only [S0, Nat.reduceEqDiff, reduceIte, q10_1]; first | done | with_reducible rfl)
    have q11_5 := (ht11_ 5).trans (by simp only [S0, Nat.reduceEqDiff, reduceIte, q10_5]; first | done | with_reducible rfl)
    have q11_54 := (ht11_ 54).trans (by simp only [S0, Nat.reduceEqDiff, reduceIte]; first | done | with_reducible rfl)
    have q11_59 := (ht11_ 59).trans (by simp only [S0, Nat.reduceEqDiff, reduceIte]; first | done | with_reducible rfl)
    have q11_60 := (ht11_ 60).trans (by simp only [S0, Nat.reduceEqDiff, reduceIte]; first | done | with_reducible rfl)
    clear ht11_
    clear q10_0 q10_1 q10_5 q10_28 q10_33 q10_36
    first | (refine WO.guardT (by simp only [S0, S1, decide_true, decide_false, Nat.reduceEqDiff, reduceIte, Int.reduceEq, Int.reduceLT, Int.reduceLE, *]; first | done | with_reducible rfl) ?_; refine WO.o (by simp only [aop, S0, Nat.reduceEqDiff, reduceIte, q11_5, q11_54]; first | done | with_reducible rfl) ?_) | (refine WO.guardF (by simp only [S0, S1, decide_true, decide_false, Nat.reduceEqDiff, reduceIte, Int.reduceEq, Int.reduceLT, Int.reduceLE, *]; first | done | with_reducible rfl) ?_) | (refine WO.guardU (by simp only [S0, S1, decide_true, decide_false, Nat.reduceEqDiff, reduceIte, Int.reduceEq, Int.reduceLT, Int.reduceLE, *]; first | done | with_reducible rfl) ?_)
    refine WO.nil ?_
    first | (refine uK_q ?_) | (refine uK_e (by assumption) ?_)
    refine WU.q rfl ?_
    first | (refine WO.guardT (by simp only [S0, S1, decide_true, decide_false, Nat.reduceEqDiff, reduceIte, Int.reduceEq, Int.reduceLT, Int.reduceLE, *]; first | done | with_reducible rfl) ?_; refine WO.o (SlR.idx' (by first | (simp only [S0, Nat.reduceEqDiff, reduceIte, q11_54, q11_60]; first | done | with_reducible rfl) | (simp only [S0, S1, decide_true, decide_false, Nat.reduceEqDiff, reduceIte, Int.reduceEq, Int.reduceLT, Int.reduceLE, *]; first | done | with_reducible rfl)) (by first | (simp only [S0, Nat.reduceEqDiff, reduceIte, q11_54, q11_60]; first | done | rfl) | (simp only [S0, S1, decide_true, decide_false, Nat.reduceEqDiff, reduceIte, Int.reduceEq, Int.reduceLT, Int.reduceLE, *]; first | done | rfl)) (by assumption) (by first | omega | assumption | (simp only [List.length_map, List.length_set]; omega))) ?_) | (refine WO.guardF (by simp only [S0, S1, decide_true, decide_false, Nat.reduceEqDiff, reduceIte, Int.reduceEq, Int.reduceLT, Int.reduceLE, *]; first | done | with_reducible rfl) ?_) | (refine WO.guardU (by simp only [S0, S1, decide_true, decide_false, Nat.reduceEqDiff, reduceIte, Int.reduceEq, Int.reduceLT, Int.reduceLE, *]; first | done | with_reducible rfl) ?_)
    refine WO.nil ?_
    first | (refine uK_q ?_) | (refine uK_e (by assumption) ?_)
    refine WU.q rfl ?_
    first | (refine WO.guardT (by simp only [S0, S1, decide_true, decide_false, Nat.reduceEqDiff, reduceIte, Int.reduceEq, Int.reduceLT, Int.reduceLE, *]; first | done | with_reducible rfl) ?_; refine WO.o (fldP (by first | (simp only [S0, Nat.reduceEqDiff, reduceIte, q11_54]; first | done | with_reducible rfl) | (simp only [S0, S1, decide_true, decide_false, Nat.reduceEqDiff, reduceIte, Int.reduceEq, Int.reduceLT, Int.reduceLE, *]; first | done | with_reducible rfl)) (SlR.some (i := 0) (by assumption) (by first | omega | assumption | (simp only [List.length_map, List.length_set]; omega)))) ?_) | (refine WO.guardF (by simp only [S0, S1, decide_true, decide_false, Nat.reduceEqDiff, reduceIte, Int.reduceEq, Int.reduceLT, Int.reduceLE, *]; first | done | with_reducible rfl) ?_) | (refine WO.guardU (by simp only [S0, S1, decide_true, decide_false, Nat.reduceEqDiff, reduceIte, Int.reduceEq, Int.reduceLT, Int.reduceLE, *]; first | done | with_reducible rfl) ?_)
    refine WO.nil ?_
    first | (refine uK_q ?_) | (refine uK_e (by assumption) ?_)
    refine WU.q rfl ?_
    first | (refine WO.guardT (by simp only [S0, S1, decide_true, decide_false, Nat.reduceEqDiff, reduceIte, Int.reduceEq, Int.reduceLT, Int.reduceLE, *]; first | done | with_reducible rfl) ?_; first | (refine WO.o (Piece.load (by first | (simp only [S0, Nat.reduceEqDiff, reduceIte, q11_54]; first | done | with_reducible rfl) | (simp only [S0, S1, decide_true, decide_false, Nat.reduceEqDiff, reduceIte, Int.reduceEq, Int.reduceLT, Int.reduceLE, *]; first | done | with_reducible rfl)) (by assumption) (by decide) rfl) ?_) | (refine WO.o (Piece.load0 (by first | (simp only [S0, Nat.reduceEqDiff, reduceIte, q11_54]; first | done | with_reducible rfl) | (simp only [S0, S1, decide_true, decide_false, Nat.reduceEqDiff, reduceIte, Int.reduceEq, Int.reduceLT, Int.reduceLE, *]; first | done | with_reducible rfl)) (by assumption) (by decide) rfl) ?_)) | (refine WO.guardF (by simp only [S0, S1, decide_true, decide_false, Nat.reduceEqDiff, reduceIte, Int.reduceEq, Int.reduceLT, Int.reduceLE, *]; first | done | with_reducible rfl) ?_) | (refine WO.guardU (by simp only [S0, S1, decide_true, decide_false, Nat.reduceEqDiff, reduceIte, Int.reduceEq, Int.reduceLT, Int.reduceLE, *]; first | done | with_reducible rfl) ?_)
    refine WO.nil ?_
    first | (refine uK_q ?_) | (refine uK_e (by assumption) ?_)
    refine WU.q rfl ?_
    first | (refine WO.guardT (by simp only [S0, S1, decide_true, decide_false, Nat.reduceEqDiff, reduceIte, Int.reduceEq, Int.reduceLT, Int.reduceLE, *]; first | done | with_reducible rfl) ?_; refine WO.o (by simp only [aop, binV_neq, Option.map_some, S0, S1, decide_true, decide_false, Nat.reduceEqDiff, reduceIte, Int.reduceEq, Int.reduceLT, Int.reduceLE, *]; first | done | with_reducible rfl) ?_) | (refine WO.guardF (by simp only [S0, S1, decide_true, decide_false, Nat.reduceEqDiff, reduceIte, Int.reduceEq, Int.reduceLT, Int.reduceLE, *]; first | done | with_reducible rfl) ?_) | (refine WO.guardU (by simp only [S0, S1, decide_true, decide_false, Nat.reduceEqDiff, reduceIte, Int.reduceEq, Int.reduceLT, Int.reduceLE, *]; first | done | with_reducible rfl) ?_)
    refine WO.nil ?_
    first | (refine uK_q ?_) | (refine uK_e (by assumption) ?_)
    refine WU.q rfl ?_
    refine WO.o (by simp only [aop, pick_or, pick_and, S0, S1, decide_true, decide_false, Nat.reduceEqDiff, reduceIte, Int.reduceEq, Int.reduceLT, Int.reduceLE, *]; first | done | with_reducible rfl) ?_
    refine WO.nil ?_
    first | (refine uK_q ?_) | (refine uK_e (by assumption) ?_)
    refine WU.q rfl ?_
    refine WO.o (by simp only [aop, S0, Nat.reduceEqDiff, reduceIte]; first | done | with_reducible rfl) ?_
    refine WO.nil ?_
    first | (refine uK_q ?_) | (refine uK_e (by assumption) ?_)
    refine WU.q rfl ?_
    first | (refine WO.guardT (by simp only [S0, S1, decide_true, decide_false, Nat.reduceEqDiff, reduceIte, Int.reduceEq, Int.reduceLT, Int.reduceLE, *]; first | done | with_reducible rfl) ?_; refine WO.o (by simp only [aop, S0, Nat.reduceEqDiff, reduceIte, q11_0]; first | done | with_reducible rfl) ?_) | (refine WO.guardF (by simp only [S0, S1, decide_true, decide_false, Nat.reduceEqDiff, reduceIte, Int.reduceEq, Int.reduceLT, Int.reduceLE, *]; first | done | with_reducible rfl) ?_) | (refine WO.guardU (by simp only [S0, S1, decide_true, decide_false, Nat.reduceEqDiff, reduceIte, Int.reduceEq, Int.reduceLT, Int.reduceLE, *]; first | done | with_reducible rfl) ?_)
    refine WO.nil ?_
    first | (refine uK_q ?_) | (refine uK_e (by assumption) ?_)
    refine WU.q rfl ?_
    first | (refine WO.guardT (by simp only [S0, S1, decide_true, decide_false, Nat.reduceEqDiff, reduceIte, Int.reduceEq, Int.reduceLT, Int.reduceLE, *]; first | done | with_reducible rfl) ?_; refine WO.o (by simp only [aop, S0, Nat.reduceEqDiff, reduceIte, q11_5]; first | done | with_reducible rfl) ?_) | (refine WO.guardF (by simp only [S0, S1, decide_true, decide_false, Nat.reduceEqDiff, reduceIte, Int.reduceEq, Int.reduceLT, Int.reduceLE, *]; first | done | with_reducible rfl) ?_) | (refine WO.guardU (by simp only [S0, S1, decide_true, decide_false, Nat.reduceEqDiff, reduceIte, Int.reduceEq, Int.reduceLT, Int.reduceLE, *]; first | done | with_reducible rfl) ?_)
    refine WO.nil ?_
    first | (refine uK_q ?_) | (refine uK_e (by assumption) ?_)
    refine WU.q rfl ?_
    first | (refine WO.guardT (by simp only [S0, S1, decide_true, decide_false, Nat.reduceEqDiff, reduceIte, Int.reduceEq, Int.reduceLT, Int.reduceLE, *]; first | done | with_reducible rfl) ?_; refine WO.o (SlR.idx' (by first | (simp only [S0, Nat.reduceEqDiff, reduceIte]; first | done | with_reducible rfl) | (simp only [S0, S1, decide_true, decide_false, Nat.reduceEqDiff, reduceIte, Int.reduceEq, Int.reduceLT, Int.reduceLE, *]; first | done | with_reducible rfl)) (by first | (simp only [S0, Nat.reduceEqDiff, reduceIte]; first | done | rfl) | (simp only [S0, S1, decide_true, decide_false, Nat.reduceEqDiff, reduceIte, Int.reduceEq, Int.reduceLT, Int.reduceLE, *]; first | done | rfl)) (by assumption) (by first | omega | assumption | (simp only [List.length_map, List.length_set]; omega))) ?_) | (refine WO.guardF (by simp only [S0, S1, decide_true, decide_false, Nat.reduceEqDiff, reduceIte, Int.reduceEq, Int.reduceLT, Int.reduceLE, *]; first | done | with_reducible rfl) ?_) | (refine WO.guardU (by simp only [S0, S1, decide_true, decide_false, Nat.reduceEqDiff, reduceIte, Int.reduceEq, Int.reduceLT, Int.reduceLE, *]; first | done | with_reducible rfl) ?_)
    refine WO.nil ?_
    first | (refine uK_q ?_) | (refine uK_e (by assumption) ?_)
    refine WU.q rfl ?_
    first | (refine WO.guardT (by simp only [S0, S1, decide_true, decide_false, Nat.reduceEqDiff, reduceIte, Int.reduceEq, Int.reduceLT, Int.reduceLE, *]; first | done | with_reducible rfl) ?_; refine WO.o (fldP (by first | (simp only [S0, Nat.reduceEqDiff, reduceIte]; first | done | with_reducible rfl) | (simp only [S0, S1, decide_true, decide_false, Nat.reduceEqDiff, reduceIte, Int.reduceEq, Int.reduceLT, Int.reduceLE, *]; first | done | with_reducible rfl)) (SlR.some (i := 0) (by assumption) (by first | omega | assumption | (simp only [List.length_map, List.length_set]; omega)))) ?_) | (refine WO.guardF (by simp only [S0, S1, decide_true, decide_false, Nat.reduceEqDiff, reduceIte, Int.reduceEq, Int.reduceLT, Int.reduceLE, *]; first | done | with_reducible rfl) ?_) | (refine WO.guardU (by simp only [S0, S1, decide_true, decide_false, Nat.reduceEqDiff, reduceIte, Int.reduceEq, Int.reduceLT, Int.reduceLE, *]; first | done | with_reducible rfl) ?_)
    refine WO.nil ?_
    first | (refine uK_q ?_) | (refine uK_e (by assumption) ?_)
    refine WU.q rfl ?_
    first | (refine WO.guardT (by simp only [S0, S1, decide_true, decide_false, Nat.reduceEqDiff, reduceIte, Int.reduceEq, Int.reduceLT, Int.reduceLE, *]; first | done | with_reducible rfl) ?_; first | (refine WO.o (Piece.load (by first | (simp only [S0, Nat.reduceEqDiff, reduceIte]; first | done | with_reducible rfl) | (simp only [S0, S1, decide_true, decide_false, Nat.reduceEqDiff, reduceIte, Int.reduceEq, Int.reduceLT, Int.reduceLE, *]; first | done | with_reducible rfl)) (by assumption) (by decide) rfl) ?_) | (refine WO.o (Piece.load0 (by first | (simp only [S0, Nat.reduceEqDiff, reduceIte]; first | done | with_reducible rfl) | (simp only [S0, S1, decide_true, decide_false, Nat.reduceEqDiff, reduceIte, Int.reduceEq, Int.reduceLT, Int.reduceLE, *]; first | done | with_reducible rfl)) (by assumption) (by decide) rfl) ?_)) | (refine WO.guardF (by simp only [S0, S1, decide_true, decide_false, Nat.reduceEqDiff, reduceIte, Int.reduceEq, Int.reduceLT, Int.reduceLE, *]; first | done | with_reducible rfl) ?_) | (refine WO.guardU (by simp only [S0, S1, decide_true, decide_false, Nat.reduceEqDiff, reduceIte, Int.reduceEq, Int.reduceLT, Int.reduceLE, *]; first | done | with_reducible rfl) ?_)
    refine WO.nil ?_
    first | (refine uK_q ?_) | (refine uK_e (by assumption) ?_)
    refine WU.q rfl ?_
    first | (refine WO.guardT (by simp only [S0, S1, decide_true, decide_false, Nat.reduceEqDiff, reduceIte, Int.reduceEq, Int.reduceLT, Int.reduceLE, *]; first | done | with_reducible rfl) ?_; refine WO.o (by simp only [aop, S0, Nat.reduceEqDiff, reduceIte, q11_1]; first | done | with_reducible rfl) ?_) | (refine WO.guardF (by simp only [S0, S1, decide_true, decide_false, Nat.reduceEqDiff, reduceIte, Int.reduceEq, Int.reduceLT, Int.reduceLE, *]; first | done | with_reducible rfl) ?_) | (refine WO.guardU (by simp only [S0, S1, decide_true, decide_false, Nat.reduceEqDiff, reduceIte, Int.reduceEq, Int.reduceLT, Int.reduceLE, *]; first | done | with_reducible rfl) ?_)
    refine WO.nil ?_
    first | (refine uK_q ?_) | (refine uK_e (by assumption) ?_)
    refine WU.q rfl ?_
    first | (refine WO.guardT (by simp only [S0, S1, decide_true, decide_false, Nat.reduceEqDiff, reduceIte, Int.reduceEq, Int.reduceLT, Int.reduceLE, *]; first | done | with_reducible rfl) ?_; refine WO.o (by simp only [aop, S0, Nat.reduceEqDiff, reduceIte, q11_5]; first | done | with_reducible rfl) ?_) | (refine WO.guardF (by simp only [S0, S1, decide_true, decide_false, Nat.reduceEqDiff, reduceIte, Int.reduceEq, Int.reduceLT, Int.reduceLE, *]; first | done | with_reducible rfl) ?_) | (refine WO.guardU (by simp only [S0, S1, decide_true, decide_false, Nat.reduceEqDiff, reduceIte, Int.reduceEq, Int.reduceLT, Int.reduceLE, *]; first | done | with_reducible rfl) ?_)
    refine WO.nil ?_
    first | (refine uK_q ?_) | (refine uK_e (by assumption) ?_)
    refine WU.q rfl ?_
    first | (refine WO.guardT (by simp only [S0, S1, decide_true, decide_false, Nat.reduceEqDiff, reduceIte, Int.reduceEq, Int.reduceLT, Int.reduceLE, *]; first | done | with_reducible rfl) ?_; refine WO.o (SlR.idx' (by first | (simp only [S0, Nat.reduceEqDiff, reduceIte]; first | done | with_reducible rfl) | (simp only [S0, S1, decide_true, decide_false, Nat.reduceEqDiff, reduceIte, Int.reduceEq, Int.reduceLT, Int.reduceLE, *]; first | done | with_reducible rfl)) (by first | (simp only [S0, Nat.reduceEqDiff, reduceIte]; first | done | rfl) | (simp only [S0, S1, decide_true, decide_false, Nat.reduceEqDiff, reduceIte, Int.reduceEq, Int.reduceLT, Int.reduceLE, *]; first | done | rfl)) (by assumption) (by first | omega | assumption | (simp only [List.length_map, List.length_set]; omega))) ?_) | (refine WO.guardF (by simp only [S0, S1, decide_true, decide_false, Nat.reduceEqDiff, reduceIte, Int.reduceEq, Int.reduceLT, Int.reduceLE, *]; first | done | with_reducible rfl) ?_) | (refine WO.guardU (by simp only [S0, S1, decide_true, decide_false, Nat.reduceEqDiff, reduceIte, Int.reduceEq, Int.reduceLT, Int.reduceLE, *]; first | done | with_reducible rfl) ?_)
    refine WO.nil ?_
    first | (refine uK_q ?_) | (refine uK_e (by assumption) ?_)
    refine WU.q rfl ?_
    first | (refine WO.guardT (by simp only [S0, S1, decide_true, decide_false, Nat.reduceEqDiff, reduceIte, Int.reduceEq, Int.reduceLT, Int.reduceLE, *]; first | done | with_reducible rfl) ?_; refine WO.o (fldP (by first | (simp only [S0, Nat.reduceEqDiff, reduceIte]; first | done | with_reducible rfl) | (simp only [S0, S1, decide_true, decide_false, Nat.reduceEqDiff, reduceIte, Int.reduceEq, Int.reduceLT, Int.reduceLE, *]; first | done | with_reducible rfl)) (SlR.some (i := 0) (by assumption) (by first | omega | assumption | (simp only [List.length_map, List.length_set]; omega)))) ?_) | (refine WO.guardF (by simp only [S0, S1, decide_true, decide_false, Nat.reduceEqDiff, reduceIte, Int.reduceEq, Int.reduceLT, Int.reduceLE, *]; first | done | with_reducible rfl) ?_) | (refine WO.guardU (by simp only [S0, S1, decide_true, decide_false, Nat.reduceEqDiff, reduceIte, Int.reduceEq, Int.reduceLT, Int.reduceLE, *]; first | done | with_reducible rfl) ?_)
    refine WO.nil ?_
    first | (refine uK_q ?_) | (refine uK_e (by assumption) ?_)
    refine WU.q rfl ?_
    first | (refine WO.guardT (by simp only [S0, S1, decide_true, decide_false, Nat.reduceEqDiff, reduceIte, Int.reduceEq, Int.reduceLT, Int.reduceLE, *]; first | done | with_reducible rfl) ?_; first | (refine WO.o (Piece.load (by first | (simp only [S0, Nat.reduceEqDiff, reduceIte]; first | done | with_reducible rfl) | (simp only [S0, S1, decide_true, decide_false, Nat.reduceEqDiff, reduceIte, Int.reduceEq, Int.reduceLT, Int.reduceLE, *]; first | done | with_reducible rfl)) (by assumption) (by decide) rfl) ?_) | (refine WO.o (Piece.load0 (by first | (simp only [S0, Nat.reduceEqDiff, reduceIte]; first | done | with_reducible rfl) | (simp only [S0, S1, decide_true, decide_false, Nat.reduceEqDiff, reduceIte, Int.reduceEq, Int.reduceLT, Int.reduceLE, *]; first | done | with_reducible rfl)) (by assumption) (by decide) rfl) ?_)) | (refine WO.guardF (by simp only [S0, S1, decide_true, decide_false, Nat.reduceEqDiff, reduceIte, Int.reduceEq, Int.reduceLT, Int.reduceLE, *]; first | done | with_reducible rfl) ?_) | (refine WO.guardU (by simp only [S0, S1, decide_true, decide_false, Nat.reduceEqDiff, reduceIte, Int.reduceEq, Int.reduceLT, Int.reduceLE, *]; first | done | with_reducible rfl) ?_)
    refine WO.nil ?_
    first | (refine uK_q ?_) | (refine uK_e (by assumption) ?_)
    refine WU.q rfl ?_
    first | (refine WO.guardT (by simp only [S0, Nat.reduceEqDiff, reduceIte, q11_0, q11_1, q11_5, q11_54, q11_59, q11_60]; first | done | with_reducible rfl) ?_) | (refine WO.guardT (by simp only [S0, S1, decide_true, decide_false, Nat.reduceEqDiff, reduceIte, Int.reduceEq, Int.reduceLT, Int.reduceLE, *]; first | done | with_reducible rfl) ?_)
    first | (refine WO.call (by simp only [List.map, S0, Nat.reduceEqDiff, reduceIte]; first | done | with_reducible rfl) ?_) | (refine WO.call (by simp only [List.map, S0, S1, decide_true, decide_false, Nat.reduceEqDiff, reduceIte, Int.reduceEq, Int.reduceLT, Int.reduceLE, *]; first | done | with_reducible rfl) ?_)
    refine (same_ok (inC h) va vb xa ya sa sb na).mono ?_
    rintro _ _ ⟨rfl, rfl⟩
    by_cases c5 : xa = ya
    case neg =>
      refine WO.nil ?_
      first | (refine uK_q ?_) | (refine uK_e (by assumption) ?_)
      refine WU.q rfl ?_
      first | (refine WO.guardT (by simp only [S0, S1, decide_true, decide_false, Nat.reduceEqDiff, reduceIte, Int.reduceEq, Int.reduceLT, Int.reduceLE, *]; first | done | with_reducible rfl) ?_; refine WO.o (by simp only [aop, unV, Option.map_some, S0, S1, decide_true, decide_false, Nat.reduceEqDiff, reduceIte, Int.reduceEq, Int.reduceLT, Int.reduceLE, *]; first | done | with_reducible rfl) ?_) | (refine WO.guardF (by simp only [S0, S1, decide_true, decide_false, Nat.reduceEqDiff, reduceIte, Int.reduceEq, Int.reduceLT, Int.reduceLE, *]; first | done | with_reducible rfl) ?_) | (refine WO.guardU (by simp only [S0, S1, decide_true, decide_false, Nat.reduceEqDiff, reduceIte, Int.reduceEq, Int.reduceLT, Int.reduceLE, *]; first | done | with_reducible rfl) ?_)
      refine WO.nil ?_
      first | (refine uK_q ?_) | (refine uK_e (by assumption) ?_)
      refine WU.q rfl ?_
      refine WO.o (by simp only [aop, pick_or, pick_and, S0, S1, decide_true, decide_false, Nat.reduceEqDiff, reduceIte, Int.reduceEq, Int.reduceLT, Int.reduceLE, *]; first | done | with_reducible rfl) ?_
      refine WO.nil ?_
      first | (refine uK_nil ?_) | (refine uK_ne (by assumption) ?_)
      refine thenK_normal ?_
      first | (refine WX.condT (by simp only [S0, Nat.reduceEqDiff, reduceIte, q11_0, q11_1, q11_5, q11_54, q11_59, q11_60]; first | done | with_reducible rfl) ?_) | (refine WX.condT (by simp only [S0, S1, decide_true, decide_false, Nat.reduceEqDiff, reduceIte, Int.reduceEq, Int.reduceLT, Int.reduceLE, *]; first | done | with_reducible rfl) ?_)
      refine WX.seq ?_
      refine WX.region ?_
      refine WO.o (by simp only [aop, S0, Nat.reduceEqDiff, reduceIte]; first | done | with_reducible rfl) ?_
      refine WO.nil ?_
      refine thenK_normal ?_
      refine WX.ret ?_
      refine blockK_ret ?_
      refine thenK_ret ?_
      refine loopK_ret ?_
      refine blockK_ret ?_
      refine thenK_ret ?_
      first | (refine retK_ret (by simp only [resultsA, resultA, S0, Nat.reduceEqDiff, reduceIte, q11_0, q11_1, q11_5, q11_54, q11_59, q11_60]; rfl) ?_) | (refine retK_ret (by simp only [resultsA, resultA, S0, S1, decide_true, decide_false, Nat.reduceEqDiff, reduceIte, Int.reduceEq, Int.reduceLT, Int.reduceLE, *]; rfl) ?_)
      refine ⟨?_, rfl⟩
      rcases hne with e | e
      · exact absurd (by injection e) c5
      · rw [decide_eq_false e]; rfl
    refine WO.nil ?_
    first | (refine uK_q ?_) | (refine uK_e (by assumption) ?_)
    refine WU.q rfl ?_
    first | (refine WO.guardT (by simp only [S0, S1, decide_true, decide_false, Nat.reduceEqDiff, reduceIte, Int.reduceEq, Int.reduceLT, Int.reduceLE, *]; first | done | with_reducible rfl) ?_; refine WO.o (by simp only [aop, unV, Option.map_some, S0, S1, decide_true, decide_false, Nat.reduceEqDiff, reduceIte, Int.reduceEq, Int.reduceLT, Int.reduceLE, *]; first | done | with_reducible rfl) ?_) | (refine WO.guardF (by simp only [S0, S1, decide_true, decide_false, Nat.reduceEqDiff, reduceIte, Int.reduceEq, Int.reduceLT, Int.reduceLE, *]; first | done | with_reducible rfl) ?_) | (refine WO.guardU (by simp only [S0, S1, decide_true, decide_false, Nat.reduceEqDiff, reduceIte, Int.reduceEq, Int.reduceLT, Int.reduceLE, *]; first | done | with_reducible rfl) ?_)
    refine WO.nil ?_
    first | (refine uK_q ?_) | (refine uK_e (by assumption) ?_)
    refine WU.q rfl ?_
    refine WO.o (by simp only [aop, pick_or, pick_and, S0, S1, decide_true, decide_false, Nat.reduceEqDiff, reduceIte, Int.reduceEq, Int.reduceLT, Int.reduceLE, *]; first | done | with_reducible rfl) ?_
    refine WO.nil ?_
    first | (refine uK_nil ?_) | (refine uK_ne (by assumption) ?_)
    refine thenK_normal ?_
    first | (refine WX.condF (by simp only [S0, Nat.reduceEqDiff, reduceIte, q11_0, q11_1, q11_5, q11_54, q11_59, q11_60]; first | done | with_reducible rfl) ?_) | (refine WX.condF (by simp only [S0, S1, decide_true, decide_false, Nat.reduceEqDiff, reduceIte, Int.reduceEq, Int.reduceLT, Int.reduceLE, *]; first | done | with_reducible rfl) ?_)
    refine WX.skip ?_
    refine blockK_normal ?_
    refine thenK_normal ?_
    refine WX.region ?_
    refine WO.o (by simp only [aop, S0, Nat.reduceEqDiff, reduceIte, q11_5]; first | done | with_reducible rfl) ?_
    refine WO.o (by simp only [aop, binV_add, Option.map_some, S0, Nat.reduceEqDiff, reduceIte]; first | (rw [wrap64 (by omega) (by omega)]) | with_reducible rfl) ?_
    refine WO.o (by simp only [aop, S0, Nat.reduceEqDiff, reduceIte]; first | done | with_reducible rfl) ?_
    refine WO.nil ?_
    refine loopK_normal (i + 1) (by omega) ⟨rfl, (by first | (simp only [S0, Nat.reduceEqDiff, reduceIte, p1_0, p1_1, s5]; first | done | rfl) | (simp only [S0, S1, decide_true, decide_false, Nat.reduceEqDiff, reduceIte, Int.reduceEq, Int.reduceLT, Int.reduceLE, *]; first | done | rfl)), by omega, fun j hj => ?_⟩
    by_cases e : j = i
    · subst e; exact hp (by rw [c5])
    · exact hm j (by omega)
  · refine WX.exit ?_
    refine thenK_exit ?_
    refine loopK_exit ?_
    refine blockK_exit ?_
    refine thenK_normal ?_
    refine WX.seq ?_
    refine WX.region ?_
    refine WO.o (by simp only [aop, S0, Nat.reduceEqDiff, reduceIte]; first | done | with_reducible rfl) ?_
    refine WO.nil ?_
    refine thenK_normal ?_
    refine WX.ret ?_
    first | (refine retK_ret (by simp only [resultsA, resultA, S0, Nat.reduceEqDiff, reduceIte, p1_0, p1_1, s5]; rfl) ?_) | (refine retK_ret (by simp only [resultsA, resultA, S0, S1, decide_true, decide_false, Nat.reduceEqDiff, reduceIte, Int.reduceEq, Int.reduceLT, Int.reduceLE, *]; rfl) ?_)
    refine ⟨?_, rfl⟩
    rw [decide_eq_true (eqf_last hb' fun j hj => hm j (by omega))]; rfl
end Go.Proofs.Ytmejfcakhpihlaa
