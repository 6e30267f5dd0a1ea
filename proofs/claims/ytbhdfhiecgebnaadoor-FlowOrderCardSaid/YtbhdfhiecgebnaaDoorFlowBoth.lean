/- The statement FlowBoth, in the abstract machine. -/
import Derived.Test.YtbhdfhiecgebnaaDoorFlowOrd
import Derived.Test.YtbhdfhiecgebnaaDoorFlowLaws
namespace Go.Proofs.YtbhdfhiecgebnaaDoor
open Go.Am
set_option linter.unusedVariables false
set_option linter.unusedSimpArgs false
set_option maxHeartbeats 1000000

theorem mem_sortL {x : Int} {l : List Int} : x ∈ sortL l ↔ x ∈ l := (List.mergeSort_perm l _).mem_iff
theorem sortL_len (l : List Int) : (sortL l).length = l.length := (List.mergeSort_perm l _).length_eq
theorem mem_aheadN {L : List LBlk} {a b : Int} (h : 0 ≤ a ∧ a < (L.length : Int)) : a ∈ aheadN L b L.length ↔ b ∈ nxL L a := by
  unfold aheadN nxL
  simp only [List.mem_map, List.mem_filter, List.mem_range, decide_eq_true_eq]
  constructor
  · rintro ⟨i, ⟨_, h1⟩, rfl⟩; rw [Int.toNat_natCast]; exact h1
  · intro h1; exact ⟨a.toNat, ⟨by omega, h1⟩, by omega⟩
theorem mem_aheadN' {L : List LBlk} {a b : Int} : a ∈ aheadN L b L.length ↔ (0 ≤ a ∧ a < (L.length : Int)) ∧ b ∈ nxL L a := by
  constructor
  · intro h
    have h' := h
    unfold aheadN at h'
    simp only [List.mem_map, List.mem_filter, List.mem_range] at h'
    obtain ⟨i, ⟨hi, _⟩, rfl⟩ := h'
    exact ⟨by omega, (mem_aheadN (by omega)).1 h⟩
  · rintro ⟨h1, h2⟩; exact (mem_aheadN h1).2 h2
theorem mem_reach {T : List LType} {F : List LFn} {f b : Int} (h : (blocksL T F f 0).2 = 0) : b ∈ (ReachL T F f).1 ↔ Way (nxL (blocksL T F f 0).1) 0 b := by
  obtain ⟨_, hpos, _, _⟩ := blocks_in h
  obtain ⟨hlen, hin⟩ := blocks_nx h
  unfold ReachL
  rw [if_neg (by rw [h]; exact fun e => e rfl)]
  simp only
  rw [mem_sortL]
  unfold postL
  rw [dfs_mem hin (fun c hc => by rw [List.mem_singleton] at hc; subst hc; exact ⟨Int.le_refl _, hpos⟩)]
  simp
/-- The plain law. -/
theorem both_law {T : List LType} {F : List LFn} {f a b : Int} (ha : (blocksL T F f a).2 = 0) (hb : (blocksL T F f b).2 = 0) :
    (¬ (a ∈ (ReachL T F f).1 ∧ b ∈ (NextL T F f a).1 ∧ b ∉ (ReachL T F f).1)) ∧ 0 ∈ (ReachL T F f).1 ∧ (b ∈ (NextL T F f a).1 ↔ a ∈ (PredsL T F f b).1) ∧
    (b ∈ (ReachL T F f).1 ↔ (b = 0 ∨ ∃ c ∈ (PredsL T F f b).1, c ∈ (ReachL T F f).1)) ∧ (PredsL T F f b).1.length ≤ 16 ∧ (ReachL T F f).1.length ≤ 16 := by
  obtain ⟨ha0, ha1, _, _⟩ := blocks_in ha
  obtain ⟨hb0, hb1, _, _⟩ := blocks_in hb
  have h0 : blocksL T F f 0 = blocksL T F f a := blocks_other ha ⟨Int.le_refl _, by omega⟩
  have hba : blocksL T F f b = blocksL T F f a := by
    have := blocks_other hb (c := a) ⟨ha0, by have h2 := blocks_other ha (c := 0) ⟨Int.le_refl _, by omega⟩; have h3 := blocks_other hb (c := 0) ⟨Int.le_refl _, by omega⟩; rw [← h3, h2]; exact ha1⟩
    exact this.symm
  have hz : (blocksL T F f 0).2 = 0 := by rw [h0]; exact ha
  obtain ⟨hlen, hin⟩ := blocks_nx hz
  have enx : (NextL T F f a).1 = nxL (blocksL T F f 0).1 a := by rw [h0]; exact next_nx ha ⟨ha0, ha1⟩
  have epr : (PredsL T F f b).1 = aheadN (blocksL T F f 0).1 b (blocksL T F f 0).1.length := by
    unfold PredsL; rw [if_neg (by rw [hb]; exact fun e => e rfl), hba, h0]
  have ain : 0 ≤ a ∧ a < ((blocksL T F f 0).1.length : Int) := by rw [h0]; exact ⟨ha0, ha1⟩
  rw [mem_reach hz, mem_reach hz, mem_reach hz, enx, epr]
  refine ⟨?_, .here, ?_, ?_, Nat.le_trans (aheadN_len _ _ _) hlen, ?_⟩
  · rintro ⟨w, hc, hn⟩; exact hn (.step w hc)
  · exact (mem_aheadN ain).symm
  · constructor
    · intro w
      cases w with
      | here => exact .inl rfl
      | step w hc =>
        rename_i c
        have : 0 ≤ c ∧ c < ((blocksL T F f 0).1.length : Int) := by
          have : ∀ d, Way (nxL (blocksL T F f 0).1) 0 d → 0 ≤ d ∧ d < ((blocksL T F f 0).1.length : Int) := fun d w => by
            induction w with
            | here => rw [h0]; omega
            | step _ hd ih => exact hin _ ih _ hd
          exact this c w
        exact .inr ⟨c, mem_aheadN'.2 ⟨this, hc⟩, (mem_reach hz).2 w⟩
    · rintro (rfl | ⟨c, hc, w⟩)
      · exact .here
      · exact .step ((mem_reach hz).1 w) (mem_aheadN'.1 hc).2
  · unfold ReachL
    rw [if_neg (by rw [hz]; exact fun e => e rfl)]
    simp only
    rw [sortL_len]
    exact Nat.le_trans (dfsL_len hin [0] (fun c hc => by rw [List.mem_singleton] at hc; subst hc; rw [h0]; omega)) hlen
theorem preds_err {T : List LType} {F : List LFn} {f b : Int} : (PredsL T F f b).2 = (blocksL T F f b).2 := by
  unfold PredsL; split
  · rfl
  · rename_i h; simp only [ne_eq, Decidable.not_not] at h; exact h.symm
theorem reach_err {T : List LType} {F : List LFn} {f : Int} : (ReachL T F f).2 = (blocksL T F f 0).2 := by
  unfold ReachL; split
  · rfl
  · rename_i h; simp only [ne_eq, Decidable.not_not] at h; exact h.symm

noncomputable def body6_0 : ACode := (.seq (.seq (.region [⟨some 87, none, (.mov (.tmp 17))⟩, ⟨some 88, none, (.mov (.tmp 12))⟩, ⟨some 89, none, (.len (.tmp 88))⟩, ⟨some 90, none, (.bin .lss (.tmp 87) (.tmp 89))⟩]) (.cond (.tmp 90) .skip (.exit 0))) (.seq (.block 1 (.region [⟨some 93, none, (.mov (.tmp 16))⟩, ⟨some 94, none, (.mov (.tmp 93))⟩, ⟨some 95, some (94, false), (.mov (.tmp 14))⟩, ⟨some 96, some (94, false), (.mov (.tmp 12))⟩, ⟨some 97, some (94, false), (.mov (.tmp 17))⟩, ⟨some 98, some (94, false), (.idx 1 (.tmp 96) (.tmp 97))⟩, ⟨some 99, some (94, false), (.load false 1 (.tmp 98))⟩, ⟨some 100, some (94, false), (.call (.func 23) [(.tmp 95), (.tmp 99)])⟩, ⟨some 101, none, (.pick (.tmp 94) (.const (.bool true)) (.tmp 100))⟩, ⟨some 16, none, (.mov (.tmp 101))⟩])) (.region [⟨some 91, none, (.mov (.tmp 17))⟩, ⟨some 92, none, (.bin .add (.tmp 91) (.const (.int .i64 1)))⟩, ⟨some 17, none, (.mov (.tmp 92))⟩])))
noncomputable def body6 : ACode := (.seq (.region [⟨some 4, none, (.box (.tmp 0))⟩, ⟨some 8, none, (.mov (.const (.bool false)))⟩]) (.seq (.region [⟨some 18, none, (.call (.func 18) [])⟩, ⟨some 9, none, (.mov (.tmp 18))⟩]) (.seq (.seq (.region [⟨some 19, none, (.load true 2 (.tmp 4))⟩, ⟨some 20, none, (.call (.func 8) [(.tmp 19), (.const (.int .i64 300))])⟩, ⟨some 21, none, (.mov (.tmp 20))⟩, ⟨some 22, some (21, false), (.mov (.tmp 9))⟩, ⟨some 23, some (21, false), (.un .not (.tmp 22))⟩, ⟨some 24, none, (.pick (.tmp 21) (.const (.bool true)) (.tmp 23))⟩]) (.cond (.tmp 24) (.seq (.region [⟨some 25, none, (.mov (.tmp 9))⟩, ⟨some 8, none, (.mov (.tmp 25))⟩]) .ret) .skip)) (.seq (.region [⟨some 27, none, (.load true 2 (.tmp 4))⟩, ⟨some 28, none, (.mov (.tmp 1))⟩, ⟨some 29, none, (.mov (.tmp 2))⟩, ⟨some 30, none, (.call (.func 10) [(.tmp 27), (.tmp 28), (.tmp 29)])⟩, ⟨some 26, none, (.mov (.tmp 30))⟩, ⟨some 31, none, (.extract (.tmp 26) 0)⟩, ⟨some 32, none, (.extract (.tmp 26) 1)⟩, ⟨some 10, none, (.mov (.tmp 31))⟩, ⟨some 11, none, (.mov (.tmp 32))⟩]) (.seq (.region [⟨some 34, none, (.load true 2 (.tmp 4))⟩, ⟨some 35, none, (.mov (.tmp 1))⟩, ⟨some 36, none, (.mov (.tmp 3))⟩, ⟨some 37, none, (.call (.func 12) [(.tmp 34), (.tmp 35), (.tmp 36)])⟩, ⟨some 33, none, (.mov (.tmp 37))⟩, ⟨some 38, none, (.extract (.tmp 33) 0)⟩, ⟨some 39, none, (.extract (.tmp 33) 1)⟩, ⟨some 12, none, (.mov (.tmp 38))⟩, ⟨some 13, none, (.mov (.tmp 39))⟩]) (.seq (.region [⟨some 41, none, (.load true 2 (.tmp 4))⟩, ⟨some 42, none, (.mov (.tmp 1))⟩, ⟨some 43, none, (.call (.func 21) [(.tmp 41), (.tmp 42)])⟩, ⟨some 40, none, (.mov (.tmp 43))⟩, ⟨some 44, none, (.extract (.tmp 40) 0)⟩, ⟨some 45, none, (.extract (.tmp 40) 1)⟩, ⟨some 14, none, (.mov (.tmp 44))⟩, ⟨some 15, none, (.mov (.tmp 45))⟩]) (.seq (.seq (.region [⟨some 46, none, (.mov (.tmp 11))⟩, ⟨some 47, none, (.bin .neq (.tmp 46) (.const (.int .i64 0)))⟩, ⟨some 48, none, (.mov (.tmp 47))⟩, ⟨some 49, some (48, false), (.mov (.tmp 13))⟩, ⟨some 50, some (48, false), (.bin .neq (.tmp 49) (.const (.int .i64 0)))⟩, ⟨some 51, none, (.pick (.tmp 48) (.const (.bool true)) (.tmp 50))⟩, ⟨some 52, none, (.mov (.tmp 51))⟩, ⟨some 53, some (52, false), (.mov (.tmp 15))⟩, ⟨some 54, some (52, false), (.bin .neq (.tmp 53) (.const (.int .i64 0)))⟩, ⟨some 55, none, (.pick (.tmp 52) (.const (.bool true)) (.tmp 54))⟩]) (.cond (.tmp 55) (.seq (.region [⟨some 56, none, (.mov (.tmp 9))⟩, ⟨some 8, none, (.mov (.tmp 56))⟩]) .ret) .skip)) (.seq (.seq (.region [⟨some 57, none, (.mov (.tmp 14))⟩, ⟨some 58, none, (.mov (.tmp 2))⟩, ⟨some 59, none, (.call (.func 23) [(.tmp 57), (.tmp 58)])⟩, ⟨some 60, none, (.mov (.tmp 59))⟩, ⟨some 61, some (60, true), (.mov (.tmp 10))⟩, ⟨some 62, some (60, true), (.mov (.tmp 3))⟩, ⟨some 63, some (60, true), (.call (.func 23) [(.tmp 61), (.tmp 62)])⟩, ⟨some 64, none, (.pick (.tmp 60) (.tmp 63) (.const (.bool false)))⟩, ⟨some 65, none, (.mov (.tmp 64))⟩, ⟨some 66, some (65, true), (.mov (.tmp 14))⟩, ⟨some 67, some (65, true), (.mov (.tmp 3))⟩, ⟨some 68, some (65, true), (.call (.func 23) [(.tmp 66), (.tmp 67)])⟩, ⟨some 69, some (65, true), (.un .not (.tmp 68))⟩, ⟨some 70, none, (.pick (.tmp 65) (.tmp 69) (.const (.bool false)))⟩, ⟨some 71, none, (.mov (.tmp 70))⟩, ⟨some 72, some (71, false), (.mov (.tmp 14))⟩, ⟨some 73, some (71, false), (.call (.func 23) [(.tmp 72), (.const (.int .i64 0))])⟩, ⟨some 74, some (71, false), (.un .not (.tmp 73))⟩, ⟨some 75, none, (.pick (.tmp 71) (.const (.bool true)) (.tmp 74))⟩, ⟨some 76, none, (.mov (.tmp 75))⟩, ⟨some 77, some (76, false), (.mov (.tmp 10))⟩, ⟨some 78, some (76, false), (.mov (.tmp 3))⟩, ⟨some 79, some (76, false), (.call (.func 23) [(.tmp 77), (.tmp 78)])⟩, ⟨some 80, some (76, false), (.mov (.tmp 12))⟩, ⟨some 81, some (76, false), (.mov (.tmp 2))⟩, ⟨some 82, some (76, false), (.call (.func 23) [(.tmp 80), (.tmp 81)])⟩, ⟨some 83, some (76, false), (.binB true (.tmp 79) (.tmp 82))⟩, ⟨some 84, none, (.pick (.tmp 76) (.const (.bool true)) (.tmp 83))⟩]) (.cond (.tmp 84) (.seq (.region [⟨some 8, none, (.mov (.const (.bool false)))⟩]) .ret) .skip)) (.seq (.region [⟨some 85, none, (.mov (.tmp 3))⟩, ⟨some 86, none, (.bin .eql (.tmp 85) (.const (.int .i64 0)))⟩, ⟨some 16, none, (.mov (.tmp 86))⟩]) (.seq (.seq (.region [⟨some 17, none, (.mov (.const (.int .i64 0)))⟩]) (.block 0 (.loop body6_0))) (.seq (.region [⟨some 102, none, (.mov (.tmp 9))⟩, ⟨some 103, none, (.mov (.tmp 102))⟩, ⟨some 104, some (103, true), (.mov (.tmp 14))⟩, ⟨some 105, some (103, true), (.mov (.tmp 3))⟩, ⟨some 106, some (103, true), (.call (.func 23) [(.tmp 104), (.tmp 105)])⟩, ⟨some 107, some (103, true), (.mov (.tmp 16))⟩, ⟨some 108, some (103, true), (.binB false (.tmp 106) (.tmp 107))⟩, ⟨some 109, none, (.pick (.tmp 103) (.tmp 108) (.const (.bool false)))⟩, ⟨some 8, none, (.mov (.tmp 109))⟩]) .ret)))))))))))
set_option maxRecDepth 100000 in
theorem tab6 : tb.code 6 = some ⟨110, [(8, none)], body6⟩ := by kernel_rfl
theorem FlowBoth_ok (h : AHeap) (vt vf : Value) (T : List LType) (F : List LFn) (f a b : Int) (tt : Tbl h) (hm : h.mark ≤ h.n) (st : SlT h vt T) (sf : SlF h vf F) (hT : (T.length : Int) ≤ 1152921504606846976) (hF : (F.length : Int) ≤ 1152921504606846976) :
    WC Tryd.prog tb 6 [.agg #[vt, vf], I f, I a, I b] h fun r h' => r = .bool true := by
  refine WC.of (nostub 6) tab6 ?_; simp only [mkTm, Nat.zero_add, Nat.reduceAdd]
  refine go ?_
  refine WO.bx ?_
  intro p h1 e1 o1
  have tt1 := tt.ext e1
  have hm1 := mark_ext e1 hm
  have st1 := st.ext e1
  have sf1 := SlF.ext sf e1
  refine go ?_
  refine WO.con (alive_ok h1 tt1.1) ?_
  rintro _ _ ⟨rfl, rfl⟩
  refine go ?_
  refine WO.con (great_ok h1 vt vf T F 300 (by omega) st1 sf1 (by omega) (by omega)) ?_
  rintro r h2 ⟨hr, e2⟩
  have o2 := o1.ext e2
  have tt2 := tt1.ext e2
  have hm2 := mark_ext e2 hm1
  have st2 := st1.ext e2
  have sf2 := SlF.ext sf1 e2
  rcases hr with rfl | ⟨rfl, sm⟩
  · refine go ?_
    refine rt ?_
    rfl
  refine go ?_
  refine WO.con (Next_ok h2 vt vf T F f a tt2 hm2 sm st2 sf2) ?_
  rintro _ h3 ⟨⟨nlv, rfl, snl, fnl⟩, e3⟩
  have o3 := o2.ext e3
  have tt3 := tt2.ext e3
  have hm3 := mark_ext e3 hm2
  have st3 := st2.ext e3
  have sf3 := SlF.ext sf2 e3
  refine go ?_
  refine WO.con (Preds_ok h3 vt vf T F f b tt3 hm3 sm st3 sf3) ?_
  rintro _ h4 ⟨⟨prv, rfl, opr⟩, e4⟩
  have o4 := o3.ext e4
  have tt4 := tt3.ext e4
  have hm4 := mark_ext e4 hm3
  have st4 := st3.ext e4
  have sf4 := SlF.ext sf3 e4
  refine go ?_
  refine WO.con (Reach_ok h4 vt vf T F f tt4 hm4 sm st4 sf4) ?_
  rintro _ h5 ⟨⟨rev, rfl, ore⟩, e5⟩
  have snl5 := snl.ext (e4.trans e5)
  have spr5 := opr.sl.ext e5
  have sre5 := ore.sl
  have hnl := Next_len T F f a
  rw [next_err, preds_err, reach_err]
  by_cases ha : (blocksL T F f a).2 = 0
  case neg =>
    refine go ?_
    refine rt ?_
    rfl
  by_cases hb : (blocksL T F f b).2 = 0
  case neg =>
    refine go ?_
    refine rt ?_
    rfl
  obtain ⟨law1, law2, law3, law4, hpl, hrl⟩ := both_law ha hb
  have hz : (blocksL T F f 0).2 = 0 := by
    obtain ⟨_, _, _, _⟩ := blocks_in ha
    rw [blocks_other ha (c := 0) ⟨Int.le_refl _, by omega⟩]; exact ha
  rw [ha, hb, hz]
  generalize (ReachL T F f).1 = RR at *
  generalize (PredsL T F f b).1 = A at *
  generalize (NextL T F f a).1 = X at *
  clear st st1 st2 st3 st4 sf sf1 sf2 sf3 sf4 tt tt1 tt2 tt3 tt4 o1 o2 o3 o4 hm hm1 hm2 hm3 hm4 sm snl opr ore
  refine go ?_
  refine go ?_
  refine WO.mid 26 (fun t' h' => h5 = h' ∧ tmGet t' 84 = .bool false) ?_ ?_ <;> simp only [List.take_succ_cons, List.take_zero, List.drop_succ_cons, List.drop_zero]
  · by_cases hx : a ∈ RR
    · by_cases hy : b ∈ X
      · have hw : b ∈ RR := Classical.byContradiction fun hw => law1 ⟨hx, hy, hw⟩
        have hv : a ∈ A := law3.1 hy
        repeat (first | (refine WO.con (among_ok h5 rev RR a sre5 (by omega)) ?_; rintro _ _ ⟨rfl, rfl⟩; refine go ?_) | (refine WO.con (among_ok h5 rev RR b sre5 (by omega)) ?_; rintro _ _ ⟨rfl, rfl⟩; refine go ?_) | (refine WO.con (among_ok h5 rev RR 0 sre5 (by omega)) ?_; rintro _ _ ⟨rfl, rfl⟩; refine go ?_) | (refine WO.con (among_ok h5 nlv X b snl5 (by omega)) ?_; rintro _ _ ⟨rfl, rfl⟩; refine go ?_) | (refine WO.con (among_ok h5 prv A a spr5 (by omega)) ?_; rintro _ _ ⟨rfl, rfl⟩; refine go ?_))
        exact ⟨rfl, rfl, rfl, (sl_ : tmGet _ 84 = .bool (decide (b ∈ X) != decide (a ∈ A))).trans (by simp [hy, hv])⟩
      · have hv : a ∉ A := fun hh => hy (law3.2 hh)
        repeat (first | (refine WO.con (among_ok h5 rev RR a sre5 (by omega)) ?_; rintro _ _ ⟨rfl, rfl⟩; refine go ?_) | (refine WO.con (among_ok h5 rev RR b sre5 (by omega)) ?_; rintro _ _ ⟨rfl, rfl⟩; refine go ?_) | (refine WO.con (among_ok h5 rev RR 0 sre5 (by omega)) ?_; rintro _ _ ⟨rfl, rfl⟩; refine go ?_) | (refine WO.con (among_ok h5 nlv X b snl5 (by omega)) ?_; rintro _ _ ⟨rfl, rfl⟩; refine go ?_) | (refine WO.con (among_ok h5 prv A a spr5 (by omega)) ?_; rintro _ _ ⟨rfl, rfl⟩; refine go ?_))
        exact ⟨rfl, rfl, rfl, (sl_ : tmGet _ 84 = .bool (decide (b ∈ X) != decide (a ∈ A))).trans (by simp [hy, hv])⟩
    · have hv : decide (b ∈ X) = decide (a ∈ A) := by rw [Bool.eq_iff_iff, decide_eq_true_iff, decide_eq_true_iff]; exact law3
      repeat (first | (refine WO.con (among_ok h5 rev RR a sre5 (by omega)) ?_; rintro _ _ ⟨rfl, rfl⟩; refine go ?_) | (refine WO.con (among_ok h5 rev RR b sre5 (by omega)) ?_; rintro _ _ ⟨rfl, rfl⟩; refine go ?_) | (refine WO.con (among_ok h5 rev RR 0 sre5 (by omega)) ?_; rintro _ _ ⟨rfl, rfl⟩; refine go ?_) | (refine WO.con (among_ok h5 nlv X b snl5 (by omega)) ?_; rintro _ _ ⟨rfl, rfl⟩; refine go ?_) | (refine WO.con (among_ok h5 prv A a spr5 (by omega)) ?_; rintro _ _ ⟨rfl, rfl⟩; refine go ?_))
      exact ⟨rfl, rfl, rfl, (sl_ : tmGet _ 84 = .bool (decide (b ∈ X) != decide (a ∈ A))).trans (by simp [hv])⟩
  rintro t1 _ hs1 ⟨rfl, q84⟩
  have law4 := Hid.mk law4
  refine go ?_
  refine WX.loopA [87, 88, 89, 90, 93, 94, 95, 96, 97, 98, 99, 100, 101, 16, 91, 92, 17] (by kernel_rfl) (fun k => A.length - k) (fun k t h6 => h5 = h6 ∧ tmGet t 17 = I k ∧ k ≤ A.length ∧ tmGet t 16 = .bool (decide (b = 0) || (A.take k).any fun c => decide (c ∈ RR))) 0 ?_ ?_
  · exact ⟨rfl, sl_, Nat.zero_le _, by rw [List.take_zero, List.any_nil, Bool.or_false]; exact sl_⟩
  rintro k t _ hsame ⟨rfl, s17, hk, s16⟩
  refine go ?_
  refine WX.br (fun he => ?_) (fun he => ?_) <;> simp only [DB] at he
  · have hk' : k < A.length := by omega
    have hnext : (decide (b = 0) || (A.take (k + 1)).any fun c => decide (c ∈ RR)) = ((decide (b = 0) || (A.take k).any fun c => decide (c ∈ RR)) || decide (A.getD k 0 ∈ RR)) := by
      rw [List.take_add_one, List.any_append, Bool.or_assoc]; simp [List.getD, List.getElem?_eq_getElem hk']
    generalize (decide (b = 0) || (A.take k).any fun c => decide (c ∈ RR)) = Z at *
    refine go ?_
    cases Z with
    | true =>
      refine go ?_
      exact loopK_normal (k + 1) (by omega) ⟨rfl, sln, by omega, by rw [hnext]; exact sl_⟩
    | false =>
      refine go ?_
      refine WO.con (among_ok h5 rev RR (A.getD k 0) sre5 (by omega)) ?_
      rintro _ _ ⟨rfl, rfl⟩
      refine go ?_
      exact loopK_normal (k + 1) (by omega) ⟨rfl, sln, by omega, by rw [hnext]; exact sl_⟩
  · have hkk : k = A.length := by omega
    subst hkk
    rw [List.take_length] at s16
    have hfin : (decide (b = 0) || A.any fun c => decide (c ∈ RR)) = decide (b ∈ RR) := by
      rw [Bool.eq_iff_iff, Bool.or_eq_true, decide_eq_true_iff, List.any_eq_true, decide_eq_true_iff, law4.out]
      simp only [decide_eq_true_eq]
    rw [hfin] at s16
    refine go ?_
    refine WO.con (among_ok h5 rev RR b sre5 (by omega)) ?_
    rintro _ _ ⟨rfl, rfl⟩
    refine go ?_
    refine rt ?_
    simp [one]
end Go.Proofs.YtbhdfhiecgebnaaDoor
