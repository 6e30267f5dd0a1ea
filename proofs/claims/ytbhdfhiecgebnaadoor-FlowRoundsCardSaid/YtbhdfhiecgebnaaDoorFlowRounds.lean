/- The statement FlowRounds, in the abstract machine. -/
import Derived.Test.YtbhdfhiecgebnaaDoorFlowReach
import Derived.Test.YtbhdfhiecgebnaaDoorAmU
namespace Go.Proofs.YtbhdfhiecgebnaaDoor
open Go.Am
set_option linter.unusedVariables false
set_option linter.unusedSimpArgs false
set_option maxHeartbeats 4000000

theorem next_err {T : List LType} {F : List LFn} {f b : Int} : (NextL T F f b).2 = (blocksL T F f b).2 := by
  unfold NextL; split
  · rfl
  · rename_i h; simp only [ne_eq, Decidable.not_not] at h; exact h.symm
theorem round_err {T : List LType} {F : List LFn} {f b : Int} : (RoundL T F f b).2 = (blocksL T F f b).2 := by
  unfold RoundL; split
  · rfl
  · rename_i h; simp only [ne_eq, Decidable.not_not] at h; exact h.symm
theorem round_no {T : List LType} {F : List LFn} {f b : Int} (h : (blocksL T F f b).2 ≠ 0) : (RoundL T F f b).1 = false := by
  unfold RoundL; rw [if_pos h]
theorem blocks_other {T : List LType} {F : List LFn} {f b : Int} (h : (blocksL T F f b).2 = 0) {c : Int} (hc : 0 ≤ c ∧ c < ((blocksL T F f b).1.length : Int)) : blocksL T F f c = blocksL T F f b := by
  obtain ⟨h1, h2, h3, h4⟩ := blocks_in h
  rw [h3] at h2 hc
  unfold blocksL
  rw [if_neg (by rw [h4]; exact fun e => e rfl), if_neg (by omega), if_neg (by rw [h4]; exact fun e => e rfl), if_neg (by omega)]
theorem next_nx {T : List LType} {F : List LFn} {f b : Int} (h : (blocksL T F f b).2 = 0) {c : Int} (hc : 0 ≤ c ∧ c < ((blocksL T F f b).1.length : Int)) : (NextL T F f c).1 = nxL (blocksL T F f b).1 c := by
  unfold NextL
  rw [blocks_other h hc, if_neg (by rw [h]; exact fun e => e rfl)]
  rfl
/-- The plain law. -/
theorem rounds_law {T : List LType} {F : List LFn} {f b : Int} (h : (blocksL T F f b).2 = 0) :
    (RoundL T F f b).1 = (NextL T F f b).1.any fun c => decide (b ∈ comesL (fun c => (NextL T F f c).1) 20 0 [c]) := by
  obtain ⟨hb0, hb1, _, _⟩ := blocks_in h
  obtain ⟨hlen, hin⟩ := blocks_nx h
  have hb := hin b ⟨hb0, hb1⟩
  rw [next_nx h ⟨hb0, hb1⟩]
  have e : (RoundL T F f b).1 = decide (b ∈ (dfsL (nxL (blocksL T F f b).1) (blocksL T F f b).1.length (nxL (blocksL T F f b).1 b) ([], [])).2) := by
    unfold RoundL; rw [if_neg (by rw [h]; exact fun e => e rfl)]
  rw [e, Bool.eq_iff_iff, decide_eq_true_iff, List.any_eq_true, dfs_mem hin hb]
  refine ⟨fun ⟨a, ha, w⟩ => ⟨a, ha, ?_⟩, fun ⟨a, ha, w⟩ => ⟨a, ha, ?_⟩⟩
  · rw [decide_eq_true_iff, comes_ext hin (fun c hc => next_nx h hc) _ _ _ (by simpa using hb a ha), comes_mem (by omega) hin (hb a ha)]
    exact w
  · rw [decide_eq_true_iff, comes_ext hin (fun c hc => next_nx h hc) _ _ _ (by simpa using hb a ha), comes_mem (by omega) hin (hb a ha)] at w
    exact w

noncomputable def body4_0 : ACode := (.seq (.seq (.region [⟨some 52, none, (.mov (.tmp 13))⟩, ⟨some 53, none, (.mov (.tmp 10))⟩, ⟨some 54, none, (.len (.tmp 53))⟩, ⟨some 55, none, (.bin .lss (.tmp 52) (.tmp 54))⟩]) (.cond (.tmp 55) .skip (.exit 0))) (.seq (.block 1 (.regionC [(⟨some 58, none, (.mov (.tmp 12))⟩, []), (⟨some 59, none, (.mov (.tmp 58))⟩, []), (⟨some 60, some (59, false), (.load true 2 (.tmp 3))⟩, []), (⟨some 61, some (59, false), (.mov (.tmp 1))⟩, []), (⟨some 62, some (59, false), (.mov (.tmp 10))⟩, []), (⟨some 63, some (59, false), (.mov (.tmp 13))⟩, []), (⟨some 64, some (59, false), (.idx 1 (.tmp 62) (.tmp 63))⟩, []), (⟨some 65, some (59, false), (.load false 1 (.tmp 64))⟩, []), (⟨some 66, some (59, false), (.mov (.tmp 2))⟩, []), (⟨some 67, some (59, false), (.call (.func 19) [(.tmp 60), (.tmp 61), (.tmp 65), (.tmp 66)])⟩, []), (⟨some 68, none, (.pick (.tmp 59) (.const (.bool true)) (.tmp 67))⟩, []), (⟨some 12, none, (.mov (.tmp 68))⟩, [])])) (.region [⟨some 56, none, (.mov (.tmp 13))⟩, ⟨some 57, none, (.bin .add (.tmp 56) (.const (.int .i64 1)))⟩, ⟨some 13, none, (.mov (.tmp 57))⟩])))
noncomputable def body4 : ACode := (.seq (.region [⟨some 3, none, (.box (.tmp 0))⟩, ⟨some 6, none, (.mov (.const (.bool false)))⟩]) (.seq (.region [⟨some 14, none, (.call (.func 18) [])⟩, ⟨some 7, none, (.mov (.tmp 14))⟩]) (.seq (.seq (.region [⟨some 15, none, (.load true 2 (.tmp 3))⟩, ⟨some 16, none, (.call (.func 8) [(.tmp 15), (.const (.int .i64 300))])⟩, ⟨some 17, none, (.mov (.tmp 16))⟩, ⟨some 18, some (17, false), (.mov (.tmp 7))⟩, ⟨some 19, some (17, false), (.un .not (.tmp 18))⟩, ⟨some 20, none, (.pick (.tmp 17) (.const (.bool true)) (.tmp 19))⟩]) (.cond (.tmp 20) (.seq (.region [⟨some 21, none, (.mov (.tmp 7))⟩, ⟨some 6, none, (.mov (.tmp 21))⟩]) .ret) .skip)) (.seq (.region [⟨some 23, none, (.load true 2 (.tmp 3))⟩, ⟨some 24, none, (.mov (.tmp 1))⟩, ⟨some 25, none, (.mov (.tmp 2))⟩, ⟨some 26, none, (.call (.func 14) [(.tmp 23), (.tmp 24), (.tmp 25)])⟩, ⟨some 22, none, (.mov (.tmp 26))⟩, ⟨some 27, none, (.extract (.tmp 22) 0)⟩, ⟨some 28, none, (.extract (.tmp 22) 1)⟩, ⟨some 8, none, (.mov (.tmp 27))⟩, ⟨some 9, none, (.mov (.tmp 28))⟩]) (.seq (.region [⟨some 30, none, (.load true 2 (.tmp 3))⟩, ⟨some 31, none, (.mov (.tmp 1))⟩, ⟨some 32, none, (.mov (.tmp 2))⟩, ⟨some 33, none, (.call (.func 10) [(.tmp 30), (.tmp 31), (.tmp 32)])⟩, ⟨some 29, none, (.mov (.tmp 33))⟩, ⟨some 34, none, (.extract (.tmp 29) 0)⟩, ⟨some 35, none, (.extract (.tmp 29) 1)⟩, ⟨some 10, none, (.mov (.tmp 34))⟩, ⟨some 11, none, (.mov (.tmp 35))⟩]) (.seq (.seq (.region [⟨some 36, none, (.mov (.tmp 9))⟩, ⟨some 37, none, (.bin .neq (.tmp 36) (.const (.int .i64 0)))⟩, ⟨some 38, none, (.mov (.tmp 37))⟩, ⟨some 39, some (38, false), (.mov (.tmp 11))⟩, ⟨some 40, some (38, false), (.bin .neq (.tmp 39) (.const (.int .i64 0)))⟩, ⟨some 41, none, (.pick (.tmp 38) (.const (.bool true)) (.tmp 40))⟩]) (.cond (.tmp 41) (.seq (.region [⟨some 42, none, (.mov (.tmp 7))⟩, ⟨some 43, none, (.mov (.tmp 42))⟩, ⟨some 44, some (43, true), (.mov (.tmp 9))⟩, ⟨some 45, some (43, true), (.mov (.tmp 11))⟩, ⟨some 46, some (43, true), (.bin .eql (.tmp 44) (.tmp 45))⟩, ⟨some 47, none, (.pick (.tmp 43) (.tmp 46) (.const (.bool false)))⟩, ⟨some 48, none, (.mov (.tmp 47))⟩, ⟨some 49, some (48, true), (.mov (.tmp 8))⟩, ⟨some 50, some (48, true), (.un .not (.tmp 49))⟩, ⟨some 51, none, (.pick (.tmp 48) (.tmp 50) (.const (.bool false)))⟩, ⟨some 6, none, (.mov (.tmp 51))⟩]) .ret) .skip)) (.seq (.region [⟨some 12, none, (.mov (.const (.bool false)))⟩]) (.seq (.seq (.region [⟨some 13, none, (.mov (.const (.int .i64 0)))⟩]) (.block 0 (.loop body4_0))) (.seq (.region [⟨some 69, none, (.mov (.tmp 7))⟩, ⟨some 70, none, (.mov (.tmp 69))⟩, ⟨some 71, some (70, true), (.mov (.tmp 8))⟩, ⟨some 72, some (70, true), (.mov (.tmp 12))⟩, ⟨some 73, some (70, true), (.binB false (.tmp 71) (.tmp 72))⟩, ⟨some 74, none, (.pick (.tmp 70) (.tmp 73) (.const (.bool false)))⟩, ⟨some 6, none, (.mov (.tmp 74))⟩]) .ret)))))))))
set_option maxRecDepth 100000 in
theorem tab4 : tb.code 4 = some ⟨75, [(6, none)], body4⟩ := by kernel_rfl
theorem FlowRounds_ok (h : AHeap) (vt vf : Value) (T : List LType) (F : List LFn) (f b : Int) (tt : Tbl h) (hm : h.mark ≤ h.n) (st : SlT h vt T) (sf : SlF h vf F) (hT : (T.length : Int) ≤ 1152921504606846976) (hF : (F.length : Int) ≤ 1152921504606846976) :
    WC Tryd.prog tb 4 [.agg #[vt, vf], I f, I b] h fun r h' => r = .bool true := by
  refine WC.of (nostub 4) tab4 ?_; simp only [mkTm, Nat.zero_add, Nat.reduceAdd]
  refine go ?_
  refine WO.bx ?_
  intro p h1 e1 o1
  have tt1 := tt.ext e1
  have hm1 := mark_ext e1 hm
  have st1 := st.ext e1
  have sf1 := SlF.ext sf e1
  refine go ?_
  refine WO.con (alive_ok h1 tt1.1) ?_
  rintro _ _ ⟨rfl, rfl⟩
  refine go ?_
  refine WO.con (great_ok h1 vt vf T F 300 (by omega) st1 sf1 (by omega) (by omega)) ?_
  rintro r h2 ⟨hr, e2⟩
  have o2 := o1.ext e2
  have tt2 := tt1.ext e2
  have hm2 := mark_ext e2 hm1
  have st2 := st1.ext e2
  have sf2 := SlF.ext sf1 e2
  rcases hr with rfl | ⟨rfl, sm⟩
  · refine go ?_
    refine rt ?_
    rfl
  refine go ?_
  refine WO.con (Round_ok h2 vt vf T F f b tt2 hm2 sm st2 sf2) ?_
  rintro _ h3 ⟨rfl, e3⟩
  have o3 := o2.ext e3
  have tt3 := tt2.ext e3
  have hm3 := mark_ext e3 hm2
  have st3 := st2.ext e3
  have sf3 := SlF.ext sf2 e3
  refine go ?_
  refine WO.con (Next_ok h3 vt vf T F f b tt3 hm3 sm st3 sf3) ?_
  rintro _ h4 ⟨⟨nlv, rfl, snl, fnl⟩, e4⟩
  have o4 := o3.ext e4
  have tt4 := tt3.ext e4
  have hm4 := mark_ext e4 hm3
  have st4 := st3.ext e4
  have sf4 := SlF.ext sf3 e4
  have hnl := Next_len T F f b
  rw [round_err, next_err]
  by_cases hb : (blocksL T F f b).2 = 0
  case neg =>
    rw [round_no hb]
    have hb' : (blocksL T F f b).2 ≠ 0 := hb
    refine go ?_
    refine rt ?_
    simp [one]
  rw [hb]
  have law := rounds_law hb
  generalize hR : (RoundL T F f b).1 = rr at law ⊢
  refine go ?_
  refine WX.loopA [52, 53, 54, 55, 58, 59, 60, 61, 62, 63, 64, 65, 66, 67, 68, 12, 56, 57, 13] (by kernel_rfl) (fun k => (NextL T F f b).1.length - k) (fun k t h5 => tmGet t 13 = I k ∧ k ≤ (NextL T F f b).1.length ∧ Ext h4 h5 ∧ tmGet t 12 = .bool (((NextL T F f b).1.take k).any fun c => decide (b ∈ comesL (fun c => (NextL T F f c).1) 20 0 [c]))) 0 ?_ ?_
  · exact ⟨sl_, Nat.zero_le _, Ext.refl _, sl_⟩
  rintro k t h5 hsame ⟨s13, hk, e5, s12⟩
  have o5 := o4.ext e5
  have tt5 := tt4.ext e5
  have hm5 := mark_ext e5 hm4
  have st5 := st4.ext e5
  have sf5 := SlF.ext sf4 e5
  have snl5 := snl.ext e5
  refine go ?_
  refine WX.br (fun he => ?_) (fun he => ?_) <;> simp only [DB] at he
  · have hk' : k < (NextL T F f b).1.length := by omega
    have hnext : ((NextL T F f b).1.take (k + 1)).any (fun c => decide (b ∈ comesL (fun c => (NextL T F f c).1) 20 0 [c])) = (((NextL T F f b).1.take k).any (fun c => decide (b ∈ comesL (fun c => (NextL T F f c).1) 20 0 [c])) || decide (b ∈ comesL (fun c => (NextL T F f c).1) 20 0 [(NextL T F f b).1.getD k 0])) := by
      rw [List.take_add_one, List.any_append]; simp [List.getD, List.getElem?_eq_getElem hk']
    generalize hA : ((NextL T F f b).1.take k).any (fun c => decide (b ∈ comesL (fun c => (NextL T F f c).1) 20 0 [c])) = A at *
    refine goC ?_
    refine WX.regionU2 0 rfl rfl ?_
    have o5r : OwnC h (inC (asideN 0 h5)) p [vt, vf] := o5
    have slr : SlI (inC (asideN 0 h5)) nlv (NextL T F f b).1 := snl5
    have ttr : Tbl (inC (asideN 0 h5)) := tt5
    have str : SlT (inC (asideN 0 h5)) vt T := st5
    have sfr : SlF (inC (asideN 0 h5)) vf F := sf5
    cases A with
    | true =>
      refine goU ?_
      refine go ?_
      exact loopK_normal (k + 1) (by omega) ⟨sln, by omega, e5, by rw [hnext]; exact sl_⟩
    | false =>
      refine goU ?_
      refine WO.con (comes_ok (inC (asideN 0 h5)) vt vf T F f ((NextL T F f b).1.getD k 0) b ttr (Nat.le_refl _) sm str sfr) ?_
      rintro _ h6 ⟨rfl, e6⟩
      refine WO.nil ?_
      refine uK2_e e6 reads_call ?_
      refine goU ?_
      have e7 : Ext h5 (outC h5 (inC h6)) := by have e3x : Ext h5 (outC h5 h6) := Ext.outC e6; exact e3x
      refine go ?_
      exact loopK_normal (k + 1) (by omega) ⟨sln, by omega, e5.trans e7, by rw [hnext]; exact sl_⟩
  · have hkk : k = (NextL T F f b).1.length := by omega
    subst hkk
    rw [List.take_length, ← law] at s12
    refine go ?_
    refine rt ?_
    simp [one]
end Go.Proofs.YtbhdfhiecgebnaaDoor
