/- The statement FlowOrder, in the abstract machine. -/
import Derived.Test.YtbhdfhiecgebnaaDoorPostLaws
import Derived.Test.YtbhdfhiecgebnaaDoorFlowOrd2
namespace Go.Proofs.YtbhdfhiecgebnaaDoor
open Go.Am
set_option linter.unusedVariables false
set_option linter.unusedSimpArgs false
set_option maxHeartbeats 1000000

theorem order_err {T : List LType} {F : List LFn} {f : Int} : (OrderL T F f).2 = (blocksL T F f 0).2 := by
  unfold OrderL; split
  · rfl
  · rename_i h; simp only [ne_eq, Decidable.not_not] at h; exact h.symm
theorem order_no {T : List LType} {F : List LFn} {f : Int} (h : (blocksL T F f 0).2 ≠ 0) : (OrderL T F f).1 = [] := by unfold OrderL; rw [if_pos h]

noncomputable def body7_0 : ACode := (.seq (.seq (.region [⟨some 70, none, (.mov (.tmp 14))⟩, ⟨some 71, none, (.mov (.tmp 12))⟩, ⟨some 72, none, (.len (.tmp 71))⟩, ⟨some 73, none, (.bin .lss (.tmp 70) (.tmp 72))⟩]) (.cond (.tmp 73) .skip (.exit 0))) (.seq (.block 1 (.seq (.regionC [(⟨some 76, none, (.mov (.tmp 10))⟩, []), (⟨some 77, none, (.mov (.tmp 12))⟩, []), (⟨some 78, none, (.mov (.tmp 14))⟩, []), (⟨some 79, none, (.idx 1 (.tmp 77) (.tmp 78))⟩, []), (⟨some 80, none, (.load false 1 (.tmp 79))⟩, []), (⟨some 81, none, (.call (.func 23) [(.tmp 76), (.tmp 80)])⟩, []), (⟨some 82, none, (.un .not (.tmp 81))⟩, []), (⟨some 83, none, (.mov (.tmp 82))⟩, []), (⟨some 84, some (83, false), (.mov (.tmp 14))⟩, []), (⟨some 85, some (83, false), (.bin .gtr (.tmp 84) (.const (.int .i64 0)))⟩, []), (⟨some 86, some (83, false), (.mov (.tmp 85))⟩, []), (⟨some 87, some (86, true), (.mov (.tmp 12))⟩, []), (⟨some 88, some (86, true), (.mov (.tmp 14))⟩, []), (⟨some 89, some (86, true), (.bin .sub (.tmp 88) (.const (.int .i64 1)))⟩, []), (⟨some 90, some (86, true), (.idx 1 (.tmp 87) (.tmp 89))⟩, []), (⟨some 91, some (86, true), (.load false 1 (.tmp 90))⟩, []), (⟨some 92, some (86, true), (.mov (.tmp 12))⟩, []), (⟨some 93, some (86, true), (.mov (.tmp 14))⟩, []), (⟨some 94, some (86, true), (.idx 1 (.tmp 92) (.tmp 93))⟩, []), (⟨some 95, some (86, true), (.load false 1 (.tmp 94))⟩, []), (⟨some 96, some (86, true), (.bin .geq (.tmp 91) (.tmp 95))⟩, []), (⟨some 97, some (83, false), (.pick (.tmp 86) (.tmp 96) (.const (.bool false)))⟩, []), (⟨some 98, none, (.pick (.tmp 83) (.const (.bool true)) (.tmp 97))⟩, [])]) (.cond (.tmp 98) (.seq (.region [⟨some 8, none, (.mov (.const (.bool false)))⟩]) .ret) .skip))) (.region [⟨some 74, none, (.mov (.tmp 14))⟩, ⟨some 75, none, (.bin .add (.tmp 74) (.const (.int .i64 1)))⟩, ⟨some 14, none, (.mov (.tmp 75))⟩])))
noncomputable def body7 : ACode := (.seq (.region [⟨some 4, none, (.box (.tmp 0))⟩, ⟨some 8, none, (.mov (.const (.bool false)))⟩]) (.seq (.region [⟨some 17, none, (.call (.func 18) [])⟩, ⟨some 9, none, (.mov (.tmp 17))⟩]) (.seq (.seq (.region [⟨some 18, none, (.load true 2 (.tmp 4))⟩, ⟨some 19, none, (.call (.func 8) [(.tmp 18), (.const (.int .i64 300))])⟩, ⟨some 20, none, (.mov (.tmp 19))⟩, ⟨some 21, some (20, false), (.mov (.tmp 9))⟩, ⟨some 22, some (20, false), (.un .not (.tmp 21))⟩, ⟨some 23, none, (.pick (.tmp 20) (.const (.bool true)) (.tmp 22))⟩]) (.cond (.tmp 23) (.seq (.region [⟨some 24, none, (.mov (.tmp 9))⟩, ⟨some 8, none, (.mov (.tmp 24))⟩]) .ret) .skip)) (.seq (.region [⟨some 26, none, (.load true 2 (.tmp 4))⟩, ⟨some 27, none, (.mov (.tmp 1))⟩, ⟨some 28, none, (.call (.func 22) [(.tmp 26), (.tmp 27)])⟩, ⟨some 25, none, (.mov (.tmp 28))⟩, ⟨some 29, none, (.extract (.tmp 25) 0)⟩, ⟨some 30, none, (.extract (.tmp 25) 1)⟩, ⟨some 10, none, (.mov (.tmp 29))⟩, ⟨some 11, none, (.mov (.tmp 30))⟩]) (.seq (.region [⟨some 32, none, (.load true 2 (.tmp 4))⟩, ⟨some 33, none, (.mov (.tmp 1))⟩, ⟨some 34, none, (.call (.func 21) [(.tmp 32), (.tmp 33)])⟩, ⟨some 31, none, (.mov (.tmp 34))⟩, ⟨some 35, none, (.extract (.tmp 31) 0)⟩, ⟨some 36, none, (.extract (.tmp 31) 1)⟩, ⟨some 12, none, (.mov (.tmp 35))⟩, ⟨some 13, none, (.mov (.tmp 36))⟩]) (.seq (.seq (.region [⟨some 37, none, (.mov (.tmp 11))⟩, ⟨some 38, none, (.bin .neq (.tmp 37) (.const (.int .i64 0)))⟩, ⟨some 39, none, (.mov (.tmp 38))⟩, ⟨some 40, some (39, false), (.mov (.tmp 13))⟩, ⟨some 41, some (39, false), (.bin .neq (.tmp 40) (.const (.int .i64 0)))⟩, ⟨some 42, none, (.pick (.tmp 39) (.const (.bool true)) (.tmp 41))⟩]) (.cond (.tmp 42) (.seq (.region [⟨some 43, none, (.mov (.tmp 9))⟩, ⟨some 44, none, (.mov (.tmp 43))⟩, ⟨some 45, some (44, true), (.mov (.tmp 11))⟩, ⟨some 46, some (44, true), (.mov (.tmp 13))⟩, ⟨some 47, some (44, true), (.bin .eql (.tmp 45) (.tmp 46))⟩, ⟨some 48, none, (.pick (.tmp 44) (.tmp 47) (.const (.bool false)))⟩, ⟨some 49, none, (.mov (.tmp 48))⟩, ⟨some 50, some (49, true), (.mov (.tmp 10))⟩, ⟨some 51, some (49, true), (.len (.tmp 50))⟩, ⟨some 52, some (49, true), (.bin .eql (.tmp 51) (.const (.int .i64 0)))⟩, ⟨some 53, none, (.pick (.tmp 49) (.tmp 52) (.const (.bool false)))⟩, ⟨some 8, none, (.mov (.tmp 53))⟩]) .ret) .skip)) (.seq (.seq (.region [⟨some 54, none, (.mov (.tmp 10))⟩, ⟨some 55, none, (.len (.tmp 54))⟩, ⟨some 56, none, (.mov (.tmp 12))⟩, ⟨some 57, none, (.len (.tmp 56))⟩, ⟨some 58, none, (.bin .neq (.tmp 55) (.tmp 57))⟩, ⟨some 59, none, (.mov (.tmp 58))⟩, ⟨some 60, some (59, false), (.mov (.tmp 10))⟩, ⟨some 61, some (59, false), (.len (.tmp 60))⟩, ⟨some 62, some (59, false), (.bin .eql (.tmp 61) (.const (.int .i64 0)))⟩, ⟨some 63, none, (.pick (.tmp 59) (.const (.bool true)) (.tmp 62))⟩, ⟨some 64, none, (.mov (.tmp 63))⟩, ⟨some 65, some (64, false), (.mov (.tmp 10))⟩, ⟨some 66, some (64, false), (.idx 1 (.tmp 65) (.const (.int .i64 0)))⟩, ⟨some 67, some (64, false), (.load false 1 (.tmp 66))⟩, ⟨some 68, some (64, false), (.bin .neq (.tmp 67) (.const (.int .i64 0)))⟩, ⟨some 69, none, (.pick (.tmp 64) (.const (.bool true)) (.tmp 68))⟩]) (.cond (.tmp 69) (.seq (.region [⟨some 8, none, (.mov (.const (.bool false)))⟩]) .ret) .skip)) (.seq (.seq (.region [⟨some 14, none, (.mov (.const (.int .i64 0)))⟩]) (.block 0 (.loop body7_0))) (.seq (.seq (.region [⟨some 99, none, (.mov (.tmp 2))⟩, ⟨some 100, none, (.bin .lss (.tmp 99) (.const (.int .i64 0)))⟩, ⟨some 101, none, (.mov (.tmp 100))⟩, ⟨some 102, some (101, false), (.mov (.tmp 3))⟩, ⟨some 103, some (101, false), (.bin .lss (.tmp 102) (.const (.int .i64 0)))⟩, ⟨some 104, none, (.pick (.tmp 101) (.const (.bool true)) (.tmp 103))⟩, ⟨some 105, none, (.mov (.tmp 104))⟩, ⟨some 106, some (105, false), (.mov (.tmp 2))⟩, ⟨some 107, some (105, false), (.mov (.tmp 10))⟩, ⟨some 108, some (105, false), (.len (.tmp 107))⟩, ⟨some 109, some (105, false), (.bin .geq (.tmp 106) (.tmp 108))⟩, ⟨some 110, none, (.pick (.tmp 105) (.const (.bool true)) (.tmp 109))⟩, ⟨some 111, none, (.mov (.tmp 110))⟩, ⟨some 112, some (111, false), (.mov (.tmp 3))⟩, ⟨some 113, some (111, false), (.mov (.tmp 10))⟩, ⟨some 114, some (111, false), (.len (.tmp 113))⟩, ⟨some 115, some (111, false), (.bin .geq (.tmp 112) (.tmp 114))⟩, ⟨some 116, none, (.pick (.tmp 111) (.const (.bool true)) (.tmp 115))⟩]) (.cond (.tmp 116) (.seq (.region [⟨some 117, none, (.mov (.tmp 9))⟩, ⟨some 8, none, (.mov (.tmp 117))⟩]) .ret) .skip)) (.seq (.regionC [(⟨some 119, none, (.load true 2 (.tmp 4))⟩, []), (⟨some 120, none, (.mov (.tmp 1))⟩, []), (⟨some 121, none, (.mov (.tmp 10))⟩, []), (⟨some 122, none, (.mov (.tmp 2))⟩, []), (⟨some 123, none, (.idx 1 (.tmp 121) (.tmp 122))⟩, []), (⟨some 124, none, (.load false 1 (.tmp 123))⟩, []), (⟨some 125, none, (.call (.func 10) [(.tmp 119), (.tmp 120), (.tmp 124)])⟩, []), (⟨some 118, none, (.mov (.tmp 125))⟩, []), (⟨some 126, none, (.extract (.tmp 118) 0)⟩, []), (⟨some 127, none, (.extract (.tmp 118) 1)⟩, []), (⟨some 15, none, (.mov (.tmp 126))⟩, []), (⟨some 16, none, (.mov (.tmp 127))⟩, [])]) (.seq (.seq (.regionC [(⟨some 128, none, (.mov (.tmp 16))⟩, []), (⟨some 129, none, (.bin .neq (.tmp 128) (.const (.int .i64 0)))⟩, []), (⟨some 130, none, (.mov (.tmp 129))⟩, []), (⟨some 131, some (130, false), (.mov (.tmp 15))⟩, []), (⟨some 132, some (130, false), (.mov (.tmp 10))⟩, []), (⟨some 133, some (130, false), (.mov (.tmp 3))⟩, []), (⟨some 134, some (130, false), (.idx 1 (.tmp 132) (.tmp 133))⟩, []), (⟨some 135, some (130, false), (.load false 1 (.tmp 134))⟩, []), (⟨some 136, some (130, false), (.call (.func 23) [(.tmp 131), (.tmp 135)])⟩, []), (⟨some 137, some (130, false), (.un .not (.tmp 136))⟩, []), (⟨some 138, none, (.pick (.tmp 130) (.const (.bool true)) (.tmp 137))⟩, []), (⟨some 139, none, (.mov (.tmp 138))⟩, []), (⟨some 140, some (139, false), (.load true 2 (.tmp 4))⟩, []), (⟨some 141, some (139, false), (.mov (.tmp 1))⟩, []), (⟨some 142, some (139, false), (.mov (.tmp 10))⟩, []), (⟨some 143, some (139, false), (.mov (.tmp 3))⟩, []), (⟨some 144, some (139, false), (.idx 1 (.tmp 142) (.tmp 143))⟩, []), (⟨some 145, some (139, false), (.load false 1 (.tmp 144))⟩, []), (⟨some 146, some (139, false), (.mov (.tmp 10))⟩, []), (⟨some 147, some (139, false), (.mov (.tmp 2))⟩, []), (⟨some 148, some (139, false), (.idx 1 (.tmp 146) (.tmp 147))⟩, []), (⟨some 149, some (139, false), (.load false 1 (.tmp 148))⟩, []), (⟨some 150, some (139, false), (.call (.func 19) [(.tmp 140), (.tmp 141), (.tmp 145), (.tmp 149)])⟩, []), (⟨some 151, none, (.pick (.tmp 139) (.const (.bool true)) (.tmp 150))⟩, [])]) (.cond (.tmp 151) (.seq (.region [⟨some 152, none, (.mov (.tmp 9))⟩, ⟨some 153, none, (.mov (.tmp 152))⟩, ⟨some 154, some (153, true), (.mov (.tmp 16))⟩, ⟨some 155, some (153, true), (.bin .eql (.tmp 154) (.const (.int .i64 0)))⟩, ⟨some 156, none, (.pick (.tmp 153) (.tmp 155) (.const (.bool false)))⟩, ⟨some 8, none, (.mov (.tmp 156))⟩]) .ret) .skip)) (.seq (.region [⟨some 157, none, (.mov (.tmp 9))⟩, ⟨some 158, none, (.mov (.tmp 157))⟩, ⟨some 159, some (158, true), (.mov (.tmp 2))⟩, ⟨some 160, some (158, true), (.mov (.tmp 3))⟩, ⟨some 161, some (158, true), (.bin .lss (.tmp 159) (.tmp 160))⟩, ⟨some 162, none, (.pick (.tmp 158) (.tmp 161) (.const (.bool false)))⟩, ⟨some 8, none, (.mov (.tmp 162))⟩]) .ret))))))))))))
set_option maxRecDepth 100000 in
theorem tab7 : tb.code 7 = some ⟨163, [(8, none)], body7⟩ := by kernel_rfl
theorem FlowOrder_ok (h : AHeap) (vt vf : Value) (T : List LType) (F : List LFn) (f i k : Int) (tt : Tbl h) (hm : h.mark ≤ h.n) (st : SlT h vt T) (sf : SlF h vf F) (hT : (T.length : Int) ≤ 1152921504606846976) (hF : (F.length : Int) ≤ 1152921504606846976) :
    WC Tryd.prog tb 7 [.agg #[vt, vf], I f, I i, I k] h fun r h' => r = .bool true := by
  refine WC.of (nostub 7) tab7 ?_; simp only [mkTm, Nat.zero_add, Nat.reduceAdd]
  refine go ?_
  refine WO.bx ?_
  intro p h1 e1 o1
  have tt1 := tt.ext e1
  have hm1 := mark_ext e1 hm
  have st1 := st.ext e1
  have sf1 := SlF.ext sf e1
  refine go ?_
  refine WO.con (alive_ok h1 tt1.1) ?_
  rintro _ _ ⟨rfl, rfl⟩
  refine go ?_
  refine WO.con (great_ok h1 vt vf T F 300 (by omega) st1 sf1 (by omega) (by omega)) ?_
  rintro r h2 ⟨hr, e2⟩
  have o2 := o1.ext e2
  have tt2 := tt1.ext e2
  have hm2 := mark_ext e2 hm1
  have st2 := st1.ext e2
  have sf2 := SlF.ext sf1 e2
  rcases hr with rfl | ⟨rfl, sm⟩
  · refine go ?_
    refine rt ?_
    rfl
  refine go ?_
  refine WO.con (Order_ok h2 vt vf T F f tt2 hm2 sm st2 sf2) ?_
  rintro _ h3 ⟨⟨orv, rfl, oor⟩, e3⟩
  have o3 := o2.ext e3
  have tt3 := tt2.ext e3
  have hm3 := mark_ext e3 hm2
  have st3 := st2.ext e3
  have sf3 := SlF.ext sf2 e3
  refine go ?_
  refine WO.con (Reach_ok h3 vt vf T F f tt3 hm3 sm st3 sf3) ?_
  rintro _ h4 ⟨⟨rev, rfl, ore⟩, e4⟩
  have o4 := o3.ext e4
  have tt4 := tt3.ext e4
  have hm4 := mark_ext e4 hm3
  have st4 := st3.ext e4
  have sf4 := SlF.ext sf3 e4
  have sor := oor.sl.ext e4
  have sre := ore.sl
  rw [order_err, reach_err]
  by_cases hb : (blocksL T F f 0).2 = 0
  case neg =>
    rw [order_no hb] at sor
    have hb' : (blocksL T F f 0).2 ≠ 0 := hb
    refine go ?_
    refine rt ?_
    simp [one]
  obtain ⟨law1, law2, ⟨l, law3⟩, law4, law5, law6, law7⟩ := order_law hb
  rw [hb]
  have hnx : ∀ c, 0 ≤ c ∧ c < ((blocksL T F f 0).1.length : Int) → (NextL T F f c).2 = 0 ∧ (NextL T F f c).1 = nxL (blocksL T F f 0).1 c := fun c hc => by
    refine ⟨by rw [next_err, blocks_other hb hc]; exact hb, next_nx hb hc⟩
  have hcm : ∀ a c, (0 ≤ a ∧ a < ((blocksL T F f 0).1.length : Int)) → (c ∈ comesL (fun c => (NextL T F f c).1) 20 0 [a] ↔ Way (nxL (blocksL T F f 0).1) a c) := fun a c ha => by
    obtain ⟨hlen, hin⟩ := blocks_nx hb
    rw [comes_ext hin (fun c hc => next_nx hb hc) _ _ _ (by simpa using ha), comes_mem (by omega) hin ha]
  generalize (ReachL T F f).1 = RR at *
  have e0 : (OrderL T F f).1.getD 0 0 = 0 := by rw [law3]; rfl
  have hpos : 0 < (OrderL T F f).1.length := by rw [law3]; simp
  generalize (OrderL T F f).1 = O at *
  replace law4 := Hid.mk law4
  replace law5 := Hid.mk law5
  replace law6 := Hid.mk law6
  replace law7 := Hid.mk law7
  replace hnx := Hid.mk hnx
  replace hcm := Hid.mk hcm
  clear law3
  refine go ?_
  refine WX.loopA [70, 71, 72, 73, 76, 77, 78, 79, 80, 81, 82, 83, 84, 85, 86, 87, 88, 89, 90, 91, 92, 93, 94, 95, 96, 97, 98, 8, 74, 75, 14] (by kernel_rfl) (fun n => RR.length - n) (fun n t h6 => h4 = h6 ∧ tmGet t 14 = I n ∧ n ≤ RR.length) 0 ?_ ?_
  · exact ⟨rfl, sl_, Nat.zero_le _⟩
  rintro n t _ hsame ⟨rfl, s14, hn⟩
  refine go ?_
  refine WX.br (fun he => ?_) (fun he => ?_) <;> simp only [DB] at he
  · have hn' : n < RR.length := by omega
    have hin : RR.getD n 0 ∈ O := law4.out _ (getD_mem hn')
    refine go ?_
    refine WX.cutA [76, 77, 78, 79, 80, 81, 82, 83, 84, 85, 86, 87, 88, 89, 90, 91, 92, 93, 94, 95, 96, 97, 98] (by kernel_rfl) (fun t h' => h4 = h' ∧ tmGet t 98 = .bool false) ?_ ?_
    · refine WX.regionU2 0 rfl rfl ?_
      have srX : SlI (inC (asideN 0 h4)) rev RR := sre
      have soX : SlI (inC (asideN 0 h4)) orv O := sor
      refine goU ?_
      refine WO.con (among_ok _ orv O (RR.getD n 0) soX (by omega)) ?_
      rintro _ _ ⟨rfl, rfl⟩
      refine WO.nil ?_
      refine uK2_q ?_
      refine goU ?_
      by_cases hn0 : 0 < (n : Int)
      · have hlt := law5.out (n - 1) (by omega)
        rw [show n - 1 + 1 = n by omega] at hlt
        have hidx : ((n : Int) - 1).toNat = n - 1 := by omega
        refine goU ?_
        rw [hidx]
        refine goU ?_
        exact cutK_normal ⟨rfl, (sl_ : tmGet _ 98 = .bool (decide (RR.getD n 0 ≤ RR.getD (n - 1) 0))).trans (by rw [decide_eq_false (by omega)])⟩
      · refine goU ?_
        exact cutK_normal ⟨rfl, sl_⟩
    rintro t2 _ hs2 ⟨rfl, q98⟩
    refine go ?_
    exact loopK_normal (n + 1) (by omega) ⟨rfl, sln, by omega⟩
  by_cases hi0 : i < 0
  · refine go ?_
    refine rt ?_
    rfl
  by_cases hk0 : k < 0
  · refine go ?_
    refine rt ?_
    rfl
  by_cases hi1 : (O.length : Int) ≤ i
  · refine go ?_
    refine rt ?_
    rfl
  by_cases hk1 : (O.length : Int) ≤ k
  · refine go ?_
    refine rt ?_
    rfl
  obtain ⟨i, rfl⟩ : ∃ j : Nat, i = j := ⟨i.toNat, by omega⟩
  obtain ⟨k, rfl⟩ : ∃ j : Nat, k = j := ⟨k.toNat, by omega⟩
  have hi : i < O.length := by omega
  have hk : k < O.length := by omega
  have hoi := law6.out _ (getD_mem hi)
  have hok := law6.out _ (getD_mem hk)
  obtain ⟨hne, hnl⟩ := hnx.out _ hoi
  refine go ?_
  refine WX.regionU2 0 rfl rfl ?_
  have oX : OwnC h (inC (asideN 0 h4)) p [vt, vf] := o4
  have soX : SlI (inC (asideN 0 h4)) orv O := sor
  have ttX : Tbl (inC (asideN 0 h4)) := tt4
  have stX : SlT (inC (asideN 0 h4)) vt T := st4
  have sfX : SlF (inC (asideN 0 h4)) vf F := sf4
  refine goU ?_
  refine WO.con (Next_ok (inC (asideN 0 h4)) vt vf T F f (O.getD i 0) ttX (Nat.le_refl _) sm stX sfX) ?_
  rintro _ h5 ⟨⟨nlv, rfl, snl, fnl⟩, e5⟩
  refine WO.nil ?_
  refine uK2_e e5 reads_call ?_
  rw [hne]
  refine goU ?_
  have e6 : Ext h4 (outC h4 (inC h5)) := by have e6x : Ext h4 (outC h4 h5) := Ext.outC e5; exact e6x
  have sn6 : SlI (outC h4 (inC h5)) nlv (NextL T F f (O.getD i 0)).1 := snl
  obtain ⟨h6, hh6⟩ : ∃ h6, h6 = outC h4 (inC h5) := ⟨_, rfl⟩
  rw [← hh6] at e6 sn6
  rw [← hh6]
  clear oX soX ttX stX sfX snl fnl e5
  rw [hnl] at sn6
  have o6 := o4.ext e6
  have so6 := sor.ext e6
  have tt6 := tt4.ext e6
  have hm6 := mark_ext e6 hm4
  have st6 := st4.ext e6
  have sf6 := SlF.ext sf4 e6
  have hnn : (nxL (blocksL T F f 0).1 (O.getD i 0)).length ≤ 2 := next_len _
  have hfin := law7.out i k hi hk
  generalize nxL (blocksL T F f 0).1 (O.getD i 0) = X at *
  have hcx := hcm.out _ (O.getD i 0) hok
  refine go ?_
  refine WX.cutA [128, 129, 130, 131, 132, 133, 134, 135, 136, 137, 138, 139, 140, 141, 142, 143, 144, 145, 146, 147, 148, 149, 150, 151] (by kernel_rfl) (fun t h' => ∃ bb, tmGet t 151 = .bool bb ∧ (bb = false → i < k)) ?_ ?_
  · refine WX.regionU2 0 rfl rfl ?_
    have oX : OwnC h (inC (asideN 0 h6)) p [vt, vf] := o6
    have soX : SlI (inC (asideN 0 h6)) orv O := so6
    have snX : SlI (inC (asideN 0 h6)) nlv X := sn6
    have ttX : Tbl (inC (asideN 0 h6)) := tt6
    have stX : SlT (inC (asideN 0 h6)) vt T := st6
    have sfX : SlF (inC (asideN 0 h6)) vf F := sf6
    refine goU ?_
    refine WO.con (among_ok _ nlv X (O.getD k 0) snX (by omega)) ?_
    rintro _ _ ⟨rfl, rfl⟩
    refine WO.nil ?_
    refine uK2_q ?_
    by_cases hmem : O.getD k 0 ∈ X
    · refine goU ?_
      refine WO.con (comes_ok (inC (asideN 0 h6)) vt vf T F f (O.getD k 0) (O.getD i 0) ttX (Nat.le_refl _) sm stX sfX) ?_
      rintro _ h7 ⟨rfl, e7⟩
      refine WO.nil ?_
      refine uK2_e e7 reads_call ?_
      refine goU ?_
      refine cutK_normal ⟨_, sl_, fun hz => ?_⟩
      rw [decide_eq_false_iff_not] at hz
      exact hfin hmem (fun w => hz (hcx.2 w))
    · refine goU ?_
      exact cutK_normal ⟨true, sl_, fun hz => by cases hz⟩
  rintro t2 h7 hs2 ⟨bb, q151, hbb⟩
  cases bb with
  | true =>
    refine go ?_
    refine rt ?_
    rfl
  | false =>
    have := hbb rfl
    refine go ?_
    refine rt ?_
    simp [one]; omega
end Go.Proofs.YtbhdfhiecgebnaaDoor
