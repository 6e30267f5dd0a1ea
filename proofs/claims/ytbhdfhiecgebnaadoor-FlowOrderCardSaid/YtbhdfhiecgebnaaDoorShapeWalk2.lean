/- Ends and instructions: what their checks come to in the abstract machine. -/
import Derived.Test.YtbhdfhiecgebnaaDoorShapeWalk
import Derived.Test.YtbhdfhiecgebnaaDoorAmU
namespace Go.Proofs.YtbhdfhiecgebnaaDoor
open Go.Am
set_option linter.unusedVariables false
set_option linter.unusedSimpArgs false
set_option maxHeartbeats 4000000

noncomputable def body95 : ACode := (.seq (.region [⟨some 2, none, (.box (.tmp 0))⟩, ⟨some 3, none, (.box (.tmp 1))⟩, ⟨some 4, none, (.mov (.const (.bool false)))⟩]) (.seq (.seq (.region [⟨some 5, none, (.fld 0 (.tmp 2))⟩, ⟨some 6, none, (.load false 1 (.tmp 5))⟩]) (.block 0 (.seq (.region [⟨some 8, none, (.bin .eql (.tmp 6) (.const (.int .u8 1)))⟩, ⟨some 7, none, (.mov (.tmp 8))⟩]) (.cond (.tmp 7) (.seq (.region [⟨some 9, none, (.load true 4 (.tmp 2))⟩, ⟨some 10, none, (.fld 0 (.tmp 2))⟩, ⟨some 11, none, (.load false 1 (.tmp 10))⟩, ⟨some 12, none, (.fld 2 (.tmp 2))⟩, ⟨some 13, none, (.load false 1 (.tmp 12))⟩, ⟨some 14, none, (.build [(.int .u8 0), (.int .i64 0), (.int .i64 0), (.int .i64 0)] [(0, 1, (.tmp 11)), (2, 1, (.tmp 13))])⟩, ⟨some 15, none, (.binP .eql 45 (.tmp 9) (.tmp 14))⟩, ⟨some 16, none, (.mov (.tmp 15))⟩, ⟨some 17, some (16, true), (.fld 2 (.tmp 2))⟩, ⟨some 18, some (16, true), (.load false 1 (.tmp 17))⟩, ⟨some 19, some (16, true), (.fld 3 (.tmp 3))⟩, ⟨some 20, some (16, true), (.load false 1 (.tmp 19))⟩, ⟨some 21, some (16, true), (.call (.func 61) [(.tmp 18), (.tmp 20)])⟩, ⟨some 22, none, (.pick (.tmp 16) (.tmp 21) (.const (.bool false)))⟩, ⟨some 4, none, (.mov (.tmp 22))⟩]) .ret) (.seq (.region [⟨some 24, none, (.bin .eql (.tmp 6) (.const (.int .u8 2)))⟩, ⟨some 23, none, (.mov (.tmp 24))⟩]) (.cond (.tmp 23) (.seq (.region [⟨some 25, none, (.fld 1 (.tmp 2))⟩, ⟨some 26, none, (.load false 1 (.tmp 25))⟩, ⟨some 27, none, (.fld 2 (.tmp 3))⟩, ⟨some 28, none, (.load false 1 (.tmp 27))⟩, ⟨some 29, none, (.call (.func 61) [(.tmp 26), (.tmp 28)])⟩, ⟨some 30, none, (.mov (.tmp 29))⟩, ⟨some 31, some (30, true), (.fld 2 (.tmp 2))⟩, ⟨some 32, some (30, true), (.load false 1 (.tmp 31))⟩, ⟨some 33, some (30, true), (.fld 3 (.tmp 3))⟩, ⟨some 34, some (30, true), (.load false 1 (.tmp 33))⟩, ⟨some 35, some (30, true), (.call (.func 61) [(.tmp 32), (.tmp 34)])⟩, ⟨some 36, none, (.pick (.tmp 30) (.tmp 35) (.const (.bool false)))⟩, ⟨some 37, none, (.mov (.tmp 36))⟩, ⟨some 38, some (37, true), (.fld 3 (.tmp 2))⟩, ⟨some 39, some (37, true), (.load false 1 (.tmp 38))⟩, ⟨some 40, some (37, true), (.fld 3 (.tmp 3))⟩, ⟨some 41, some (37, true), (.load false 1 (.tmp 40))⟩, ⟨some 42, some (37, true), (.call (.func 61) [(.tmp 39), (.tmp 41)])⟩, ⟨some 43, none, (.pick (.tmp 37) (.tmp 42) (.const (.bool false)))⟩, ⟨some 4, none, (.mov (.tmp 43))⟩]) .ret) (.seq (.region [⟨some 45, none, (.bin .eql (.tmp 6) (.const (.int .u8 3)))⟩, ⟨some 44, none, (.mov (.tmp 45))⟩]) (.cond (.tmp 44) (.seq (.region [⟨some 46, none, (.load true 4 (.tmp 2))⟩, ⟨some 47, none, (.fld 0 (.tmp 2))⟩, ⟨some 48, none, (.load false 1 (.tmp 47))⟩, ⟨some 49, none, (.fld 1 (.tmp 2))⟩, ⟨some 50, none, (.load false 1 (.tmp 49))⟩, ⟨some 51, none, (.build [(.int .u8 0), (.int .i64 0), (.int .i64 0), (.int .i64 0)] [(0, 1, (.tmp 48)), (1, 1, (.tmp 50))])⟩, ⟨some 52, none, (.binP .eql 45 (.tmp 46) (.tmp 51))⟩, ⟨some 53, none, (.mov (.tmp 52))⟩, ⟨some 54, some (53, true), (.fld 1 (.tmp 2))⟩, ⟨some 55, some (53, true), (.load false 1 (.tmp 54))⟩, ⟨some 56, some (53, true), (.fld 2 (.tmp 3))⟩, ⟨some 57, some (53, true), (.load false 1 (.tmp 56))⟩, ⟨some 58, some (53, true), (.call (.func 61) [(.tmp 55), (.tmp 57)])⟩, ⟨some 59, none, (.pick (.tmp 53) (.tmp 58) (.const (.bool false)))⟩, ⟨some 4, none, (.mov (.tmp 59))⟩]) .ret) .skip)))))))) (.seq (.region [⟨some 4, none, (.mov (.const (.bool false)))⟩]) .ret)))
set_option maxRecDepth 100000 in
theorem tab95 : tb.code 95 = some ⟨60, [(4, none)], body95⟩ := by kernel_rfl
theorem end_ok (h : AHeap) (x : LEnd) (s : LSz) :
    WC Tryd.prog tb 95 [.agg #[.int .u8 x.kind, I x.a, I x.to, I x.els], .agg #[I s.types, I s.funcs, I s.regs, I s.blocks]] h fun r h' => r = .bool (endL x s) ∧ Ext h h' := by
  refine WC.of (nostub 95) tab95 ?_; simp only [mkTm, Nat.zero_add, Nat.reduceAdd]
  refine go ?_
  refine WO.bx ?_
  intro p2 h1 e1 o1
  refine WO.bx ?_
  intro p3 h2 e2 o2
  have o1 := o1.ext e2
  refine go ?_
  refine WX.br (fun hb => ?_) (fun hb => ?_) <;> simp only [DB] at hb <;> refine go ?_
  · refine WO.bp (eq_chk (xs := #[.int .u8 x.kind, I x.a, I x.to, I x.els]) (ys := #[.int .u8 x.kind, I 0, I x.to, I 0]) (b := decide (x.a = 0) && decide (x.els = 0)) (by kernel_rfl) (by simp [eqAll, eqOne, I]; rw [Bool.eq_iff_iff]; simp)) ?_
    refine go ?_
    refine WO.sp (fun hc => ?_) (fun hc => ?_) <;> refine go ?_
    · refine WO.con (below_ok h2 x.to s.blocks) ?_
      rintro _ _ ⟨rfl, rfl⟩
      refine go ?_
      refine rt ?_
      exact ⟨by simp only [endL, if_pos hb, hc, Bool.true_and]; rfl, e1.trans e2⟩
    · refine rt ?_
      exact ⟨by simp only [endL, if_pos hb, hc, Bool.false_and]; rfl, e1.trans e2⟩
  refine WX.br (fun hb2 => ?_) (fun hb2 => ?_) <;> simp only [DB] at hb2 <;> refine go ?_
  · refine WO.con (below_ok h2 x.a s.regs) ?_
    rintro _ _ ⟨rfl, rfl⟩
    refine go ?_
    refine WO.sp (fun hc => ?_) (fun hc => ?_) <;> refine go ?_
    · refine WO.con (below_ok h2 x.to s.blocks) ?_
      rintro _ _ ⟨rfl, rfl⟩
      refine go ?_
      refine WO.sp (fun hd => ?_) (fun hd => ?_) <;> refine go ?_
      · refine WO.con (below_ok h2 x.els s.blocks) ?_
        rintro _ _ ⟨rfl, rfl⟩
        refine go ?_
        refine rt ?_
        exact ⟨by simp only [endL, if_neg hb, if_pos hb2, hc, hd, Bool.true_and]; rfl, e1.trans e2⟩
      · refine rt ?_
        exact ⟨by simp only [endL, if_neg hb, if_pos hb2, hc, hd, Bool.true_and, Bool.false_and]; rfl, e1.trans e2⟩
    · refine rt ?_
      exact ⟨by simp only [endL, if_neg hb, if_pos hb2, hc, Bool.true_and, Bool.false_and]; rfl, e1.trans e2⟩
  refine WX.br (fun hb3 => ?_) (fun hb3 => ?_) <;> simp only [DB] at hb3 <;> refine go ?_
  · refine WO.bp (eq_chk (xs := #[.int .u8 x.kind, I x.a, I x.to, I x.els]) (ys := #[.int .u8 x.kind, I x.a, I 0, I 0]) (b := decide (x.to = 0) && decide (x.els = 0)) (by kernel_rfl) (by simp [eqAll, eqOne, I]; rw [Bool.eq_iff_iff]; simp)) ?_
    refine go ?_
    refine WO.sp (fun hc => ?_) (fun hc => ?_) <;> refine go ?_
    · refine WO.con (below_ok h2 x.a s.regs) ?_
      rintro _ _ ⟨rfl, rfl⟩
      refine go ?_
      refine rt ?_
      exact ⟨by simp only [endL, if_neg hb, if_neg hb2, if_pos hb3, hc, Bool.true_and]; rfl, e1.trans e2⟩
    · refine rt ?_
      exact ⟨by simp only [endL, if_neg hb, if_neg hb2, if_pos hb3, hc, Bool.false_and]; rfl, e1.trans e2⟩
  · refine rt ?_
    exact ⟨by simp only [endL, if_neg hb, if_neg hb2, if_neg hb3]; rfl, e1.trans e2⟩

noncomputable def body91 : ACode := (.seq (.region [⟨some 2, none, (.box (.tmp 0))⟩, ⟨some 3, none, (.box (.tmp 1))⟩, ⟨some 4, none, (.mov (.const (.bool false)))⟩]) (.seq (.region [⟨some 8, none, (.fld 0 (.tmp 2))⟩, ⟨some 9, none, (.load false 1 (.tmp 8))⟩, ⟨some 10, none, (.call (.func 107) [(.tmp 9)])⟩, ⟨some 5, none, (.alloc [(.bool false), (.bool false), (.bool false), (.bool false), (.bool false), (.bool false)])⟩, ⟨none, none, (.store 6 (.tmp 5) (.tmp 10))⟩]) (.seq (.seq (.region [⟨some 11, none, (.load true 6 (.tmp 5))⟩, ⟨some 12, none, (.build [(.bool false), (.bool false), (.bool false), (.bool false), (.bool false), (.bool false)] [])⟩, ⟨some 13, none, (.binP .eql 150 (.tmp 11) (.tmp 12))⟩, ⟨some 14, none, (.mov (.tmp 13))⟩, ⟨some 15, some (14, false), (.fld 0 (.tmp 5))⟩, ⟨some 16, some (14, false), (.load false 1 (.tmp 15))⟩, ⟨some 17, some (14, false), (.mov (.tmp 16))⟩, ⟨some 18, some (17, true), (.fld 2 (.tmp 2))⟩, ⟨some 19, some (17, true), (.load false 1 (.tmp 18))⟩, ⟨some 20, some (17, true), (.fld 2 (.tmp 3))⟩, ⟨some 21, some (17, true), (.load false 1 (.tmp 20))⟩, ⟨some 22, some (17, true), (.call (.func 61) [(.tmp 19), (.tmp 21)])⟩, ⟨some 23, some (17, true), (.un .not (.tmp 22))⟩, ⟨some 24, some (14, false), (.pick (.tmp 17) (.tmp 23) (.const (.bool false)))⟩, ⟨some 25, none, (.pick (.tmp 14) (.const (.bool true)) (.tmp 24))⟩, ⟨some 26, none, (.mov (.tmp 25))⟩, ⟨some 27, some (26, false), (.fld 1 (.tmp 5))⟩, ⟨some 28, some (26, false), (.load false 1 (.tmp 27))⟩, ⟨some 29, some (26, false), (.mov (.tmp 28))⟩, ⟨some 30, some (29, true), (.fld 3 (.tmp 2))⟩, ⟨some 31, some (29, true), (.load false 1 (.tmp 30))⟩, ⟨some 32, some (29, true), (.fld 2 (.tmp 3))⟩, ⟨some 33, some (29, true), (.load false 1 (.tmp 32))⟩, ⟨some 34, some (29, true), (.call (.func 61) [(.tmp 31), (.tmp 33)])⟩, ⟨some 35, some (29, true), (.un .not (.tmp 34))⟩, ⟨some 36, some (26, false), (.pick (.tmp 29) (.tmp 35) (.const (.bool false)))⟩, ⟨some 37, none, (.pick (.tmp 26) (.const (.bool true)) (.tmp 36))⟩, ⟨some 38, none, (.mov (.tmp 37))⟩, ⟨some 39, some (38, false), (.fld 5 (.tmp 2))⟩, ⟨some 40, some (38, false), (.load false 1 (.tmp 39))⟩, ⟨some 41, some (38, false), (.fld 2 (.tmp 3))⟩, ⟨some 42, some (38, false), (.load false 1 (.tmp 41))⟩, ⟨some 43, some (38, false), (.call (.func 108) [(.tmp 40), (.tmp 42)])⟩, ⟨some 44, some (38, false), (.un .not (.tmp 43))⟩, ⟨some 45, none, (.pick (.tmp 38) (.const (.bool true)) (.tmp 44))⟩, ⟨some 46, none, (.mov (.tmp 45))⟩, ⟨some 47, some (46, false), (.load true 7 (.tmp 2))⟩, ⟨some 48, some (46, false), (.load true 4 (.tmp 3))⟩, ⟨some 49, some (46, false), (.call (.func 109) [(.tmp 47), (.tmp 48)])⟩, ⟨some 50, some (46, false), (.un .not (.tmp 49))⟩, ⟨some 51, none, (.pick (.tmp 46) (.const (.bool true)) (.tmp 50))⟩]) (.cond (.tmp 51) (.seq (.region [⟨some 4, none, (.mov (.const (.bool false)))⟩]) .ret) .skip)) (.seq (.region [⟨some 52, none, (.fld 0 (.tmp 5))⟩, ⟨some 53, none, (.load false 1 (.tmp 52))⟩, ⟨some 54, none, (.un .not (.tmp 53))⟩, ⟨some 55, none, (.mov (.tmp 54))⟩, ⟨some 56, some (55, true), (.fld 2 (.tmp 2))⟩, ⟨some 57, some (55, true), (.load false 1 (.tmp 56))⟩, ⟨some 58, some (55, true), (.bin .neq (.tmp 57) (.const (.int .i64 0)))⟩, ⟨some 59, none, (.pick (.tmp 55) (.tmp 58) (.const (.bool false)))⟩, ⟨some 60, none, (.mov (.tmp 59))⟩, ⟨some 61, some (60, false), (.fld 1 (.tmp 5))⟩, ⟨some 62, some (60, false), (.load false 1 (.tmp 61))⟩, ⟨some 63, some (60, false), (.un .not (.tmp 62))⟩, ⟨some 64, some (60, false), (.mov (.tmp 63))⟩, ⟨some 65, some (64, true), (.fld 3 (.tmp 2))⟩, ⟨some 66, some (64, true), (.load false 1 (.tmp 65))⟩, ⟨some 67, some (64, true), (.bin .neq (.tmp 66) (.const (.int .i64 0)))⟩, ⟨some 68, some (60, false), (.pick (.tmp 64) (.tmp 67) (.const (.bool false)))⟩, ⟨some 69, none, (.pick (.tmp 60) (.const (.bool true)) (.tmp 68))⟩, ⟨some 70, none, (.mov (.tmp 69))⟩, ⟨some 71, some (70, false), (.fld 2 (.tmp 5))⟩, ⟨some 72, some (70, false), (.load false 1 (.tmp 71))⟩, ⟨some 73, some (70, false), (.un .not (.tmp 72))⟩, ⟨some 74, some (70, false), (.mov (.tmp 73))⟩, ⟨some 75, some (74, true), (.fld 4 (.tmp 2))⟩, ⟨some 76, some (74, true), (.load false 1 (.tmp 75))⟩, ⟨some 77, some (74, true), (.bin .neq (.tmp 76) (.const (.int .i64 0)))⟩, ⟨some 78, some (70, false), (.pick (.tmp 74) (.tmp 77) (.const (.bool false)))⟩, ⟨some 79, none, (.pick (.tmp 70) (.const (.bool true)) (.tmp 78))⟩, ⟨some 80, none, (.mov (.tmp 79))⟩, ⟨some 81, some (80, false), (.fld 3 (.tmp 5))⟩, ⟨some 82, some (80, false), (.load false 1 (.tmp 81))⟩, ⟨some 83, some (80, false), (.un .not (.tmp 82))⟩, ⟨some 84, some (80, false), (.mov (.tmp 83))⟩, ⟨some 85, some (84, true), (.fld 5 (.tmp 2))⟩, ⟨some 86, some (84, true), (.load false 1 (.tmp 85))⟩, ⟨some 87, some (84, true), (.len (.tmp 86))⟩, ⟨some 88, some (84, true), (.bin .gtr (.tmp 87) (.const (.int .i64 0)))⟩, ⟨some 89, some (80, false), (.pick (.tmp 84) (.tmp 88) (.const (.bool false)))⟩, ⟨some 90, none, (.pick (.tmp 80) (.const (.bool true)) (.tmp 89))⟩, ⟨some 91, none, (.mov (.tmp 90))⟩, ⟨some 92, some (91, false), (.fld 4 (.tmp 5))⟩, ⟨some 93, some (91, false), (.load false 1 (.tmp 92))⟩, ⟨some 94, some (91, false), (.un .not (.tmp 93))⟩, ⟨some 95, some (91, false), (.mov (.tmp 94))⟩, ⟨some 96, some (95, true), (.fld 6 (.tmp 2))⟩, ⟨some 97, some (95, true), (.load false 1 (.tmp 96))⟩, ⟨some 98, some (95, true), (.len (.tmp 97))⟩, ⟨some 99, some (95, true), (.bin .gtr (.tmp 98) (.const (.int .i64 0)))⟩, ⟨some 100, some (91, false), (.pick (.tmp 95) (.tmp 99) (.const (.bool false)))⟩, ⟨some 101, none, (.pick (.tmp 91) (.const (.bool true)) (.tmp 100))⟩, ⟨some 6, none, (.mov (.tmp 101))⟩]) (.seq (.region [⟨some 102, none, (.fld 5 (.tmp 5))⟩, ⟨some 103, none, (.load false 1 (.tmp 102))⟩, ⟨some 104, none, (.mov (.tmp 103))⟩, ⟨some 105, some (104, true), (.fld 1 (.tmp 2))⟩, ⟨some 106, some (104, true), (.load false 1 (.tmp 105))⟩, ⟨some 107, some (104, true), (.fld 0 (.tmp 3))⟩, ⟨some 108, some (104, true), (.load false 1 (.tmp 107))⟩, ⟨some 109, some (104, true), (.call (.func 61) [(.tmp 106), (.tmp 108)])⟩, ⟨some 110, none, (.pick (.tmp 104) (.tmp 109) (.const (.bool false)))⟩, ⟨some 111, none, (.mov (.tmp 110))⟩, ⟨some 112, some (111, false), (.fld 5 (.tmp 5))⟩, ⟨some 113, some (111, false), (.load false 1 (.tmp 112))⟩, ⟨some 114, some (111, false), (.un .not (.tmp 113))⟩, ⟨some 115, some (111, false), (.mov (.tmp 114))⟩, ⟨some 116, some (115, true), (.fld 1 (.tmp 2))⟩, ⟨some 117, some (115, true), (.load false 1 (.tmp 116))⟩, ⟨some 118, some (115, true), (.bin .eql (.tmp 117) (.const (.int .i64 0)))⟩, ⟨some 119, some (111, false), (.pick (.tmp 115) (.tmp 118) (.const (.bool false)))⟩, ⟨some 120, none, (.pick (.tmp 111) (.const (.bool true)) (.tmp 119))⟩, ⟨some 7, none, (.mov (.tmp 120))⟩]) (.seq (.seq (.region [⟨some 121, none, (.fld 4 (.tmp 5))⟩, ⟨some 122, none, (.load false 1 (.tmp 121))⟩]) (.cond (.tmp 122) (.seq (.region [⟨some 123, none, (.mov (.tmp 6))⟩, ⟨some 124, none, (.un .not (.tmp 123))⟩, ⟨some 125, none, (.mov (.tmp 124))⟩, ⟨some 126, some (125, true), (.mov (.tmp 7))⟩, ⟨some 127, none, (.pick (.tmp 125) (.tmp 126) (.const (.bool false)))⟩, ⟨some 128, none, (.mov (.tmp 127))⟩, ⟨some 129, some (128, true), (.fld 6 (.tmp 2))⟩, ⟨some 130, some (128, true), (.load false 1 (.tmp 129))⟩, ⟨some 131, some (128, true), (.fld 3 (.tmp 3))⟩, ⟨some 132, some (128, true), (.load false 1 (.tmp 131))⟩, ⟨some 133, some (128, true), (.call (.func 108) [(.tmp 130), (.tmp 132)])⟩, ⟨some 134, none, (.pick (.tmp 128) (.tmp 133) (.const (.bool false)))⟩, ⟨some 135, none, (.mov (.tmp 134))⟩, ⟨some 136, some (135, true), (.fld 6 (.tmp 2))⟩, ⟨some 137, some (135, true), (.load false 1 (.tmp 136))⟩, ⟨some 138, some (135, true), (.len (.tmp 137))⟩, ⟨some 139, some (135, true), (.fld 5 (.tmp 2))⟩, ⟨some 140, some (135, true), (.load false 1 (.tmp 139))⟩, ⟨some 141, some (135, true), (.len (.tmp 140))⟩, ⟨some 142, some (135, true), (.bin .eql (.tmp 138) (.tmp 141))⟩, ⟨some 143, none, (.pick (.tmp 135) (.tmp 142) (.const (.bool false)))⟩, ⟨some 144, none, (.mov (.tmp 143))⟩, ⟨some 145, some (144, true), (.fld 6 (.tmp 2))⟩, ⟨some 146, some (144, true), (.load false 1 (.tmp 145))⟩, ⟨some 147, some (144, true), (.len (.tmp 146))⟩, ⟨some 148, some (144, true), (.bin .geq (.tmp 147) (.const (.int .i64 1)))⟩, ⟨some 149, none, (.pick (.tmp 144) (.tmp 148) (.const (.bool false)))⟩, ⟨some 150, none, (.mov (.tmp 149))⟩, ⟨some 151, some (150, true), (.fld 6 (.tmp 2))⟩, ⟨some 152, some (150, true), (.load false 1 (.tmp 151))⟩, ⟨some 153, some (150, true), (.len (.tmp 152))⟩, ⟨some 154, some (150, true), (.bin .leq (.tmp 153) (.const (.int .i64 16)))⟩, ⟨some 155, none, (.pick (.tmp 150) (.tmp 154) (.const (.bool false)))⟩, ⟨some 4, none, (.mov (.tmp 155))⟩]) .ret) .skip)) (.seq (.region [⟨some 156, none, (.mov (.tmp 6))⟩, ⟨some 157, none, (.un .not (.tmp 156))⟩, ⟨some 158, none, (.mov (.tmp 157))⟩, ⟨some 159, some (158, true), (.mov (.tmp 7))⟩, ⟨some 160, none, (.pick (.tmp 158) (.tmp 159) (.const (.bool false)))⟩, ⟨some 161, none, (.mov (.tmp 160))⟩, ⟨some 162, some (161, true), (.fld 5 (.tmp 2))⟩, ⟨some 163, some (161, true), (.load false 1 (.tmp 162))⟩, ⟨some 164, some (161, true), (.len (.tmp 163))⟩, ⟨some 165, some (161, true), (.bin .leq (.tmp 164) (.const (.int .i64 4)))⟩, ⟨some 166, none, (.pick (.tmp 161) (.tmp 165) (.const (.bool false)))⟩, ⟨some 4, none, (.mov (.tmp 166))⟩]) .ret)))))))
set_option maxRecDepth 100000 in
theorem tab91 : tb.code 91 = some ⟨167, [(4, none)], body91⟩ := by kernel_rfl
theorem ins_ok (h : AHeap) (x : LIns) (va vf : Value) (s : LSz) (T : Tbl h) (sa : SlI h va x.args) (sf : SlI h vf x.frm) (hla : (x.args.length : Int) ≤ 9223372036854775807) (hlf : (x.frm.length : Int) ≤ 9223372036854775807) (ho : 0 ≤ x.op ∧ x.op ≤ 255) :
    WC Tryd.prog tb 91 [.agg #[.int .u8 x.op, I x.ty, I x.a, I x.b, I x.n, va, vf], .agg #[I s.types, I s.funcs, I s.regs, I s.blocks]] h fun r h' => r = .bool (insL x s) ∧ Ext h h' := by
  refine WC.of (nostub 91) tab91 ?_; simp only [mkTm, Nat.zero_add, Nat.reduceAdd]
  refine go ?_
  refine WO.bx ?_
  intro p2 h1 e1 o1
  refine WO.bx ?_
  intro p3 h2 e2 o2
  have o1 := o1.ext e2
  have T2 := (T.ext e1).ext e2
  refine go ?_
  refine WO.con (of_ok h2 x.op T2 ho.1 ho.2) ?_
  rintro _ h3 ⟨rfl, e3⟩
  refine go ?_
  refine WO.al ?_
  intro p5 h4 e4 o5
  refine WO.stC0 o5 e4 ?_
  intro h5 e5 o5 _
  have o1 := (o1.ext e3).ext e5
  have o2 := (o2.ext e3).ext e5
  have e15 := ((e1.trans e2).trans e3).trans e5
  have sa5 := sa.ext e15
  have sf5 := sf.ext e15
  have hins : insL x s = insL x s := rfl
  conv at hins => rhs; unfold insL oddL noneL kindL
  generalize hq : hasOf x.op = q at *
  obtain ⟨qa, qb, qn, qg, qf, qw⟩ := q
  simp only at hins
  refine go ?_
  refine WO.bp (eq_chk (xs := #[.bool qa, .bool qb, .bool qn, .bool qg, .bool qf, .bool qw]) (ys := #[.bool false, .bool false, .bool false, .bool false, .bool false, .bool false]) (b := decide ((qa, qb, qn, qg, qf, qw) = (false, false, false, false, false, false))) (by kernel_rfl) (by cases qa <;> cases qb <;> cases qn <;> cases qg <;> cases qf <;> cases qw <;> rfl)) ?_
  replace o5 : OwnC h3 h5 p5 [.bool qa, .bool qb, .bool qn, .bool qg, .bool qf, .bool qw] := o5
  obtain ⟨c0, hc0⟩ : ∃ c : Bool, c = decide ((qa, qb, qn, qg, qf, qw) = (false, false, false, false, false, false)) := ⟨_, rfl⟩
  rw [← hc0] at hins
  rw [← hc0]
  refine WO.mid 12 (fun t' h' => h5 = h' ∧ tmGet t' 25 = .bool (c0 || (qa && !belowL x.a s.regs))) ?_ ?_ <;> simp only [List.take_succ_cons, List.take_zero, List.drop_succ_cons, List.drop_zero]
  · refine go ?_
    refine WO.sp (fun hc => ?_) (fun hc => ?_) <;> refine go ?_
    · exact ⟨rfl, rfl, rfl, by simp only [hc, Bool.true_and, Bool.false_and, Bool.and_false, Bool.and_true, Bool.false_or, Bool.true_or, Bool.or_false, Bool.or_true, Bool.not_true, Bool.not_false]; exact sl_⟩
    refine WO.sp (fun hd => ?_) (fun hd => ?_) <;> (try simp only [DB] at hd) <;> refine go ?_
    · refine WO.con (below_ok h5 x.a s.regs) ?_
      rintro _ _ ⟨rfl, rfl⟩
      refine go ?_
      exact ⟨rfl, rfl, rfl, by simp only [hc, hd, Bool.true_and, Bool.false_and, Bool.and_false, Bool.and_true, Bool.false_or, Bool.true_or, Bool.or_false, Bool.or_true, Bool.not_true, Bool.not_false]; exact sl_⟩
    · exact ⟨rfl, rfl, rfl, by simp only [hc, hd, Bool.true_and, Bool.false_and, Bool.and_false, Bool.and_true, Bool.false_or, Bool.true_or, Bool.or_false, Bool.or_true, Bool.not_true, Bool.not_false]; exact sl_⟩
  rintro t1 _ hs1 ⟨rfl, s25⟩
  obtain ⟨c1, hc1⟩ : ∃ c : Bool, c = (c0 || (qa && !belowL x.a s.regs)) := ⟨_, rfl⟩
  rw [← hc1] at s25 hins
  refine WO.mid 12 (fun t' h' => h5 = h' ∧ tmGet t' 37 = .bool (c1 || (qb && !belowL x.b s.regs))) ?_ ?_ <;> simp only [List.take_succ_cons, List.take_zero, List.drop_succ_cons, List.drop_zero]
  · refine go ?_
    refine WO.sp (fun hc => ?_) (fun hc => ?_) <;> refine go ?_
    · exact ⟨rfl, rfl, rfl, by simp only [hc, Bool.true_and, Bool.false_and, Bool.and_false, Bool.and_true, Bool.false_or, Bool.true_or, Bool.or_false, Bool.or_true, Bool.not_true, Bool.not_false]; exact sl_⟩
    refine WO.sp (fun hd => ?_) (fun hd => ?_) <;> (try simp only [DB] at hd) <;> refine go ?_
    · refine WO.con (below_ok h5 x.b s.regs) ?_
      rintro _ _ ⟨rfl, rfl⟩
      refine go ?_
      exact ⟨rfl, rfl, rfl, by simp only [hc, hd, Bool.true_and, Bool.false_and, Bool.and_false, Bool.and_true, Bool.false_or, Bool.true_or, Bool.or_false, Bool.or_true, Bool.not_true, Bool.not_false]; exact sl_⟩
    · exact ⟨rfl, rfl, rfl, by simp only [hc, hd, Bool.true_and, Bool.false_and, Bool.and_false, Bool.and_true, Bool.false_or, Bool.true_or, Bool.or_false, Bool.or_true, Bool.not_true, Bool.not_false]; exact sl_⟩
  rintro t2 _ hs2 ⟨rfl, s37⟩
  obtain ⟨c2, hc2⟩ : ∃ c : Bool, c = (c1 || (qb && !belowL x.b s.regs)) := ⟨_, rfl⟩
  rw [← hc2] at s37 hins
  refine WO.mid 8 (fun t' h' => Ext h5 h' ∧ tmGet t' 45 = .bool (c2 || !allL x.args s.regs)) ?_ ?_ <;> simp only [List.take_succ_cons, List.take_zero, List.drop_succ_cons, List.drop_zero]
  · refine go ?_
    refine WO.sp (fun hc => ?_) (fun hc => ?_) <;> refine go ?_
    · exact ⟨rfl, rfl, Ext.refl _, by simp only [hc, Bool.true_and, Bool.false_and, Bool.and_false, Bool.and_true, Bool.false_or, Bool.true_or, Bool.or_false, Bool.or_true, Bool.not_true, Bool.not_false]; exact sl_⟩
    refine WO.con (all_ok h5 va s.regs x.args sa5 hla) ?_
    rintro _ h6 ⟨rfl, e6⟩
    refine go ?_
    exact ⟨rfl, rfl, e6, by simp only [hc, Bool.true_and, Bool.false_and, Bool.and_false, Bool.and_true, Bool.false_or, Bool.true_or, Bool.or_false, Bool.or_true, Bool.not_true, Bool.not_false]; exact sl_⟩
  rintro t3 h6 hs3 ⟨e6, s45⟩
  obtain ⟨c3, hc3⟩ : ∃ c : Bool, c = (c2 || !allL x.args s.regs) := ⟨_, rfl⟩
  rw [← hc3] at s45 hins
  have o1 := o1.ext e6
  have o2 := o2.ext e6
  have o5 := o5.ext e6
  have sa6 := sa5.ext e6
  have sf6 := sf5.ext e6
  have e16 := e15.trans e6
  refine WO.mid 6 (fun t' h' => Ext h6 h' ∧ tmGet t' 51 = .bool (c3 || !numberL x s)) ?_ ?_ <;> simp only [List.take_succ_cons, List.take_zero, List.drop_succ_cons, List.drop_zero]
  · refine go ?_
    refine WO.sp (fun hc => ?_) (fun hc => ?_) <;> refine go ?_
    · exact ⟨rfl, rfl, Ext.refl _, by simp only [hc, Bool.true_and, Bool.false_and, Bool.and_false, Bool.and_true, Bool.false_or, Bool.true_or, Bool.or_false, Bool.or_true, Bool.not_true, Bool.not_false]; exact sl_⟩
    refine WO.con (number_ok h6 x va vf s) ?_
    rintro _ h7 ⟨rfl, e7⟩
    refine go ?_
    exact ⟨rfl, rfl, e7, by simp only [hc, Bool.true_and, Bool.false_and, Bool.and_false, Bool.and_true, Bool.false_or, Bool.true_or, Bool.or_false, Bool.or_true, Bool.not_true, Bool.not_false]; exact sl_⟩
  rintro t4 h7 hs4 ⟨e7, s51⟩
  obtain ⟨c4, hc4⟩ : ∃ c : Bool, c = (c3 || !numberL x s) := ⟨_, rfl⟩
  rw [← hc4] at s51 hins
  have o1 := o1.ext e7
  have o2 := o2.ext e7
  have o5 := o5.ext e7
  have sa7 := sa6.ext e7
  have sf7 := sf6.ext e7
  have e17 := e16.trans e7
  refine go ?_
  refine WX.br (fun hz => ?_) (fun hz => ?_) <;> rw [hz] at hins
  · refine go ?_
    refine rt ?_
    exact ⟨by rw [hins]; rfl, e17⟩
  refine goC ?_
  refine goC ?_
  refine WO.mid 8 (fun t' h' => h7 = h' ∧ tmGet t' 59 = .bool (!qa && !decide (x.a = 0))) ?_ ?_ <;> simp only [List.take_succ_cons, List.take_zero, List.drop_succ_cons, List.drop_zero]
  · refine go ?_
    refine WO.sp (fun hd => ?_) (fun hd => ?_) <;> (try simp only [DB] at hd) <;> refine go ?_
    · exact ⟨rfl, rfl, rfl, by simp only [hd, Bool.true_and, Bool.false_and, Bool.and_false, Bool.and_true, Bool.false_or, Bool.true_or, Bool.or_false, Bool.or_true, Bool.not_true, Bool.not_false]; exact sl_⟩
    · exact ⟨rfl, rfl, rfl, by simp only [hd, Bool.true_and, Bool.false_and, Bool.and_false, Bool.and_true, Bool.false_or, Bool.true_or, Bool.or_false, Bool.or_true, Bool.not_true, Bool.not_false]; exact sl_⟩
  rintro t5 _ hs5 ⟨rfl, s59⟩
  obtain ⟨d0, hd0⟩ : ∃ c : Bool, c = (!qa && !decide (x.a = 0)) := ⟨_, rfl⟩
  rw [← hd0] at s59 hins
  refine goC ?_
  refine WO.mid 10 (fun t' h' => h7 = h' ∧ tmGet t' 69 = .bool (d0 || (!qb && !decide (x.b = 0)))) ?_ ?_ <;> simp only [List.take_succ_cons, List.take_zero, List.drop_succ_cons, List.drop_zero]
  · refine go ?_
    refine WO.sp (fun hc => ?_) (fun hc => ?_) <;> refine go ?_
    · exact ⟨rfl, rfl, rfl, by simp only [hc, Bool.true_and, Bool.false_and, Bool.and_false, Bool.and_true, Bool.false_or, Bool.true_or, Bool.or_false, Bool.or_true, Bool.not_true, Bool.not_false]; exact sl_⟩
    refine WO.sp (fun hd => ?_) (fun hd => ?_) <;> (try simp only [DB] at hd) <;> refine go ?_
    · exact ⟨rfl, rfl, rfl, by simp only [hc, hd, Bool.true_and, Bool.false_and, Bool.and_false, Bool.and_true, Bool.false_or, Bool.true_or, Bool.or_false, Bool.or_true, Bool.not_true, Bool.not_false]; exact sl_⟩
    · exact ⟨rfl, rfl, rfl, by simp only [hc, hd, Bool.true_and, Bool.false_and, Bool.and_false, Bool.and_true, Bool.false_or, Bool.true_or, Bool.or_false, Bool.or_true, Bool.not_true, Bool.not_false]; exact sl_⟩
  rintro t6 _ hs6 ⟨rfl, s69⟩
  obtain ⟨d1, hd1⟩ : ∃ c : Bool, c = (d0 || (!qb && !decide (x.b = 0))) := ⟨_, rfl⟩
  rw [← hd1] at s69 hins
  refine goC ?_
  refine WO.mid 10 (fun t' h' => h7 = h' ∧ tmGet t' 79 = .bool (d1 || (!qn && !decide (x.n = 0)))) ?_ ?_ <;> simp only [List.take_succ_cons, List.take_zero, List.drop_succ_cons, List.drop_zero]
  · refine go ?_
    refine WO.sp (fun hc => ?_) (fun hc => ?_) <;> refine go ?_
    · exact ⟨rfl, rfl, rfl, by simp only [hc, Bool.true_and, Bool.false_and, Bool.and_false, Bool.and_true, Bool.false_or, Bool.true_or, Bool.or_false, Bool.or_true, Bool.not_true, Bool.not_false]; exact sl_⟩
    refine WO.sp (fun hd => ?_) (fun hd => ?_) <;> (try simp only [DB] at hd) <;> refine go ?_
    · exact ⟨rfl, rfl, rfl, by simp only [hc, hd, Bool.true_and, Bool.false_and, Bool.and_false, Bool.and_true, Bool.false_or, Bool.true_or, Bool.or_false, Bool.or_true, Bool.not_true, Bool.not_false]; exact sl_⟩
    · exact ⟨rfl, rfl, rfl, by simp only [hc, hd, Bool.true_and, Bool.false_and, Bool.and_false, Bool.and_true, Bool.false_or, Bool.true_or, Bool.or_false, Bool.or_true, Bool.not_true, Bool.not_false]; exact sl_⟩
  rintro t7 _ hs7 ⟨rfl, s79⟩
  obtain ⟨d2, hd2⟩ : ∃ c : Bool, c = (d1 || (!qn && !decide (x.n = 0))) := ⟨_, rfl⟩
  rw [← hd2] at s79 hins
  refine goC ?_
  refine WO.mid 11 (fun t' h' => h7 = h' ∧ tmGet t' 90 = .bool (d2 || (!qg && decide (0 < (x.args.length : Int))))) ?_ ?_ <;> simp only [List.take_succ_cons, List.take_zero, List.drop_succ_cons, List.drop_zero]
  · refine go ?_
    refine WO.sp (fun hc => ?_) (fun hc => ?_) <;> refine go ?_
    · exact ⟨rfl, rfl, rfl, by simp only [hc, Bool.true_and, Bool.false_and, Bool.and_false, Bool.and_true, Bool.false_or, Bool.true_or, Bool.or_false, Bool.or_true, Bool.not_true, Bool.not_false]; exact sl_⟩
    refine WO.sp (fun hd => ?_) (fun hd => ?_) <;> (try simp only [DB] at hd) <;> refine go ?_
    · exact ⟨rfl, rfl, rfl, by simp only [hc, hd, Bool.true_and, Bool.false_and, Bool.and_false, Bool.and_true, Bool.false_or, Bool.true_or, Bool.or_false, Bool.or_true, Bool.not_true, Bool.not_false]; exact sl_⟩
    · exact ⟨rfl, rfl, rfl, by simp only [hc, hd, Bool.true_and, Bool.false_and, Bool.and_false, Bool.and_true, Bool.false_or, Bool.true_or, Bool.or_false, Bool.or_true, Bool.not_true, Bool.not_false]; exact sl_⟩
  rintro t8 _ hs8 ⟨rfl, s90⟩
  obtain ⟨d3, hd3⟩ : ∃ c : Bool, c = (d2 || (!qg && decide (0 < (x.args.length : Int)))) := ⟨_, rfl⟩
  rw [← hd3] at s90 hins
  refine goC ?_
  refine WO.mid 12 (fun t' h' => h7 = h' ∧ tmGet t' 6 = .bool (d3 || (!qf && decide (0 < (x.frm.length : Int))))) ?_ ?_ <;> simp only [List.take_succ_cons, List.take_zero, List.drop_succ_cons, List.drop_zero]
  · refine go ?_
    refine WO.sp (fun hc => ?_) (fun hc => ?_) <;> refine go ?_
    · exact ⟨rfl, rfl, rfl, by simp only [hc, Bool.true_and, Bool.false_and, Bool.and_false, Bool.and_true, Bool.false_or, Bool.true_or, Bool.or_false, Bool.or_true, Bool.not_true, Bool.not_false]; exact sl_⟩
    refine WO.sp (fun hd => ?_) (fun hd => ?_) <;> (try simp only [DB] at hd) <;> refine go ?_
    · exact ⟨rfl, rfl, rfl, by simp only [hc, hd, Bool.true_and, Bool.false_and, Bool.and_false, Bool.and_true, Bool.false_or, Bool.true_or, Bool.or_false, Bool.or_true, Bool.not_true, Bool.not_false]; exact sl_⟩
    · exact ⟨rfl, rfl, rfl, by simp only [hc, hd, Bool.true_and, Bool.false_and, Bool.and_false, Bool.and_true, Bool.false_or, Bool.true_or, Bool.or_false, Bool.or_true, Bool.not_true, Bool.not_false]; exact sl_⟩
  rintro t9 _ hs9 ⟨rfl, s6⟩
  obtain ⟨d4, hd4⟩ : ∃ c : Bool, c = (d3 || (!qf && decide (0 < (x.frm.length : Int)))) := ⟨_, rfl⟩
  rw [← hd4] at s6 hins
  refine goC ?_
  refine WO.mid 9 (fun t' h' => h7 = h' ∧ tmGet t' 110 = .bool (qw && belowL x.ty s.types)) ?_ ?_ <;> simp only [List.take_succ_cons, List.take_zero, List.drop_succ_cons, List.drop_zero]
  · refine go ?_
    refine WO.sp (fun hd => ?_) (fun hd => ?_) <;> (try simp only [DB] at hd) <;> refine go ?_
    · refine WO.con (below_ok h7 x.ty s.types) ?_
      rintro _ _ ⟨rfl, rfl⟩
      refine go ?_
      exact ⟨rfl, rfl, rfl, by simp only [hd, Bool.true_and, Bool.false_and, Bool.and_false, Bool.and_true, Bool.false_or, Bool.true_or, Bool.or_false, Bool.or_true, Bool.not_true, Bool.not_false]; exact sl_⟩
    · exact ⟨rfl, rfl, rfl, by simp only [hd, Bool.true_and, Bool.false_and, Bool.and_false, Bool.and_true, Bool.false_or, Bool.true_or, Bool.or_false, Bool.or_true, Bool.not_true, Bool.not_false]; exact sl_⟩
  rintro t10 _ hs10 ⟨rfl, s110⟩
  obtain ⟨k0, hk0⟩ : ∃ c : Bool, c = (qw && belowL x.ty s.types) := ⟨_, rfl⟩
  rw [← hk0] at s110 hins
  refine goC ?_
  refine WO.mid 11 (fun t' h' => h7 = h' ∧ tmGet t' 7 = .bool (k0 || (!qw && decide (x.ty = 0)))) ?_ ?_ <;> simp only [List.take_succ_cons, List.take_zero, List.drop_succ_cons, List.drop_zero]
  · refine go ?_
    refine WO.sp (fun hc => ?_) (fun hc => ?_) <;> refine go ?_
    · exact ⟨rfl, rfl, rfl, by simp only [hc, Bool.true_and, Bool.false_and, Bool.and_false, Bool.and_true, Bool.false_or, Bool.true_or, Bool.or_false, Bool.or_true, Bool.not_true, Bool.not_false]; exact sl_⟩
    refine WO.sp (fun hd => ?_) (fun hd => ?_) <;> (try simp only [DB] at hd) <;> refine go ?_
    · exact ⟨rfl, rfl, rfl, by simp only [hc, hd, Bool.true_and, Bool.false_and, Bool.and_false, Bool.and_true, Bool.false_or, Bool.true_or, Bool.or_false, Bool.or_true, Bool.not_true, Bool.not_false]; exact sl_⟩
    · exact ⟨rfl, rfl, rfl, by simp only [hc, hd, Bool.true_and, Bool.false_and, Bool.and_false, Bool.and_true, Bool.false_or, Bool.true_or, Bool.or_false, Bool.or_true, Bool.not_true, Bool.not_false]; exact sl_⟩
  rintro t11 _ hs11 ⟨rfl, s7⟩
  obtain ⟨k1, hk1⟩ : ∃ c : Bool, c = (k0 || (!qw && decide (x.ty = 0))) := ⟨_, rfl⟩
  rw [← hk1] at s7 hins
  refine go ?_
  refine WX.br (fun hf => ?_) (fun hf => ?_) <;> rw [hf] at hins <;> refine go ?_
  · refine WO.sp (fun hd => ?_) (fun hd => ?_) <;> (try simp only [DB] at hd) <;> refine go ?_
    · refine WO.sp (fun he => ?_) (fun he => ?_) <;> refine go ?_
      · refine WO.con (all_ok h7 vf s.blocks x.frm sf7 hlf) ?_
        rintro _ h8 ⟨rfl, e8⟩
        have o1 := o1.ext e8
        have sa8 := sa7.ext e8
        have sf8 := sf7.ext e8
        refine go ?_
        refine WO.sp (fun hg => ?_) (fun hg => ?_) <;> refine go ?_
        · refine WO.sp (fun hh => ?_) (fun hh => ?_) <;> simp only [DB] at hh <;> refine go ?_
          · refine WO.sp (fun hi => ?_) (fun hi => ?_) <;> simp only [DB] at hi <;> refine go ?_
            · refine rt ?_
              refine ⟨?_, e17.trans e8⟩
              have hdec : decide ((x.frm.length : Int) ≤ 16) = decide (x.frm.length ≤ 16) := by rw [Bool.eq_iff_iff]; simp only [decide_eq_true_eq]; omega
              rw [hdec, hins, hd, he, hg, decide_eq_true (show x.frm.length = x.args.length by omega), decide_eq_true (show 1 ≤ x.frm.length by omega)]; rfl
            · refine rt ?_
              refine ⟨?_, e17.trans e8⟩
              rw [hins, hd, he, hg, decide_eq_true (show x.frm.length = x.args.length by omega), decide_eq_false (show ¬ 1 ≤ x.frm.length by omega)]; rfl
          · refine rt ?_
            refine ⟨?_, e17.trans e8⟩
            rw [hins, hd, he, hg, decide_eq_false (show ¬ x.frm.length = x.args.length by omega)]; rfl
        · refine rt ?_
          refine ⟨?_, e17.trans e8⟩
          rw [hins, hd, he, hg]; rfl
      · refine rt ?_
        refine ⟨?_, e17⟩
        rw [hins, hd, he]; rfl
    · refine rt ?_
      refine ⟨?_, e17⟩
      rw [hins, hd]; rfl
  · refine WO.sp (fun hd => ?_) (fun hd => ?_) <;> (try simp only [DB] at hd) <;> refine go ?_
    · refine WO.sp (fun he => ?_) (fun he => ?_) <;> refine go ?_
      · refine rt ?_
        refine ⟨?_, e17⟩
        have hdec : decide ((x.args.length : Int) ≤ 4) = decide (x.args.length ≤ 4) := by rw [Bool.eq_iff_iff]; simp only [decide_eq_true_eq]; omega
        rw [hdec, hins, hd, he]; rfl
      · refine rt ?_
        refine ⟨?_, e17⟩
        rw [hins, hd, he]; rfl
    · refine rt ?_
      refine ⟨?_, e17⟩
      rw [hins, hd]; rfl
end Go.Proofs.YtbhdfhiecgebnaaDoor
