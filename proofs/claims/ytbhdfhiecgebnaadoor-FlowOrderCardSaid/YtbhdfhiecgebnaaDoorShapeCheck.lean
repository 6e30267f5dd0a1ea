/- The check of a program's shape, and how many registers a function has: what they come to in the abstract machine. -/
import Derived.Test.YtbhdfhiecgebnaaDoorShapeFn
namespace Go.Proofs.YtbhdfhiecgebnaaDoor
open Go.Am
set_option linter.unusedVariables false
set_option linter.unusedSimpArgs false
set_option maxHeartbeats 4000000

theorem mark_ext {h h' : AHeap} (e : Ext h h') (hm : h.mark ≤ h.n) : h'.mark ≤ h'.n := by have := e.mark; have := e.n; omega

noncomputable def body78 : ACode := (.seq (.region [⟨some 2, none, (.box (.tmp 0))⟩, ⟨some 3, none, (.mov (.const (.bool false)))⟩]) (.seq (.region [⟨some 4, none, (.load true 2 (.tmp 1))⟩, ⟨some 5, none, (.load true 2 (.tmp 2))⟩, ⟨some 6, none, (.call (.func 79) [(.tmp 4), (.tmp 5)])⟩, ⟨some 7, none, (.un .not (.tmp 6))⟩, ⟨some 3, none, (.mov (.tmp 7))⟩]) .ret))
set_option maxRecDepth 100000 in
theorem tab78 : tb.code 78 = some ⟨8, [(3, none)], body78⟩ := by kernel_rfl
theorem chk1_ok (h h0 : AHeap) (p vt vf : Value) (T : List LType) (F : List LFn) (f : LFn) (cs : List Value) (tt : Tbl h) (hm : h.mark ≤ h.n) (sm : Small T F) (hf : f ∈ F) (st : SlT h vt T) (sf : SlF h vf F) (hR : RFn h cs f) (o : OwnC h0 h p [vt, vf]) :
    WC Tryd.prog tb 78 [.agg cs.toArray, p] h fun r h' => r = .bool (!fnL T F.length f) ∧ Ext h h' := by
  obtain ⟨vb, rfl, sb, hl⟩ := hR
  refine WC.of (nostub 78) tab78 ?_; simp only [mkTm, Nat.zero_add, Nat.reduceAdd]
  refine go ?_
  refine WO.bx ?_
  intro p2 h1 e1 o1
  have o := o.ext e1
  refine go ?_
  refine WO.con (fn_ok h1 vt vf vb T F f (tt.ext e1) (mark_ext e1 hm) (st.ext e1) (SlF.ext sf e1) (SlB.ext sb e1) sm.types sm.parts (by have := sm.funcs; omega) (sm.blocks f hf) (sm.ins f hf)) ?_
  rintro _ h2 ⟨rfl, e2⟩
  refine go ?_
  refine rt ?_
  exact ⟨rfl, e1.trans e2⟩

noncomputable def body60 : ACode := (.seq (.region [⟨some 1, none, (.box (.tmp 0))⟩, ⟨some 2, none, (.mov (.const (.int .i64 0)))⟩]) (.seq (.seq (.region [⟨some 4, none, (.fld 0 (.tmp 1))⟩, ⟨some 5, none, (.load false 1 (.tmp 4))⟩, ⟨some 6, none, (.call (.func 76) [(.tmp 5)])⟩, ⟨some 3, none, (.mov (.tmp 6))⟩]) (.seq (.region [⟨some 7, none, (.mov (.tmp 3))⟩, ⟨some 8, none, (.bin .neq (.tmp 7) (.const (.int .i64 0)))⟩]) (.cond (.tmp 8) (.seq (.region [⟨some 9, none, (.mov (.tmp 3))⟩, ⟨some 2, none, (.mov (.tmp 9))⟩]) .ret) .skip))) (.seq (.seq (.region [⟨some 10, none, (.fld 1 (.tmp 1))⟩, ⟨some 11, none, (.load false 1 (.tmp 10))⟩, ⟨some 12, none, (.len (.tmp 11))⟩, ⟨some 13, none, (.bin .sub (.tmp 12) (.const (.int .i64 1)))⟩, ⟨some 14, none, (.call (.func 61) [(.tmp 13), (.const (.int .i64 8))])⟩, ⟨some 15, none, (.un .not (.tmp 14))⟩, ⟨some 16, none, (.mov (.tmp 15))⟩, ⟨some 17, some (16, false), (.fld 1 (.tmp 1))⟩, ⟨some 18, some (16, false), (.load false 1 (.tmp 17))⟩, ⟨some 19, some (16, false), (.mkFunc (.func 78) [] [(.tmp 1)])⟩, ⟨some 20, some (16, false), (.call (.func 77) [(.tmp 18), (.tmp 19)])⟩, ⟨some 21, none, (.pick (.tmp 16) (.const (.bool true)) (.tmp 20))⟩]) (.cond (.tmp 21) (.seq (.region [⟨some 2, none, (.mov (.const (.int .i64 60)))⟩]) .ret) .skip)) (.seq (.region [⟨some 2, none, (.mov (.const (.int .i64 0)))⟩]) .ret))))
set_option maxRecDepth 100000 in
theorem tab60 : tb.code 60 = some ⟨22, [(2, none)], body60⟩ := by kernel_rfl
theorem prog_ok (h : AHeap) (vt vf : Value) (T : List LType) (F : List LFn) (tt : Tbl h) (hm : h.mark ≤ h.n) (sm : Small T F) (st : SlT h vt T) (sf : SlF h vf F) :
    WC Tryd.prog tb 60 [.agg #[vt, vf]] h fun r h' => r = I (progL T F) ∧ Ext h h' := by
  refine WC.of (nostub 60) tab60 ?_; simp only [mkTm, Nat.zero_add, Nat.reduceAdd]
  refine go ?_
  refine WO.bx ?_
  intro p h1 e1 o1
  have st1 := st.ext e1
  refine go ?_
  refine WO.con (check_ok h1 vt T st1 sm.types sm.parts) ?_
  rintro _ h2 ⟨rfl, e2⟩
  have e12 := e1.trans e2
  have o1 := o1.ext e2
  have st2 := st1.ext e2
  have sf2 := SlF.ext sf e12
  have tt2 := tt.ext e12
  have hF := sm.funcs
  refine go ?_
  refine WX.br (fun hb => ?_) (fun hb => ?_) <;> simp only [DB] at hb <;> refine go ?_
  · refine rt ?_
    exact ⟨by rw [progL, if_pos hb]; rfl, e12⟩
  refine WO.con (below_ok h2 ((F.length : Int) - 1) 8) ?_
  rintro _ _ ⟨rfl, rfl⟩
  refine go ?_
  refine WO.sp (fun hc => ?_) (fun hc => ?_) <;> simp only [DB] at hc <;> refine go ?_
  · refine rt ?_
    exact ⟨by rw [progL, if_neg (by omega), hc]; simp [one], e12⟩
  refine WO.con (conf_fn h2 vf _ F (fun f => !fnL T F.length f) sf2 (by omega) ?_) ?_
  · intro f hf h3 e3 cs hcs
    exact WV.func (chk1_ok h3 h p vt vf T F f cs (tt2.ext e3) (mark_ext (e12.trans e3) hm) sm hf (st2.ext e3) (SlF.ext sf2 e3) hcs (o1.ext e3))
  rintro _ h3 ⟨rfl, e3⟩
  refine go ?_
  refine WX.br (fun hd => ?_) (fun hd => ?_) <;> refine go ?_ <;> refine rt ?_ <;> refine ⟨?_, e12.trans e3⟩ <;> rw [progL, if_neg (by omega), hc, hd]
  · simp [one]
  · simp [one]

theorem prog_sig {T : List LType} {F : List LFn} (h : progL T F = 0) : checkL T = 0 ∧ 1 ≤ F.length ∧ F.length ≤ 8 ∧ ∀ f ∈ F, fnL T F.length f = true := by
  unfold progL at h
  split at h
  · rename_i hc; exact absurd h hc
  · rename_i hc
    split at h
    · cases h
    · rename_i hd
      simp only [Bool.or_eq_true, not_or, Bool.not_eq_true, Bool.not_eq_false'] at hd
      have h1 : belowL ((F.length : Int) - 1) 8 = true := by simpa using hd.1
      unfold belowL at h1
      simp only [Bool.and_eq_true, decide_eq_true_eq] at h1
      refine ⟨by omega, by omega, by omega, fun f hf => ?_⟩
      have := List.any_eq_false.1 hd.2 f hf
      simpa using this
theorem fn_sig {T : List LType} {n : Int} {f : LFn} (h : fnL T n f = true) : 0 ≤ f.sig ∧ f.sig < (T.length : Int) := by
  unfold fnL at h
  split at h
  · cases h
  · rename_i hb
    unfold badL at hb
    simp only [Bool.or_eq_true, not_or, Bool.not_eq_true, Bool.not_eq_false'] at hb
    have h1 : belowL f.sig T.length = true := by simpa using hb.1.1.1
    unfold belowL at h1
    simpa using h1

noncomputable def body53 : ACode := (.seq (.region [⟨some 2, none, (.box (.tmp 0))⟩, ⟨some 4, none, (.mov (.const (.int .i64 0)))⟩, ⟨some 5, none, (.mov (.const (.int .i64 0)))⟩]) (.seq (.seq (.region [⟨some 7, none, (.load true 2 (.tmp 2))⟩, ⟨some 8, none, (.call (.func 60) [(.tmp 7)])⟩, ⟨some 6, none, (.mov (.tmp 8))⟩]) (.seq (.region [⟨some 9, none, (.mov (.tmp 6))⟩, ⟨some 10, none, (.bin .neq (.tmp 9) (.const (.int .i64 0)))⟩]) (.cond (.tmp 10) (.seq (.region [⟨some 11, none, (.mov (.tmp 6))⟩, ⟨some 4, none, (.mov (.const (.int .i64 0)))⟩, ⟨some 5, none, (.mov (.tmp 11))⟩]) .ret) .skip))) (.seq (.seq (.region [⟨some 12, none, (.mov (.tmp 1))⟩, ⟨some 13, none, (.fld 1 (.tmp 2))⟩, ⟨some 14, none, (.load false 1 (.tmp 13))⟩, ⟨some 15, none, (.len (.tmp 14))⟩, ⟨some 16, none, (.call (.func 61) [(.tmp 12), (.tmp 15)])⟩, ⟨some 17, none, (.un .not (.tmp 16))⟩]) (.cond (.tmp 17) (.seq (.region [⟨some 4, none, (.mov (.const (.int .i64 0)))⟩, ⟨some 5, none, (.mov (.const (.int .i64 2)))⟩]) .ret) .skip)) (.seq (.regionC [(⟨some 18, none, (.fld 0 (.tmp 2))⟩, []), (⟨some 19, none, (.load false 1 (.tmp 18))⟩, []), (⟨some 20, none, (.fld 1 (.tmp 2))⟩, []), (⟨some 21, none, (.load false 1 (.tmp 20))⟩, []), (⟨some 22, none, (.mov (.tmp 1))⟩, []), (⟨some 23, none, (.idx 2 (.tmp 21) (.tmp 22))⟩, []), (⟨some 24, none, (.fld 0 (.tmp 23))⟩, []), (⟨some 25, none, (.load false 1 (.tmp 24))⟩, []), (⟨some 26, none, (.idx 4 (.tmp 19) (.tmp 25))⟩, []), (⟨some 27, none, (.fld 3 (.tmp 26))⟩, []), (⟨some 28, none, (.load false 1 (.tmp 27))⟩, []), (⟨some 29, none, (.len (.tmp 28))⟩, []), (⟨some 4, none, (.mov (.tmp 29))⟩, []), (⟨some 5, none, (.mov (.const (.int .i64 0)))⟩, [])]) .ret))))
set_option maxRecDepth 100000 in
theorem tab53 : tb.code 53 = some ⟨30, [(4, none), (5, none)], body53⟩ := by kernel_rfl
theorem asked_ok (h : AHeap) (vt vf : Value) (T : List LType) (F : List LFn) (f : Int) (tt : Tbl h) (hm : h.mark ≤ h.n) (sm : Small T F) (st : SlT h vt T) (sf : SlF h vf F) :
    WC Tryd.prog tb 53 [.agg #[vt, vf], I f] h fun r h' => r = .tuple #[I (askedL T F f).1, I (askedL T F f).2] ∧ Ext h h' := by
  refine WC.of (nostub 53) tab53 ?_; simp only [mkTm, Nat.zero_add, Nat.reduceAdd]
  refine go ?_
  refine WO.bx ?_
  intro p h1 e1 o1
  refine go ?_
  refine WO.con (prog_ok h1 vt vf T F (tt.ext e1) (mark_ext e1 hm) sm (st.ext e1) (SlF.ext sf e1)) ?_
  rintro _ h2 ⟨rfl, e2⟩
  have e12 := e1.trans e2
  have o1 := o1.ext e2
  have st2 := st.ext e12
  have sf2 := SlF.ext sf e12
  have hF := sm.funcs
  refine go ?_
  refine WX.br (fun hb => ?_) (fun hb => ?_) <;> simp only [DB] at hb <;> refine go ?_
  · refine rt ?_
    exact ⟨by rw [askedL, if_pos hb]; rfl, e12⟩
  have hb : progL T F = 0 := by omega
  refine WO.con (below_ok h2 f F.length) ?_
  rintro _ _ ⟨rfl, rfl⟩
  refine go ?_
  refine WX.br (fun hc => ?_) (fun hc => ?_) <;> simp only [DB] at hc <;> refine go ?_
  · refine rt ?_
    exact ⟨by rw [askedL, if_neg (by omega), hc, if_neg (by exact Bool.noConfusion)]; rfl, e12⟩
  have hf : 0 ≤ f ∧ f < (F.length : Int) := by unfold belowL at hc; simpa using hc
  obtain ⟨csF, ⟨vb, rfl, sb, hlb⟩, pcF, hsF⟩ := slr_at (i := f.toNat) sf2 (by omega)
  have hsig := fn_sig ((prog_sig hb).2.2.2 _ (getD_memR (l := F) (i := f.toNat) (by omega)))
  obtain ⟨csT, ⟨vp, rfl, sp, hsp⟩, pcT, hsT⟩ := slt_at (i := (F.getD f.toNat default).sig.toNat) st2 (by omega)
  refine go ?_
  refine rt ?_
  exact ⟨by rw [askedL, if_neg (by omega), hc, if_pos rfl]; rfl, e12⟩

noncomputable def body40 : ACode := (.seq (.region [⟨some 2, none, (.box (.tmp 0))⟩, ⟨some 4, none, (.mov (.const (.int .i64 0)))⟩, ⟨some 5, none, (.mov (.const (.int .i64 0)))⟩]) (.seq (.region [⟨some 9, none, (.load true 2 (.tmp 2))⟩, ⟨some 10, none, (.mov (.tmp 1))⟩, ⟨some 11, none, (.call (.func 53) [(.tmp 9), (.tmp 10)])⟩, ⟨some 8, none, (.mov (.tmp 11))⟩, ⟨some 12, none, (.extract (.tmp 8) 0)⟩, ⟨some 13, none, (.extract (.tmp 8) 1)⟩, ⟨some 6, none, (.mov (.tmp 12))⟩, ⟨some 7, none, (.mov (.tmp 13))⟩]) (.seq (.seq (.region [⟨some 14, none, (.mov (.tmp 7))⟩, ⟨some 15, none, (.bin .neq (.tmp 14) (.const (.int .i64 0)))⟩]) (.cond (.tmp 15) (.seq (.region [⟨some 16, none, (.mov (.tmp 7))⟩, ⟨some 4, none, (.mov (.const (.int .i64 0)))⟩, ⟨some 5, none, (.mov (.tmp 16))⟩]) .ret) .skip)) (.seq (.region [⟨some 17, none, (.mov (.tmp 6))⟩, ⟨some 18, none, (.fld 1 (.tmp 2))⟩, ⟨some 19, none, (.load false 1 (.tmp 18))⟩, ⟨some 20, none, (.mov (.tmp 1))⟩, ⟨some 21, none, (.idx 2 (.tmp 19) (.tmp 20))⟩, ⟨some 22, none, (.load true 2 (.tmp 21))⟩, ⟨some 23, none, (.call (.func 54) [(.tmp 22)])⟩, ⟨some 24, none, (.bin .add (.tmp 17) (.tmp 23))⟩, ⟨some 4, none, (.mov (.tmp 24))⟩, ⟨some 5, none, (.mov (.const (.int .i64 0)))⟩]) .ret))))
set_option maxRecDepth 100000 in
theorem tab40 : tb.code 40 = some ⟨25, [(4, none), (5, none)], body40⟩ := by kernel_rfl
theorem regs_ok (h : AHeap) (vt vf : Value) (T : List LType) (F : List LFn) (f : Int) (tt : Tbl h) (hm : h.mark ≤ h.n) (sm : Small T F) (st : SlT h vt T) (sf : SlF h vf F) :
    WC Tryd.prog tb 40 [.agg #[vt, vf], I f] h fun r h' => r = .tuple #[I (regsL T F f).1, I (regsL T F f).2] ∧ Ext h h' := by
  refine WC.of (nostub 40) tab40 ?_; simp only [mkTm, Nat.zero_add, Nat.reduceAdd]
  refine go ?_
  refine WO.bx ?_
  intro p h1 e1 o1
  refine go ?_
  refine WO.con (asked_ok h1 vt vf T F f (tt.ext e1) (mark_ext e1 hm) sm (st.ext e1) (SlF.ext sf e1)) ?_
  rintro _ h2 ⟨rfl, e2⟩
  have e12 := e1.trans e2
  have o1 := o1.ext e2
  have sf2 := SlF.ext sf e12
  have hF := sm.funcs
  refine go ?_
  refine WX.br (fun hb => ?_) (fun hb => ?_) <;> simp only [DB] at hb <;> refine go ?_
  · refine rt ?_
    exact ⟨by rw [regsL, if_pos hb]; rfl, e12⟩
  have hb2 : (askedL T F f).2 = 0 := by omega
  have hin : 0 ≤ f ∧ f < (F.length : Int) ∧ progL T F = 0 := by
    unfold askedL at hb2
    split at hb2
    · rename_i hp; exact absurd hb2 hp
    · rename_i hp
      split at hb2
      · rename_i hc; unfold belowL at hc; simp at hc; exact ⟨hc.1, hc.2, by omega⟩
      · cases hb2
  obtain ⟨csF, ⟨vb, rfl, sb, hlb⟩, pcF, hsF⟩ := slr_at (i := f.toNat) sf2 (by omega)
  have hmem := getD_memR (l := F) (i := f.toNat) (by omega)
  refine go ?_
  refine WO.con (many_ok h2 _ vb _ sb (sm.blocks _ hmem) (sm.ins _ hmem)) ?_
  rintro _ h3 ⟨rfl, e3⟩
  have hfn := (prog_sig hin.2.2).2.2.2 _ hmem
  have hbd : manyL (F.getD f.toNat default).blocks ≤ 128 := by
    unfold fnL at hfn
    split at hfn
    · cases hfn
    · rename_i hbad
      unfold badL at hbad
      simp only [Bool.or_eq_true, not_or, Bool.not_eq_true, decide_eq_false_iff_not] at hbad
      omega
  have hpos := manyL_pos (F.getD f.toNat default).blocks
  have hn : 0 ≤ (askedL T F f).1 ∧ (askedL T F f).1 ≤ 100 := by
    unfold askedL
    split
    · simp
    · split
      · have hs := fn_sig hfn
        have := sm.parts _ (getD_memR (l := T) (i := (F.getD f.toNat default).sig.toNat) (by omega))
        simp only; omega
      · simp
  refine go ?_
  refine rt ?_
  exact ⟨by rw [regsL, if_neg (by omega)]; rfl, e12.trans e3⟩
end Go.Proofs.YtbhdfhiecgebnaaDoor
