/- The blocks in their order: what the program's function comes to in the abstract machine. -/
import Derived.Test.YtbhdfhiecgebnaaDoorFlowOrd
namespace Go.Proofs.YtbhdfhiecgebnaaDoor
open Go.Am
set_option linter.unusedVariables false
set_option linter.unusedSimpArgs false
set_option maxHeartbeats 1000000

noncomputable def body52_0 : ACode := (.seq (.seq (.region [⟨some 7, none, (.mov (.tmp 3))⟩, ⟨some 8, none, (.bin .geq (.tmp 7) (.const (.int .i64 0)))⟩]) (.cond (.tmp 8) .skip (.exit 0))) (.seq (.block 1 (.seq (.region [⟨some 11, none, (.mov (.tmp 0))⟩, ⟨some 12, none, (.mov (.tmp 3))⟩, ⟨some 13, none, (.load false 1 (.tmp 1))⟩, ⟨some 14, none, (.mov (.tmp 3))⟩, ⟨some 15, none, (.idx 1 (.tmp 13) (.tmp 14))⟩, ⟨some 16, none, (.load false 1 (.tmp 15))⟩, ⟨some 17, none, (.call (.tmp 11) [(.tmp 12), (.tmp 16)])⟩, ⟨some 18, none, (.un .not (.tmp 17))⟩]) (.cond (.tmp 18) .ret .skip))) (.region [⟨some 9, none, (.mov (.tmp 3))⟩, ⟨some 10, none, (.bin .sub (.tmp 9) (.const (.int .i64 1)))⟩, ⟨some 3, none, (.mov (.tmp 10))⟩])))
noncomputable def body52 : ACode := (.seq (.region [⟨some 4, none, (.load false 1 (.tmp 1))⟩, ⟨some 5, none, (.len (.tmp 4))⟩, ⟨some 6, none, (.bin .sub (.tmp 5) (.const (.int .i64 1)))⟩, ⟨some 3, none, (.mov (.tmp 6))⟩]) (.block 0 (.loop body52_0)))
set_option maxRecDepth 100000 in
theorem tab52 : tb.code 52 = some ⟨19, [], body52⟩ := by kernel_rfl
theorem backward1_ok (hA h : AHeap) (y p v : Value) (l : List Int) (hl : (l.length : Int) ≤ 1000000000) (J : Nat → AHeap → Prop) (h0 : J 0 h) (hr : ∀ i h', J i h' → OwnC hA h' p [v] ∧ SlI h' v l)
    (hy : ∀ i h', i < l.length → J i h' → WV Tryd.prog tb y [I ((l.length : Int) - 1 - i), I (l.getD (l.length - 1 - i) 0)] h' fun r h'' => r = .bool true ∧ J (i + 1) h'') :
    WC Tryd.prog tb 52 [y, p] h fun _ h' => J l.length h' := by
  obtain ⟨o, s⟩ := hr 0 h h0
  obtain ⟨_, _, _, rfl⟩ := SlC.shape s
  have hr := Hid.mk hr
  have hy := Hid.mk hy
  refine WC.of (nostub 52) tab52 ?_; simp only [mkTm, Nat.zero_add, Nat.reduceAdd]
  refine go ?_
  refine WX.loopA [7, 8, 11, 12, 13, 14, 15, 16, 17, 18, 9, 10, 3] (by kernel_rfl) (fun i => l.length - i) (fun i t h1 => tmGet t 3 = I ((l.length : Int) - 1 - i) ∧ i ≤ l.length ∧ J i h1) 0 ?_ ?_
  · exact ⟨by rw [show (l.length : Int) - 1 - ((0 : Nat) : Int) = l.length - 1 by omega]; exact sl_, Nat.zero_le _, h0⟩
  rintro i t h1 hsame ⟨s3, hi, j1⟩
  obtain ⟨o1, s1⟩ := hr.out i h1 j1
  refine go ?_
  refine WX.br (fun hb => ?_) (fun hb => ?_) <;> simp only [DB] at hb
  · have hi' : i < l.length := by omega
    have hidx : ((l.length : Int) - 1 - i).toNat = l.length - 1 - i := by omega
    refine go ?_
    have hyi := hy.out i h1 hi' j1
    rw [← hidx] at hyi
    refine WO.conV hyi ?_
    rintro _ h2 ⟨rfl, j2⟩
    refine go ?_
    exact loopK_normal (i + 1) (by omega) ⟨by rw [show (l.length : Int) - 1 - ((i + 1 : Nat) : Int) = l.length - 1 - i - 1 by omega]; exact sl_, by omega, j2⟩
  · refine go ?_
    refine rtN ?_
    have : i = l.length := by omega
    subst this
    exact j1

noncomputable def body39 : ACode := (.seq (.region [⟨some 1, none, (.box (.tmp 0))⟩, ⟨some 2, none, (.mov (.const .nilFunc))⟩]) (.seq (.region [⟨some 3, none, (.mkFunc (.func 52) [] [(.tmp 1)])⟩, ⟨some 2, none, (.mov (.tmp 3))⟩]) .ret))
set_option maxRecDepth 100000 in
theorem tab39 : tb.code 39 = some ⟨4, [(2, none)], body39⟩ := by kernel_rfl
theorem backward_ok (h : AHeap) (v : Value) :
    WC Tryd.prog tb 39 [v] h fun r h' => (∃ p, r = .func (.func 52) #[] #[p] ∧ OwnC h h' p v.cells.toList) ∧ Ext h h' := by
  refine WC.of (nostub 39) tab39 ?_; simp only [mkTm, Nat.zero_add, Nat.reduceAdd]
  refine go ?_
  refine WO.bx ?_
  intro p h1 e1 o1
  refine go ?_
  refine rt ?_
  exact ⟨⟨p, rfl, o1⟩, e1⟩

theorem rev_take (l : List Int) {i : Nat} (hi : i < l.length) : l.reverse.take (i + 1) = l.reverse.take i ++ [l.getD (l.length - 1 - i) 0] := by
  rw [List.take_add_one, List.getElem?_reverse hi]
  simp [List.getD, List.getElem?_eq_getElem (show l.length - 1 - i < l.length by omega)]

noncomputable def body22 : ACode := (.seq (.region [⟨some 2, none, (.box (.tmp 0))⟩, ⟨some 4, none, (.alloc [(.slice none 0 0)])⟩, ⟨some 5, none, (.mov (.const (.int .i64 0)))⟩]) (.seq (.region [⟨some 10, none, (.load true 2 (.tmp 2))⟩, ⟨some 11, none, (.mov (.tmp 1))⟩, ⟨some 12, none, (.call (.func 27) [(.tmp 10), (.tmp 11), (.const (.int .i64 0))])⟩, ⟨some 9, none, (.mov (.tmp 12))⟩, ⟨some 13, none, (.extract (.tmp 9) 0)⟩, ⟨some 14, none, (.extract (.tmp 9) 1)⟩, ⟨some 6, none, (.mov (.tmp 13))⟩, ⟨some 5, none, (.mov (.tmp 14))⟩]) (.seq (.seq (.region [⟨some 15, none, (.mov (.tmp 5))⟩, ⟨some 16, none, (.bin .neq (.tmp 15) (.const (.int .i64 0)))⟩]) (.cond (.tmp 16) (.seq (.region [⟨some 17, none, (.mov (.tmp 5))⟩, ⟨none, none, (.store 1 (.tmp 4) (.const (.slice none 0 0)))⟩, ⟨some 5, none, (.mov (.tmp 17))⟩]) .ret) .skip)) (.seq (.seq (.region [⟨some 18, none, (.mov (.tmp 6))⟩, ⟨some 19, none, (.buildSlice 1 1 [(.int .i64 0)] [(0, 1, (.const (.int .i64 0)))])⟩, ⟨some 20, none, (.call (.func 33) [(.tmp 18), (.tmp 19)])⟩, ⟨some 21, none, (.call (.func 39) [(.tmp 20)])⟩]) (.block 0 (.rangeFunc (.tmp 21) [22, 23] (.region [⟨some 8, none, (.mov (.tmp 23))⟩]) (.block 1 (.region [⟨some 24, none, (.load false 1 (.tmp 4))⟩, ⟨some 25, none, (.mov (.tmp 8))⟩, ⟨some 26, none, (.buildSlice 1 1 [(.int .i64 0)] [(0, 1, (.tmp 25))])⟩, ⟨some 27, none, (.append 1 (.tmp 24) (.tmp 26))⟩, ⟨none, none, (.store 1 (.tmp 4) (.tmp 27))⟩]))))) (.seq (.region [⟨some 28, none, (.load false 1 (.tmp 4))⟩, ⟨none, none, (.store 1 (.tmp 4) (.tmp 28))⟩, ⟨some 5, none, (.mov (.const (.int .i64 0)))⟩]) .ret)))))
set_option maxRecDepth 100000 in
theorem tab22 : tb.code 22 = some ⟨29, [(4, some (false, 1)), (5, none)], body22⟩ := by kernel_rfl
theorem Order_ok (h : AHeap) (vt vf : Value) (T : List LType) (F : List LFn) (f : Int) (tt : Tbl h) (hm : h.mark ≤ h.n) (sm : Small T F) (st : SlT h vt T) (sf : SlF h vf F) :
    WC Tryd.prog tb 22 [.agg #[vt, vf], I f] h fun r h' => (∃ v, r = .tuple #[v, I (OrderL T F f).2] ∧ OwnN h h' v (OrderL T F f).1) ∧ Ext h h' := by
  refine WC.of (nostub 22) tab22 ?_; simp only [mkTm, Nat.zero_add, Nat.reduceAdd]
  refine go ?_
  refine WO.bx ?_
  intro p h1 e1 o1
  refine go ?_
  refine WO.al ?_
  intro p4 h2 e2 o2
  have o2 := o2.since e1
  have o1 := o1.ext e2
  have e02 := e1.trans e2
  refine go ?_
  refine WO.con (fasked_ok h2 vt vf T F f 0 (tt.ext e02) (mark_ext e02 hm) sm (st.ext e02) (SlF.ext sf e02)) ?_
  rintro _ h3 ⟨⟨v, rfl, sb⟩, e3⟩
  have e03 := e02.trans e3
  have o3 := o2.ext e3
  refine go ?_
  refine WX.br (fun hb => ?_) (fun hb => ?_) <;> simp only [DB] at hb <;> refine go ?_
  · refine WO.stC0 o3 e03 ?_
    intro h4 e4 o4 _
    refine go ?_
    rw [show OrderL T F f = ([], (blocksL T F f 0).2) from by rw [OrderL, if_pos hb]]
    refine rt ?_ (Res.consB sl_ o4 rfl (Res.cons sl_ Res.nil))
    exact ⟨⟨_, rfl, .inl ⟨rfl, rfl⟩⟩, e4⟩
  have hb0 : (blocksL T F f 0).2 = 0 := by omega
  obtain ⟨hlen, hnx⟩ := blocks_nx hb0
  obtain ⟨_, hpos, _, _⟩ := blocks_in hb0
  have hr0 : ∀ c ∈ ([0] : List Int), 0 ≤ c ∧ c < ((blocksL T F f 0).1.length : Int) := fun c hc => by
    rw [List.mem_singleton] at hc; subst hc; exact ⟨Int.le_refl _, hpos⟩
  have hlp := dfsL_len hnx [0] hr0
  rw [show OrderL T F f = ((postL T F f).reverse, 0) from by rw [OrderL, if_neg (by omega)]]
  refine WO.bl [0] ?_
  intro v4 h4 e4 o4
  have e04 := e03.trans e4
  have o24 := o3.ext e4
  refine go ?_
  refine WO.con (from_ok h4 (mark_ext e04 hm) _ v v4 [0] (SlB.ext sb e4) (by omega) hnx o4.sl (by decide) hr0) ?_
  rintro q h5 ⟨o5, e5⟩
  have e05 := e04.trans e5
  have o25 := o24.ext e5
  obtain ⟨qa, qn, qk, rfl⟩ := SlC.shape o5.sl
  refine go ?_
  refine WO.con (backward_ok h5 _) ?_
  rintro _ h6 ⟨⟨p6, rfl, o6⟩, e6⟩
  have e06 := e05.trans e6
  have o26 := o25.ext e6
  have o56 := (o5.ext e6).since (Ext.refl h4)
  have hpl : postL T F f = (dfsL (nxL (blocksL T F f 0).1) (blocksL T F f 0).1.length [0] ([], [])).2 := rfl
  rw [← hpl] at hlp o56 o5
  generalize postL T F f = l at hlp o56 o5 ⊢
  clear hpl
  refine go ?_
  refine WX.rangeG ?_
  intro L g r hO rdy eO hL hg lL lg
  have eOb := e06.trans eO
  obtain ⟨g4, hg4, rfl⟩ : ∃ g4, g4 < h4.n ∧ p4 = .pointer (some ⟨g4, 0, none⟩) := let ⟨g, _, a, b, _⟩ := o24; ⟨g, a, b⟩
  have oO := o26.ext eO
  refine WV.func ?_
  refine WC.mono (backward1_ok h5 hO _ p6 (.slice qa qn qk) l (by omega) (fun i h' => Ext h h' ∧ UpdC (.pointer (some ⟨g4, 0, none⟩)) h6 h' ∧ Lies h' L (.loop r) ∧ Lies h' g (.deferred (some [])) ∧ ∃ w, OwnC h h' (.pointer (some ⟨g4, 0, none⟩)) [w] ∧ OwnN h6 h' w (l.reverse.take i)) ?_ ?_ ?_) ?_
  · exact ⟨eOb, (UpdC.refl _ h6).extd eO, lL, lg, .slice none 0 0, oO, .inl ⟨rfl, rfl⟩⟩
  · rintro i h' ⟨_, u', _⟩
    exact ⟨o6.offC u' (Nat.lt_of_lt_of_le hg4 e5.n), (o56.offC u' hg4).sl⟩
  · rintro i h' hi ⟨e', u', lL', lg', w, ow, on⟩
    refine WV.yieldG lL' rdy rfl ?_
    simp only [setTm]
    refine go ?_
    refine rndK_normal ?_
    intro j2 hh2
    have e2' : Ext h j2 := by rw [hh2]; exact e'.set (Nat.le_trans e06.n hL) lL'.1 _
    have u2' : UpdC (.pointer (some ⟨g4, 0, none⟩)) h6 j2 := by rw [hh2]; exact u'.setL hL
    have ow2 : OwnC h j2 (.pointer (some ⟨g4, 0, none⟩)) [w] := by rw [hh2]; exact ow.setR lL' rfl
    have on2 : OwnN h6 j2 w (l.reverse.take i) := by rw [hh2]; exact on.setR lL' rfl
    have lL2 : Lies j2 L (.loop (busy r)) := by rw [hh2]; exact lL'.self
    have lg2 : Lies j2 g (.deferred (some [])) := by
      rw [hh2]; refine lg'.set ?_
      intro e; subst e; have := lg'.2; rw [lL'.2] at this; cases this
    clear hh2
    obtain ⟨_, _, _, rfl⟩ := SlC.shape on2.sl
    refine go ?_
    refine WO.bl [l.getD (l.length - 1 - i) 0] ?_
    intro v3 j3 e3' o3'
    refine go ?_
    have e03' := e2'.trans e3'
    have htl : (l.reverse.take i).length ≤ i := by rw [List.length_take]; omega
    have on3 := on2.ext e3'
    refine WO.appendF (v := .slice _ _ _) (w := v3) (by exact ope_) (by exact ope_) (on3.since e06) o3'.sl e03' (by simp) (by simp only [List.length_singleton]; omega) ?_
    intro j4 e4' o4' u4'
    have ow4 := OwnC.upd (ow2.ext e3') (on3.since e06) u4'
    have lL4 := (lL2.ext e3').upd rfl on3 u4'
    have lg4 := (lg2.ext e3').upd rfl on3 u4'
    have u4 := (u2'.extd e3').upd on3 u4'
    refine go ?_
    refine WO.stC0 ow4 e4' ?_
    intro j5 e5' ow5 u5'
    have on5 := (OwnI.updC o4' ow4 u5').rebase (Nat.le_trans u2'.1 e3'.n)
    have lL5 := lL4.updC rfl ow4 u5'
    have lg5 := lg4.updC rfl ow4 u5'
    have u5 := u4.trans u5'
    refine go ?_
    refine rndE_normal lL5 ?_
    have tk := rev_take l hi
    refine ⟨rfl, e5'.set (Nat.le_trans e06.n hL) lL5.1 _, u5.setL hL, lL5.self, lg5.set ?_, _, ow5.setR lL5 rfl, ?_⟩
    · intro e; subst e; have := lg5.2; rw [lL5.2] at this; cases this
    · rw [tk]; exact (OwnN.setR (.inr on5) lL5 rfl)
  · rintro _ j2 ⟨e2', u2', lL2, lg2, w, ow, on⟩
    refine ⟨lL2, fun r3 => ?_⟩
    have lgL : g ≠ L := by intro e; subst e; have := lg2.2; rw [lL2.2] at this; cases this
    obtain ⟨j3, hh3⟩ : ∃ j3, j3 = j2.set L (.loop r3) := ⟨_, rfl⟩
    have e3' : Ext h j3 := by rw [hh3]; exact e2'.set (Nat.le_trans e06.n hL) lL2.1 _
    have ow3 : OwnC h j3 (.pointer (some ⟨g4, 0, none⟩)) [w] := by rw [hh3]; exact ow.setR lL2 rfl
    have on3 : OwnN h6 j3 w (l.reverse.take l.length) := by rw [hh3]; exact on.setR lL2 rfl
    have lg3 : Lies j3 g (.deferred (some [])) := by rw [hh3]; exact lg2.set lgL
    rw [← hh3]
    clear hh3
    obtain ⟨_, _, _, rfl⟩ := SlC.shape on3.sl
    rw [List.take_of_length_le (by rw [List.length_reverse]; exact Nat.le_refl _)] at on3
    refine go ?_
    refine WO.stC0 ow3 e3' ?_
    intro j4 e4' ow4 u4'
    have lg4 := lg3.updC rfl ow3 u4'
    have on4 := on3.offC u4' (Nat.lt_of_lt_of_le hg4 (e5.trans e6).n)
    refine go ?_
    refine retK_col lg4 ?_
    refine rt ?_ (Res.consB sl_ (ow4.setR lg4 rfl) rfl (Res.cons sl_ Res.nil))
    exact ⟨⟨_, rfl, (on4.setR lg4 rfl).since e06⟩, e4'.set (Nat.le_trans e06.n hg) lg4.1 _⟩
end Go.Proofs.YtbhdfhiecgebnaaDoor
