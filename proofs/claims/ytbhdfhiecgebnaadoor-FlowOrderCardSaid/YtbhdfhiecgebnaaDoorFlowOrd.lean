/- The blocks that are reached, and their order: what the program's functions come to in the abstract machine. -/
import Derived.Test.YtbhdfhiecgebnaaDoorFlowPreds
import Derived.Test.YtbhdfhiecgebnaaDoorSortPdq
namespace Go.Proofs.YtbhdfhiecgebnaaDoor
open Go.Am
set_option linter.unusedVariables false
set_option linter.unusedSimpArgs false
set_option maxHeartbeats 1000000

noncomputable def body51_0 : ACode := (.seq (.region [⟨some 8, none, (.bin .lss (.tmp 7) (.tmp 6))⟩]) (.seq (.cond (.tmp 8) .skip (.exit 0)) (.seq (.block 1 (.seq (.region [⟨some 9, none, (.idx 1 (.tmp 5) (.tmp 7))⟩, ⟨some 10, none, (.load false 1 (.tmp 9))⟩, ⟨some 4, none, (.mov (.tmp 10))⟩]) (.seq (.region [⟨some 11, none, (.mov (.tmp 0))⟩, ⟨some 12, none, (.mov (.tmp 4))⟩, ⟨some 13, none, (.call (.tmp 11) [(.tmp 12)])⟩, ⟨some 14, none, (.un .not (.tmp 13))⟩]) (.cond (.tmp 14) .ret .skip)))) (.region [⟨some 15, none, (.bin .add (.tmp 7) (.const (.int .i64 1)))⟩, ⟨some 7, none, (.mov (.tmp 15))⟩]))))
noncomputable def body51 : ACode := (.seq (.region [⟨some 5, none, (.load false 1 (.tmp 1))⟩, ⟨some 6, none, (.len (.tmp 5))⟩, ⟨some 7, none, (.mov (.const (.int .i64 0)))⟩]) (.block 0 (.loop body51_0)))
set_option maxRecDepth 100000 in
theorem tab51 : tb.code 51 = some ⟨16, [], body51⟩ := by kernel_rfl
theorem values1_ok (hA h : AHeap) (y p v : Value) (l : List Int) (hl : (l.length : Int) ≤ 1000000000) (J : Nat → AHeap → Prop) (h0 : J 0 h) (hr : ∀ i h', J i h' → OwnC hA h' p [v] ∧ SlI h' v l)
    (hy : ∀ i h', i < l.length → J i h' → WV Tryd.prog tb y [I (l.getD i 0)] h' fun r h'' => r = .bool true ∧ J (i + 1) h'') :
    WC Tryd.prog tb 51 [y, p] h fun _ h' => J l.length h' := by
  obtain ⟨o, s⟩ := hr 0 h h0
  obtain ⟨_, _, _, rfl⟩ := SlC.shape s
  have hr := Hid.mk hr
  have hy := Hid.mk hy
  refine WC.of (nostub 51) tab51 ?_; simp only [mkTm, Nat.zero_add, Nat.reduceAdd]
  refine go ?_
  refine WX.loopA [8, 9, 10, 4, 11, 12, 13, 14, 15, 7] (by kernel_rfl) (fun i => l.length - i) (fun i t h1 => tmGet t 7 = I i ∧ i ≤ l.length ∧ J i h1) 0 ?_ ?_
  · exact ⟨sl_, Nat.zero_le _, h0⟩
  rintro i t h1 hsame ⟨s7, hi, j1⟩
  obtain ⟨o1, s1⟩ := hr.out i h1 j1
  refine go ?_
  refine WX.br (fun hb => ?_) (fun hb => ?_) <;> simp only [DB] at hb
  · have hi' : i < l.length := by omega
    refine go ?_
    refine WO.conV (hy.out i h1 hi' j1) ?_
    rintro _ h2 ⟨rfl, j2⟩
    refine go ?_
    exact loopK_normal (i + 1) (by omega) ⟨sln, by omega, j2⟩
  · refine go ?_
    refine rtN ?_
    have : i = l.length := by omega
    subst this
    exact j1

noncomputable def body38 : ACode := (.seq (.region [⟨some 1, none, (.box (.tmp 0))⟩, ⟨some 2, none, (.mov (.const .nilFunc))⟩]) (.seq (.region [⟨some 3, none, (.mkFunc (.func 51) [] [(.tmp 1)])⟩, ⟨some 2, none, (.mov (.tmp 3))⟩]) .ret))
set_option maxRecDepth 100000 in
theorem tab38 : tb.code 38 = some ⟨4, [(2, none)], body38⟩ := by kernel_rfl
theorem values_ok (h : AHeap) (v : Value) :
    WC Tryd.prog tb 38 [v] h fun r h' => (∃ p, r = .func (.func 51) #[] #[p] ∧ OwnC h h' p v.cells.toList) ∧ Ext h h' := by
  refine WC.of (nostub 38) tab38 ?_; simp only [mkTm, Nat.zero_add, Nat.reduceAdd]
  refine go ?_
  refine WO.bx ?_
  intro p h1 e1 o1
  refine go ?_
  refine rt ?_
  exact ⟨⟨p, rfl, o1⟩, e1⟩

noncomputable def body57 : ACode := (.seq (.region [⟨some 2, none, (.box (.tmp 0))⟩, ⟨some 4, none, (.mov (.const (.slice none 0 0)))⟩]) (.seq (.seq (.region [⟨some 6, none, (.mov (.tmp 1))⟩]) (.block 0 (.rangeFunc (.tmp 6) [7] (.region [⟨some 5, none, (.mov (.tmp 7))⟩]) (.block 1 (.region [⟨some 8, none, (.load false 1 (.tmp 2))⟩, ⟨some 9, none, (.mov (.tmp 5))⟩, ⟨some 10, none, (.buildSlice 1 1 [(.int .i64 0)] [(0, 1, (.tmp 9))])⟩, ⟨some 11, none, (.append 1 (.tmp 8) (.tmp 10))⟩, ⟨none, none, (.store 1 (.tmp 2) (.tmp 11))⟩]))))) (.seq (.region [⟨some 12, none, (.load false 1 (.tmp 2))⟩, ⟨some 4, none, (.mov (.tmp 12))⟩]) .ret)))
set_option maxRecDepth 100000 in
theorem tab57 : tb.code 57 = some ⟨13, [(4, none)], body57⟩ := by kernel_rfl
/-- A list that a function yields. -/
theorem appendSeq_ok (h : AHeap) (p v : Value) (l : List Int) (hA : AHeap) (hl : (l.length : Int) ≤ 1000000000) (o : OwnC hA h p [v]) (s : SlI h v l) :
    WC Tryd.prog tb 57 [.slice none 0 0, .func (.func 51) #[] #[p]] h fun r h' => OwnN h h' r l ∧ Ext h h' := by
  refine WC.of (nostub 57) tab57 ?_; simp only [mkTm, Nat.zero_add, Nat.reduceAdd]
  refine go ?_
  refine WO.bx ?_
  intro p2 h1 e1 o1
  refine go ?_
  refine WX.rangeG ?_
  intro L g r hO rdy eO hL hg lL lg
  have o2 := o1.ext eO
  have eb := e1.trans eO
  refine WV.func ?_
  refine WC.mono (values1_ok hA hO _ p v l hl (fun i h' => Ext h h' ∧ Lies h' L (.loop r) ∧ Lies h' g (.deferred (some [])) ∧ ∃ w, OwnC h h' p2 [w] ∧ OwnN h h' w (l.take i)) ?_ ?_ ?_) ?_
  · exact ⟨eb, lL, lg, .slice none 0 0, o2, .inl ⟨rfl, rfl⟩⟩
  · rintro i h' ⟨e', _⟩
    exact ⟨o.ext e', s.ext e'⟩
  · rintro i h' hi ⟨e', lL', lg', w, ow, on⟩
    refine WV.yieldG lL' rdy rfl ?_
    simp only [setTm]
    refine go ?_
    refine rndK_normal ?_
    intro h2 hh2
    have e2 : Ext h h2 := by rw [hh2]; exact e'.set (by have := e1.n; omega) lL'.1 _
    have ow2 : OwnC h h2 p2 [w] := by rw [hh2]; exact ow.setR lL' rfl
    have on2 : OwnN h h2 w (l.take i) := by rw [hh2]; exact on.setR lL' rfl
    have lL2 : Lies h2 L (.loop (busy r)) := by rw [hh2]; exact lL'.self
    have lg2 : Lies h2 g (.deferred (some [])) := by
      rw [hh2]; refine lg'.set ?_
      intro e; subst e; have := lg'.2; rw [lL'.2] at this; cases this
    clear hh2
    obtain ⟨_, _, _, rfl⟩ := SlC.shape on2.sl
    refine go ?_
    refine WO.bl [l.getD i 0] ?_
    intro v3 h3 e3 o3
    refine go ?_
    have e03 := e2.trans e3
    have htl : (l.take i).length ≤ i := by rw [List.length_take]; omega
    refine WO.appendF (v := .slice _ _ _) (w := v3) (by exact ope_) (by exact ope_) (on2.ext e3) o3.sl e03 (by simp) (by simp only [List.length_singleton]; omega) ?_
    intro h4 e4 o4 u4
    have ow4 := OwnC.upd (ow2.ext e3) (on2.ext e3) u4
    have lL4 := (lL2.ext e3).upd rfl (on2.ext e3) u4
    have lg4 := (lg2.ext e3).upd rfl (on2.ext e3) u4
    refine go ?_
    refine WO.stC0 ow4 e4 ?_
    intro h5 e5 ow5 u5
    have on5 := OwnI.updC o4 ow4 u5
    have lL5 := lL4.updC rfl ow4 u5
    have lg5 := lg4.updC rfl ow4 u5
    refine go ?_
    refine rndE_normal lL5 ?_
    have tk : l.take (i + 1) = l.take i ++ [l.getD i 0] := by rw [List.take_add_one]; simp [List.getD, List.getElem?_eq_getElem hi]
    refine ⟨rfl, e5.set (by have := e1.n; omega) lL5.1 _, lL5.self, lg5.set ?_, _, ow5.setR lL5 rfl, ?_⟩
    · intro e; subst e; have := lg5.2; rw [lL5.2] at this; cases this
    · rw [tk]; exact (OwnN.setR (.inr on5) lL5 rfl)
  · rintro _ h2 ⟨e2, lL2, lg2, w, ow, on⟩
    refine ⟨lL2, fun r3 => ?_⟩
    have lgL : g ≠ L := by intro e; subst e; have := lg2.2; rw [lL2.2] at this; cases this
    obtain ⟨h3, hh3⟩ : ∃ h3, h3 = h2.set L (.loop r3) := ⟨_, rfl⟩
    have e3 : Ext h h3 := by rw [hh3]; exact e2.set (by have := e1.n; omega) lL2.1 _
    have ow3 : OwnC h h3 p2 [w] := by rw [hh3]; exact ow.setR lL2 rfl
    have on3 : OwnN h h3 w (l.take l.length) := by rw [hh3]; exact on.setR lL2 rfl
    have lg3 : Lies h3 g (.deferred (some [])) := by rw [hh3]; exact lg2.set lgL
    rw [← hh3]
    clear hh3
    obtain ⟨_, _, _, rfl⟩ := SlC.shape on3.sl
    refine go ?_
    refine retK_col lg3 ?_
    refine rt ?_
    rw [List.take_length] at on3
    exact ⟨on3.setR lg3 rfl, e3.set (by have := e1.n; omega) lg3.1 _⟩

noncomputable def body49 : ACode := (.seq (.region [⟨some 2, none, (.mov (.const (.slice none 0 0)))⟩]) (.seq (.region [⟨some 3, none, (.mov (.tmp 0))⟩, ⟨some 4, none, (.call (.func 57) [(.const (.slice none 0 0)), (.tmp 3)])⟩, ⟨some 2, none, (.mov (.tmp 4))⟩]) .ret))
set_option maxRecDepth 100000 in
theorem tab49 : tb.code 49 = some ⟨5, [(2, none)], body49⟩ := by kernel_rfl
theorem collect_ok (h : AHeap) (p v : Value) (l : List Int) (hA : AHeap) (hl : (l.length : Int) ≤ 1000000000) (o : OwnC hA h p [v]) (s : SlI h v l) :
    WC Tryd.prog tb 49 [.func (.func 51) #[] #[p]] h fun r h' => OwnN h h' r l ∧ Ext h h' := by
  refine WC.of (nostub 49) tab49 ?_; simp only [mkTm, Nat.zero_add, Nat.reduceAdd]
  refine go ?_
  refine WO.con (appendSeq_ok h p v l hA hl o s) ?_
  rintro r h1 ⟨o1, e1⟩
  refine go ?_
  refine rt ?_
  exact ⟨o1, e1⟩

noncomputable def body37 : ACode := (.seq (.region [⟨some 2, none, (.mov (.const (.slice none 0 0)))⟩]) (.seq (.region [⟨some 4, none, (.mov (.tmp 0))⟩, ⟨some 5, none, (.call (.func 49) [(.tmp 4)])⟩, ⟨some 3, none, (.mov (.tmp 5))⟩]) (.seq (.region [⟨some 6, none, (.mov (.tmp 3))⟩, ⟨some 7, none, (.call (.func 50) [(.tmp 6)])⟩]) (.seq (.region [⟨some 8, none, (.mov (.tmp 3))⟩, ⟨some 2, none, (.mov (.tmp 8))⟩]) .ret))))
set_option maxRecDepth 100000 in
theorem tab37 : tb.code 37 = some ⟨9, [(2, none)], body37⟩ := by kernel_rfl
theorem sorted_ok (h : AHeap) (p v : Value) (l : List Int) (hA : AHeap) (hl : (l.length : Int) ≤ 1000000000) (hm : h.mark ≤ h.n) (o : OwnC hA h p [v]) (s : SlI h v l) :
    WC Tryd.prog tb 37 [.func (.func 51) #[] #[p]] h fun r h' => OwnN h h' r (sortL l) ∧ Ext h h' := by
  refine WC.of (nostub 37) tab37 ?_; simp only [mkTm, Nat.zero_add, Nat.reduceAdd]
  refine go ?_
  refine WO.con (collect_ok h p v l hA hl o s) ?_
  rintro r h1 ⟨o1, e1⟩
  refine go ?_
  refine WO.con (sort_ok h h1 r l e1 hm o1 (by omega)) ?_
  rintro _ h2 ⟨o2, e2, u2⟩
  refine go ?_
  refine rt ?_
  exact ⟨o2, e2⟩

/-- What going through all from block 0 yields. -/
def postL (T : List LType) (F : List LFn) (f : Int) : List Int := (dfsL (nxL (blocksL T F f 0).1) (blocksL T F f 0).1.length [0] ([], [])).2
theorem dfsL_len {L : List LBlk} (hin : ∀ b, 0 ≤ b ∧ b < (L.length : Int) → ∀ c ∈ nxL L b, 0 ≤ c ∧ c < (L.length : Int)) (m : List Int) (hm : ∀ c ∈ m, 0 ≤ c ∧ c < (L.length : Int)) : (dfsL (nxL L) L.length m ([], [])).2.length ≤ L.length := by
  have : ∀ (m : List Int) (s : DS), (∀ c ∈ m, 0 ≤ c ∧ c < (L.length : Int)) → (dfsL (nxL L) L.length m s).2.length + unb L.length (dfsL (nxL L) L.length m s).1 ≤ s.2.length + unb L.length s.1 := by
    intro m
    induction m with
    | nil => intro s _; exact Nat.le_refl _
    | cons x m ih => intro s hm; exact Nat.le_trans (ih _ fun c hc => hm c (by simp [hc])) (dfs_bound hin _ x s (hm x (by simp)))
  have h1 := this m ([], []) hm
  have h2 := unb_le L.length []
  simp only [List.length_nil] at h1
  omega
def ReachL (T : List LType) (F : List LFn) (f : Int) : List Int × Int :=
  if (blocksL T F f 0).2 ≠ 0 then ([], (blocksL T F f 0).2) else (sortL (postL T F f), 0)
def OrderL (T : List LType) (F : List LFn) (f : Int) : List Int × Int :=
  if (blocksL T F f 0).2 ≠ 0 then ([], (blocksL T F f 0).2) else ((postL T F f).reverse, 0)

noncomputable def body21 : ACode := (.seq (.region [⟨some 2, none, (.box (.tmp 0))⟩, ⟨some 4, none, (.mov (.const (.slice none 0 0)))⟩, ⟨some 5, none, (.mov (.const (.int .i64 0)))⟩]) (.seq (.region [⟨some 9, none, (.load true 2 (.tmp 2))⟩, ⟨some 10, none, (.mov (.tmp 1))⟩, ⟨some 11, none, (.call (.func 27) [(.tmp 9), (.tmp 10), (.const (.int .i64 0))])⟩, ⟨some 8, none, (.mov (.tmp 11))⟩, ⟨some 12, none, (.extract (.tmp 8) 0)⟩, ⟨some 13, none, (.extract (.tmp 8) 1)⟩, ⟨some 6, none, (.mov (.tmp 12))⟩, ⟨some 7, none, (.mov (.tmp 13))⟩]) (.seq (.seq (.region [⟨some 14, none, (.mov (.tmp 7))⟩, ⟨some 15, none, (.bin .neq (.tmp 14) (.const (.int .i64 0)))⟩]) (.cond (.tmp 15) (.seq (.region [⟨some 16, none, (.mov (.tmp 7))⟩, ⟨some 4, none, (.mov (.const (.slice none 0 0)))⟩, ⟨some 5, none, (.mov (.tmp 16))⟩]) .ret) .skip)) (.seq (.region [⟨some 17, none, (.mov (.tmp 6))⟩, ⟨some 18, none, (.buildSlice 1 1 [(.int .i64 0)] [(0, 1, (.const (.int .i64 0)))])⟩, ⟨some 19, none, (.call (.func 33) [(.tmp 17), (.tmp 18)])⟩, ⟨some 20, none, (.call (.func 38) [(.tmp 19)])⟩, ⟨some 21, none, (.call (.func 37) [(.tmp 20)])⟩, ⟨some 4, none, (.mov (.tmp 21))⟩, ⟨some 5, none, (.mov (.const (.int .i64 0)))⟩]) .ret))))
set_option maxRecDepth 100000 in
theorem tab21 : tb.code 21 = some ⟨22, [(4, none), (5, none)], body21⟩ := by kernel_rfl
theorem Reach_ok (h : AHeap) (vt vf : Value) (T : List LType) (F : List LFn) (f : Int) (tt : Tbl h) (hm : h.mark ≤ h.n) (sm : Small T F) (st : SlT h vt T) (sf : SlF h vf F) :
    WC Tryd.prog tb 21 [.agg #[vt, vf], I f] h fun r h' => (∃ v, r = .tuple #[v, I (ReachL T F f).2] ∧ OwnN h h' v (ReachL T F f).1) ∧ Ext h h' := by
  refine WC.of (nostub 21) tab21 ?_; simp only [mkTm, Nat.zero_add, Nat.reduceAdd]
  refine go ?_
  refine WO.bx ?_
  intro p h1 e1 o1
  refine go ?_
  refine WO.con (fasked_ok h1 vt vf T F f 0 (tt.ext e1) (mark_ext e1 hm) sm (st.ext e1) (SlF.ext sf e1)) ?_
  rintro _ h2 ⟨⟨v, rfl, sb⟩, e2⟩
  have e12 := e1.trans e2
  refine go ?_
  refine WX.br (fun hb => ?_) (fun hb => ?_) <;> simp only [DB] at hb <;> refine go ?_
  · refine rt ?_
    rw [show ReachL T F f = ([], (blocksL T F f 0).2) from by rw [ReachL, if_pos hb]]
    exact ⟨⟨_, rfl, .inl ⟨rfl, rfl⟩⟩, e12⟩
  have hb0 : (blocksL T F f 0).2 = 0 := by omega
  obtain ⟨hlen, hnx⟩ := blocks_nx hb0
  obtain ⟨_, hpos, _, _⟩ := blocks_in hb0
  have hr0 : ∀ c ∈ ([0] : List Int), 0 ≤ c ∧ c < ((blocksL T F f 0).1.length : Int) := fun c hc => by
    rw [List.mem_singleton] at hc; subst hc; exact ⟨Int.le_refl _, hpos⟩
  have hlp := dfsL_len hnx [0] hr0
  rw [show ReachL T F f = (sortL (postL T F f), 0) from by rw [ReachL, if_neg (by omega)]]
  refine WO.bl [0] ?_
  intro v3 h3 e3 o3
  have e13 := e12.trans e3
  refine go ?_
  refine WO.con (from_ok h3 (mark_ext e13 hm) _ v v3 [0] (SlB.ext sb e3) (by omega) hnx o3.sl (by decide) hr0) ?_
  rintro q h4 ⟨o4, e4⟩
  have e14 := e13.trans e4
  obtain ⟨qa, qn, qk, rfl⟩ := SlC.shape o4.sl
  refine go ?_
  refine WO.con (values_ok h4 _) ?_
  rintro _ h5 ⟨⟨p5, rfl, o5⟩, e5⟩
  have e15 := e14.trans e5
  refine go ?_
  refine WO.con (sorted_ok h5 p5 _ _ h4 (by omega) (mark_ext e15 hm) o5 (o4.sl.ext e5)) ?_
  rintro r h6 ⟨o6, e6⟩
  refine go ?_
  refine rt ?_
  exact ⟨⟨_, rfl, o6.since e15⟩, e15.trans e6⟩
end Go.Proofs.YtbhdfhiecgebnaaDoor
