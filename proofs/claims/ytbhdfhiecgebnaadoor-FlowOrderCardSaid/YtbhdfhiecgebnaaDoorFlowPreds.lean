/- Which blocks go to one: what the program's function comes to in the abstract machine. -/
import Derived.Test.YtbhdfhiecgebnaaDoorFlowReach
namespace Go.Proofs.YtbhdfhiecgebnaaDoor
open Go.Am
set_option linter.unusedVariables false
set_option linter.unusedSimpArgs false
set_option maxHeartbeats 1000000

/-- The blocks that go to one, of the first so many. -/
def aheadN (L : List LBlk) (b : Int) (k : Nat) : List Int := ((List.range k).filter fun (i : Nat) => decide (b ∈ nextL (L.getD i default).fin)).map fun (i : Nat) => (i : Int)
theorem aheadN_succ (L : List LBlk) (b : Int) (k : Nat) : aheadN L b (k + 1) = if b ∈ nextL (L.getD k default).fin then aheadN L b k ++ [(k : Int)] else aheadN L b k := by
  unfold aheadN
  rw [List.range_succ, List.filter_append, List.map_append]
  by_cases h : b ∈ nextL (L.getD k default).fin
  · rw [if_pos h, List.filter_cons_of_pos (by simpa using h)]; rfl
  · rw [if_neg h, List.filter_cons_of_neg (by simpa using h)]; simp
theorem aheadN_len (L : List LBlk) (b : Int) (k : Nat) : (aheadN L b k).length ≤ k := by
  unfold aheadN
  rw [List.length_map]
  exact Nat.le_trans (List.length_filter_le _ _) (by simp)
def PredsL (T : List LType) (F : List LFn) (f b : Int) : List Int × Int :=
  if (blocksL T F f b).2 ≠ 0 then ([], (blocksL T F f b).2) else (aheadN (blocksL T F f b).1 b (blocksL T F f b).1.length, 0)

noncomputable def body12_0 : ACode := (.seq (.region [⟨some 24, none, (.bin .lss (.tmp 23) (.tmp 22))⟩]) (.seq (.cond (.tmp 24) .skip (.exit 0)) (.seq (.block 1 (.seq (.region [⟨some 25, none, (.mov (.tmp 23))⟩, ⟨some 26, none, (.idx 5 (.tmp 21) (.tmp 23))⟩, ⟨some 27, none, (.load true 5 (.tmp 26))⟩, ⟨some 10, none, (.alloc [(.slice none 0 0), (.int .u8 0), (.int .i64 0), (.int .i64 0), (.int .i64 0)])⟩, ⟨some 9, none, (.mov (.tmp 25))⟩, ⟨none, none, (.store 5 (.tmp 10) (.tmp 27))⟩]) (.seq (.region [⟨some 28, none, (.fld 1 (.tmp 10))⟩, ⟨some 29, none, (.load true 4 (.tmp 28))⟩, ⟨some 30, none, (.call (.func 28) [(.tmp 29)])⟩, ⟨some 31, none, (.mov (.tmp 2))⟩, ⟨some 32, none, (.call (.func 31) [(.tmp 30), (.tmp 31)])⟩]) (.cond (.tmp 32) (.region [⟨some 33, none, (.mov (.tmp 6))⟩, ⟨some 34, none, (.mov (.tmp 9))⟩, ⟨some 35, none, (.buildSlice 1 1 [(.int .i64 0)] [(0, 1, (.tmp 34))])⟩, ⟨some 36, none, (.append 1 (.tmp 33) (.tmp 35))⟩, ⟨some 6, none, (.mov (.tmp 36))⟩]) .skip)))) (.region [⟨some 37, none, (.bin .add (.tmp 23) (.const (.int .i64 1)))⟩, ⟨some 23, none, (.mov (.tmp 37))⟩]))))
noncomputable def body12 : ACode := (.seq (.region [⟨some 3, none, (.box (.tmp 0))⟩, ⟨some 6, none, (.mov (.const (.slice none 0 0)))⟩, ⟨some 7, none, (.mov (.const (.int .i64 0)))⟩]) (.seq (.region [⟨some 12, none, (.load true 2 (.tmp 3))⟩, ⟨some 13, none, (.mov (.tmp 1))⟩, ⟨some 14, none, (.mov (.tmp 2))⟩, ⟨some 15, none, (.call (.func 27) [(.tmp 12), (.tmp 13), (.tmp 14)])⟩, ⟨some 11, none, (.mov (.tmp 15))⟩, ⟨some 16, none, (.extract (.tmp 11) 0)⟩, ⟨some 17, none, (.extract (.tmp 11) 1)⟩, ⟨some 8, none, (.mov (.tmp 16))⟩, ⟨some 7, none, (.mov (.tmp 17))⟩]) (.seq (.seq (.region [⟨some 18, none, (.mov (.tmp 7))⟩, ⟨some 19, none, (.bin .neq (.tmp 18) (.const (.int .i64 0)))⟩]) (.cond (.tmp 19) (.seq (.region [⟨some 20, none, (.mov (.tmp 7))⟩, ⟨some 6, none, (.mov (.const (.slice none 0 0)))⟩, ⟨some 7, none, (.mov (.tmp 20))⟩]) .ret) .skip)) (.seq (.seq (.region [⟨some 21, none, (.mov (.tmp 8))⟩, ⟨some 22, none, (.len (.tmp 21))⟩, ⟨some 23, none, (.mov (.const (.int .i64 0)))⟩]) (.block 0 (.loop body12_0))) (.seq (.region [⟨some 38, none, (.mov (.tmp 6))⟩, ⟨some 6, none, (.mov (.tmp 38))⟩, ⟨some 7, none, (.mov (.const (.int .i64 0)))⟩]) .ret)))))
set_option maxRecDepth 100000 in
theorem tab12 : tb.code 12 = some ⟨39, [(6, none), (7, none)], body12⟩ := by kernel_rfl
theorem Preds_ok (h : AHeap) (vt vf : Value) (T : List LType) (F : List LFn) (f b : Int) (tt : Tbl h) (hm : h.mark ≤ h.n) (sm : Small T F) (st : SlT h vt T) (sf : SlF h vf F) :
    WC Tryd.prog tb 12 [.agg #[vt, vf], I f, I b] h fun r h' => (∃ v, r = .tuple #[v, I (PredsL T F f b).2] ∧ OwnN h h' v (PredsL T F f b).1) ∧ Ext h h' := by
  refine WC.of (nostub 12) tab12 ?_; simp only [mkTm, Nat.zero_add, Nat.reduceAdd]
  refine go ?_
  refine WO.bx ?_
  intro p h1 e1 o1
  refine go ?_
  refine WO.con (fasked_ok h1 vt vf T F f b (tt.ext e1) (mark_ext e1 hm) sm (st.ext e1) (SlF.ext sf e1)) ?_
  rintro _ h2 ⟨⟨v, rfl, sb⟩, e2⟩
  have e12 := e1.trans e2
  refine go ?_
  refine WX.br (fun hb => ?_) (fun hb => ?_) <;> simp only [DB] at hb <;> refine go ?_
  · refine rt ?_
    rw [show PredsL T F f b = ([], (blocksL T F f b).2) from by rw [PredsL, if_pos hb]]
    exact ⟨⟨_, rfl, .inl ⟨rfl, rfl⟩⟩, e12⟩
  have hb0 : (blocksL T F f b).2 = 0 := by omega
  obtain ⟨hlen, hnx⟩ := blocks_nx hb0
  rw [show PredsL T F f b = (aheadN (blocksL T F f b).1 b (blocksL T F f b).1.length, 0) from by rw [PredsL, if_neg (by omega)]]
  generalize (blocksL T F f b).1 = L at *
  refine WX.loopA [24, 25, 26, 27, 10, 9, 28, 29, 30, 31, 32, 33, 34, 35, 36, 6, 37, 23] (by kernel_rfl) (fun k => L.length - k) (fun k t h3 => tmGet t 23 = I k ∧ k ≤ L.length ∧ Ext h2 h3 ∧ ∃ w, tmGet t 6 = w ∧ OwnN h2 h3 w (aheadN L b k)) 0 ?_ ?_
  · exact ⟨sl_, Nat.zero_le _, Ext.refl _, .slice none 0 0, sl_, .inl ⟨rfl, rfl⟩⟩
  rintro k t h3 hsame ⟨s23, hk, e23, w, s6, ow⟩
  have sb3 := SlB.ext sb e23
  refine go ?_
  refine WX.br (fun hc => ?_) (fun hc => ?_) <;> simp only [DB] at hc
  · have hk' : k < L.length := by omega
    obtain ⟨cs, ⟨vi, rfl, si, hsi⟩, pc, hs⟩ := slr_at sb3 hk'
    obtain ⟨_, _, _, rfl⟩ := slr_shape si
    refine go ?_
    refine WO.al ?_
    intro p4 h4 e4 o4
    refine go ?_
    refine WO.stC0 o4 e4 ?_
    intro h5 e5 o5 _
    refine go ?_
    refine WO.con (next_ok h5 (L.getD k default).fin) ?_
    rintro r h6 ⟨s6', _, e6⟩
    have hn2 := next_len (L.getD k default).fin
    refine go ?_
    refine WO.con (contains_ok h6 r _ b s6' (by omega)) ?_
    rintro _ _ ⟨rfl, rfl⟩
    have ow6 := (ow.ext e5).ext e6
    have e36 := e5.trans e6
    have hsucc := aheadN_succ L b k
    have hal := aheadN_len L b k
    refine go ?_
    refine WX.br (fun hd => ?_) (fun hd => ?_) <;> simp only [DB] at hd <;> refine go ?_
    · rw [if_pos hd] at hsucc
      refine WO.bl [(k : Int)] ?_
      intro v7 h7 e7 o7
      refine go ?_
      refine WO.apN (ow6.ext e7) o7.sl ((e23.trans e36).trans e7) (by simp only [List.length_singleton]; omega) ?_
      intro v8 h8 e8 o8
      refine go ?_
      exact loopK_normal (k + 1) (by omega) ⟨sln, by omega, e8, v8, sl_, by rw [hsucc]; exact o8⟩
    · rw [if_neg hd] at hsucc
      exact loopK_normal (k + 1) (by omega) ⟨sln, by omega, e23.trans e36, w, sl_, by rw [hsucc]; exact ow6⟩
  · have hkk : k = L.length := by omega
    subst hkk
    refine go ?_
    refine rt ?_
    exact ⟨⟨_, rfl, ow.since e12⟩, e12.trans e23⟩
end Go.Proofs.YtbhdfhiecgebnaaDoor
