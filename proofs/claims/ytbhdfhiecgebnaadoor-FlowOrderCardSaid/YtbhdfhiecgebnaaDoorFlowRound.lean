/- Rounds: what the program's answer comes to in the abstract machine. -/
import Derived.Test.YtbhdfhiecgebnaaDoorFlowDfs2
namespace Go.Proofs.YtbhdfhiecgebnaaDoor
open Go.Am
set_option linter.unusedVariables false
set_option linter.unusedSimpArgs false
set_option maxHeartbeats 4000000

theorem unb_le (N : Nat) (es : List (Int × Int)) : unb N es ≤ N := by
  unfold unb
  have := List.length_filter_le (fun (i : Nat) => (es.lookup ((i : Nat) : Int)).isNone) (List.range N)
  simpa using this

noncomputable def body33 : ACode := (.seq (.region [⟨some 4, none, (.mov (.const (.slice none 0 0)))⟩]) (.seq (.region [⟨some 6, none, (.mov (.tmp 0))⟩, ⟨some 7, none, .mkMap⟩, ⟨some 8, none, (.build [(.slice none 0 0), (.map none), (.slice none 0 0)] [(0, 1, (.tmp 6)), (1, 1, (.tmp 7))])⟩, ⟨some 9, none, (.box (.tmp 8))⟩, ⟨some 5, none, (.mov (.tmp 9))⟩]) (.seq (.region [⟨some 10, none, (.mov (.tmp 5))⟩, ⟨some 11, none, (.mov (.tmp 1))⟩, ⟨some 12, none, (.call (.func 45) [(.tmp 10), (.tmp 11), (.func 46)])⟩]) (.seq (.region [⟨some 13, none, (.mov (.tmp 5))⟩, ⟨some 14, none, (.nilCheck (.tmp 13))⟩, ⟨some 15, none, (.fld 2 (.tmp 14))⟩, ⟨some 16, none, (.load false 1 (.tmp 15))⟩, ⟨some 4, none, (.mov (.tmp 16))⟩]) .ret))))
set_option maxRecDepth 100000 in
theorem tab33 : tb.code 33 = some ⟨17, [(4, none)], body33⟩ := by kernel_rfl
theorem from_ok (h : AHeap) (hm : h.mark ≤ h.n) (L : List LBlk) (vl fv : Value) (l : List Int) (bl : SlB h vl L) (hL : L.length ≤ 1000) (hin : ∀ b, 0 ≤ b ∧ b < (L.length : Int) → ∀ c ∈ nxL L b, 0 ≤ c ∧ c < (L.length : Int)) (sl : SlI h fv l) (hl : (l.length : Int) ≤ 1000) (hr : ∀ c ∈ l, 0 ≤ c ∧ c < (L.length : Int)) :
    WC Tryd.prog tb 33 [vl, fv] h fun r h' => OwnN h h' r (dfsL (nxL L) L.length l ([], [])).2 ∧ Ext h h' := by
  obtain ⟨la, ln, lk, rfl⟩ := slr_shape bl
  refine WC.of (nostub 33) tab33 ?_; simp only [mkTm, Nat.zero_add, Nat.reduceAdd]
  refine go ?_
  refine WO.mkMap ?_
  intro vm h1 e1 m1
  obtain ⟨gm, rfl⟩ : ∃ g, vm = .map (some g) := let ⟨g, _, _, _, _, e, _⟩ := m1; ⟨g, e⟩
  refine go ?_
  refine WO.bx ?_
  intro p h2 e2 o2
  have e12 := e1.trans e2
  have w2 : WS h h2 p (.slice la ln lk) (.map (some gm)) (.slice none 0 0) ([], []) := ⟨o2.since e1, m1.ext e2, .inl ⟨rfl, rfl⟩, e12⟩
  have hoff : Off h2 p (.map (some gm)) (.slice none 0 0) fv l := by
    rcases sl.2 with ⟨h0, hv⟩ | ⟨g, off, row, hv, hr, hc, hg⟩
    · exact .inl (List.length_eq_zero_iff.1 h0)
    · refine .inr ⟨g, off, hv, Nat.lt_of_lt_of_le hg e12.n, ?_⟩
      obtain ⟨g1, a1, _, hp, _⟩ := w2.own
      obtain ⟨g2, _, _, a2, _, hm2, _⟩ := w2.map
      cases hm2
      refine ⟨fun e => ?_, fun e => by cases e; omega, fun a n c e => by cases e⟩
      rw [hp] at e; cases e; omega
  refine go ?_
  refine WO.con (each_ok h L (.slice la ln lk) hin L.length (fun h' p vm vd s b w hb hu hd => block_ok h hm L (.slice la ln lk) bl hL hin L.length h' p vm vd s b w hb hu hd) h2 p _ _ fv ([], []) l w2 (sl.ext e12) hl hoff hr (unb_le _ _) (by have := unb_le L.length []; simp only [List.length_nil]; omega)) ?_
  rintro _ h3 ⟨vd, w3, k3⟩
  obtain ⟨gp, rfl⟩ := own_ptr w3.own
  have wo3 := w3.own
  refine go ?_
  refine rt ?_
  exact ⟨w3.dn, w3.ext⟩

/-- Blocks of a function that may be go to blocks that there are. -/
theorem ends_in {T : List LType} {n : Int} {f : LFn} (h : fnL T n f = true) : f.blocks.length ≤ 16 ∧ ∀ b, 0 ≤ b ∧ b < (f.blocks.length : Int) → ∀ c ∈ nxL f.blocks b, 0 ≤ c ∧ c < (f.blocks.length : Int) := by
  unfold fnL at h
  split at h
  · cases h
  · rename_i hbad
    have hlen : f.blocks.length ≤ 16 := by
      unfold badL at hbad
      simp only [Bool.or_eq_true, not_or, Bool.not_eq_true, Bool.not_eq_false'] at hbad
      have h1 : belowL ((f.blocks.length : Int) - 1) 16 = true := by simpa using hbad.1.2
      unfold belowL at h1
      simp only [Bool.and_eq_true, decide_eq_true_eq] at h1
      omega
    refine ⟨hlen, fun b hb c hc => ?_⟩
    rw [Bool.not_eq_true', List.any_eq_false] at h
    have hmem := getD_memR (l := f.blocks) (i := b.toNat) (by omega)
    have hblk := h _ hmem
    unfold blkL at hblk
    simp only [Bool.or_eq_true, not_or, Bool.not_eq_true, Bool.not_eq_false'] at hblk
    have he : endL (f.blocks.getD b.toNat default).fin (szL T n f) = true := by simpa using hblk.2
    unfold nxL nextL at hc
    unfold endL belowL szL at he
    split at hc
    · rename_i hk
      rw [if_pos hk] at he
      simp only [Bool.and_eq_true, decide_eq_true_eq] at he
      simp only [List.mem_singleton] at hc
      omega
    · rename_i hk
      rw [if_neg hk] at he
      split at hc
      · rename_i hk2
        rw [if_pos hk2] at he
        simp only [Bool.and_eq_true, decide_eq_true_eq] at he
        split at hc
        · simp only [List.mem_singleton] at hc; omega
        · simp only [List.mem_cons, List.mem_nil_iff, or_false] at hc
          rcases hc with rfl | rfl <;> omega
      · cases hc

theorem blocks_nx {T : List LType} {F : List LFn} {f b : Int} (h : (blocksL T F f b).2 = 0) : (blocksL T F f b).1.length ≤ 16 ∧ ∀ c, 0 ≤ c ∧ c < ((blocksL T F f b).1.length : Int) → ∀ d ∈ nxL (blocksL T F f b).1 c, 0 ≤ d ∧ d < ((blocksL T F f b).1.length : Int) := by
  obtain ⟨_, _, h3, h4⟩ := blocks_in h
  have hin := regs_in h4
  rw [h3]
  exact ends_in ((prog_sig hin.2.2).2.2.2 _ (getD_memR (l := F) (i := f.toNat) (by omega)))

def RoundL (T : List LType) (F : List LFn) (f b : Int) : Bool × Int :=
  if (blocksL T F f b).2 ≠ 0 then (false, (blocksL T F f b).2) else (decide (b ∈ (dfsL (nxL (blocksL T F f b).1) (blocksL T F f b).1.length (nxL (blocksL T F f b).1 b) ([], [])).2), 0)

noncomputable def body14 : ACode := (.seq (.region [⟨some 3, none, (.box (.tmp 0))⟩, ⟨some 6, none, (.mov (.const (.bool false)))⟩, ⟨some 7, none, (.mov (.const (.int .i64 0)))⟩]) (.seq (.region [⟨some 11, none, (.load true 2 (.tmp 3))⟩, ⟨some 12, none, (.mov (.tmp 1))⟩, ⟨some 13, none, (.mov (.tmp 2))⟩, ⟨some 14, none, (.call (.func 27) [(.tmp 11), (.tmp 12), (.tmp 13)])⟩, ⟨some 10, none, (.mov (.tmp 14))⟩, ⟨some 15, none, (.extract (.tmp 10) 0)⟩, ⟨some 16, none, (.extract (.tmp 10) 1)⟩, ⟨some 8, none, (.mov (.tmp 15))⟩, ⟨some 9, none, (.mov (.tmp 16))⟩]) (.seq (.seq (.region [⟨some 17, none, (.mov (.tmp 9))⟩, ⟨some 18, none, (.bin .neq (.tmp 17) (.const (.int .i64 0)))⟩]) (.cond (.tmp 18) (.seq (.region [⟨some 19, none, (.mov (.tmp 9))⟩, ⟨some 6, none, (.mov (.const (.bool false)))⟩, ⟨some 7, none, (.mov (.tmp 19))⟩]) .ret) .skip)) (.seq (.region [⟨some 20, none, (.mov (.tmp 8))⟩, ⟨some 21, none, (.mov (.tmp 8))⟩, ⟨some 22, none, (.mov (.tmp 2))⟩, ⟨some 23, none, (.idx 5 (.tmp 21) (.tmp 22))⟩, ⟨some 24, none, (.fld 1 (.tmp 23))⟩, ⟨some 25, none, (.load true 4 (.tmp 24))⟩, ⟨some 26, none, (.call (.func 28) [(.tmp 25)])⟩, ⟨some 27, none, (.call (.func 33) [(.tmp 20), (.tmp 26)])⟩, ⟨some 28, none, (.mov (.tmp 2))⟩, ⟨some 29, none, (.call (.func 31) [(.tmp 27), (.tmp 28)])⟩, ⟨some 6, none, (.mov (.tmp 29))⟩, ⟨some 7, none, (.mov (.const (.int .i64 0)))⟩]) .ret))))
set_option maxRecDepth 100000 in
theorem tab14 : tb.code 14 = some ⟨30, [(6, none), (7, none)], body14⟩ := by kernel_rfl
theorem Round_ok (h : AHeap) (vt vf : Value) (T : List LType) (F : List LFn) (f b : Int) (tt : Tbl h) (hm : h.mark ≤ h.n) (sm : Small T F) (st : SlT h vt T) (sf : SlF h vf F) :
    WC Tryd.prog tb 14 [.agg #[vt, vf], I f, I b] h fun r h' => r = .tuple #[.bool (RoundL T F f b).1, I (RoundL T F f b).2] ∧ Ext h h' := by
  refine WC.of (nostub 14) tab14 ?_; simp only [mkTm, Nat.zero_add, Nat.reduceAdd]
  refine go ?_
  refine WO.bx ?_
  intro p h1 e1 o1
  refine go ?_
  refine WO.con (fasked_ok h1 vt vf T F f b (tt.ext e1) (mark_ext e1 hm) sm (st.ext e1) (SlF.ext sf e1)) ?_
  rintro _ h2 ⟨⟨v, rfl, sb⟩, e2⟩
  have e12 := e1.trans e2
  refine go ?_
  refine WX.br (fun hb => ?_) (fun hb => ?_) <;> simp only [DB] at hb <;> refine go ?_
  · refine rt ?_
    rw [show RoundL T F f b = (false, (blocksL T F f b).2) from by rw [RoundL, if_pos hb]]
    exact ⟨rfl, e12⟩
  have hb0 : (blocksL T F f b).2 = 0 := by omega
  have hin := blocks_in hb0
  obtain ⟨hlen, hnx⟩ := blocks_nx hb0
  obtain ⟨i, rfl⟩ : ∃ i : Nat, b = i := ⟨b.toNat, by omega⟩
  obtain ⟨csB, ⟨vi, rfl, si, hli⟩, pcB, hsB⟩ := slr_at (i := i) sb (by omega)
  refine go ?_
  refine WO.con (next_ok h2 _) ?_
  rintro r h3 ⟨s3, f3, e3⟩
  have hnn : nextL ((blocksL T F f (i : Int)).1.getD i default).fin = nxL (blocksL T F f (i : Int)).1 (i : Int) := by unfold nxL; rw [Int.toNat_natCast]
  rw [hnn] at s3
  have hnl : (nxL (blocksL T F f (i : Int)).1 (i : Int)).length ≤ 2 := by unfold nxL; exact next_len _
  have e13 := e12.trans e3
  refine go ?_
  refine WO.con (from_ok h3 (mark_ext e13 hm) _ v r _ (SlB.ext sb e3) (by omega) hnx s3 (by omega) (hnx _ ⟨by omega, by omega⟩)) ?_
  rintro q h4 ⟨o4q, e4⟩
  have s4 := o4q.sl
  refine go ?_
  have hbd : ((dfsL (nxL (blocksL T F f (i : Int)).1) (blocksL T F f (i : Int)).1.length (nxL (blocksL T F f (i : Int)).1 (i : Int)) ([], [])).2.length : Int) ≤ 1000 := by
    have : ∀ (m : List Int) (s : DS), (∀ c ∈ m, 0 ≤ c ∧ c < ((blocksL T F f (i : Int)).1.length : Int)) → (dfsL (nxL (blocksL T F f (i : Int)).1) (blocksL T F f (i : Int)).1.length m s).2.length + unb (blocksL T F f (i : Int)).1.length (dfsL (nxL (blocksL T F f (i : Int)).1) (blocksL T F f (i : Int)).1.length m s).1 ≤ s.2.length + unb (blocksL T F f (i : Int)).1.length s.1 := by
      intro m
      induction m with
      | nil => intro s _; exact Nat.le_refl _
      | cons x m ih => intro s hm; exact Nat.le_trans (ih _ fun c hc => hm c (by simp [hc])) (dfs_bound hnx _ x s (hm x (by simp)))
    have h1 := this (nxL (blocksL T F f (i : Int)).1 (i : Int)) ([], []) (hnx _ ⟨by omega, by omega⟩)
    have h2 := unb_le (blocksL T F f (i : Int)).1.length []
    simp only [List.length_nil] at h1
    omega
  refine WO.con (contains_ok h4 q _ (i : Int) s4 (by omega)) ?_
  rintro _ _ ⟨rfl, rfl⟩
  refine go ?_
  refine rt ?_
  rw [show RoundL T F f (i : Int) = (decide ((i : Int) ∈ (dfsL (nxL (blocksL T F f (i : Int)).1) (blocksL T F f (i : Int)).1.length (nxL (blocksL T F f (i : Int)).1 (i : Int)) ([], [])).2), 0) from by rw [RoundL, if_neg (by omega)]]
  exact ⟨rfl, e13.trans e4⟩
end Go.Proofs.YtbhdfhiecgebnaaDoor
