/- Going through one block: what it comes to in the abstract machine. -/
import Derived.Test.YtbhdfhiecgebnaaDoorFlowDfs
namespace Go.Proofs.YtbhdfhiecgebnaaDoor
open Go.Am
set_option linter.unusedVariables false
set_option linter.unusedSimpArgs false
set_option maxHeartbeats 4000000

section
variable {t : Trie Value}
theorem opeL {x : Operand} {v : Value} (hx : Ope t x v := by first | with_reducible exact Ope.const | ((with_reducible apply Ope.tmp); (repeat (first | ((with_reducible apply Slot.there); rfl) | ((with_reducible apply Slot.same); (with_reducible assumption); rfl))); first | with_reducible exact Slot.here | with_reducible assumption | (unfold Slot; with_reducible assumption)) | with_reducible exact Ope.fn | with_reducible exact Ope.glob | fail) : ev t x = v := hx
end
theorem next_len (x : LEnd) : (nextL x).length ≤ 2 := by
  unfold nextL
  split
  · simp
  · split
    · split <;> simp
    · simp
theorem own_ptr {h0 h : AHeap} {p : Value} {cs : List Value} (o : OwnC h0 h p cs) : ∃ g, p = .pointer (some ⟨g, 0, none⟩) := let ⟨g, _, _, e, _⟩ := o; ⟨g, e⟩
theorem keep_updM {hB h h' : AHeap} {p vl vm vd : Value} (u : UpdM vm h h') : Keep h h' p vm vd vd := ⟨u.1, fun g hg n => ⟨u.2 g hg n.2.1, n⟩⟩
theorem keep_upd {h h' : AHeap} {p vm vd : Value} {q : Nat} {k c : Nat} (u : Upd vd h h') (hq : q = h.n) : Keep h h' p vm vd (.slice (some ⟨q, 0, none⟩) k c) :=
  ⟨u.1, fun g hg n => ⟨u.2 g hg n.2.2, n.1, n.2.1, fun a k c e => by cases e; simp only; omega⟩⟩
theorem keep_updC {h h' : AHeap} {p vm vd : Value} (u : UpdC p h h') : Keep h h' p vm vd vd := ⟨u.1, fun g hg n => ⟨u.2 g hg n.1, n⟩⟩

noncomputable def body46 : ACode := (.seq (.seq (.region [⟨some 7, none, (.mov (.tmp 0))⟩, ⟨some 8, none, (.nilCheck (.tmp 7))⟩, ⟨some 9, none, (.fld 1 (.tmp 8))⟩, ⟨some 10, none, (.load false 1 (.tmp 9))⟩, ⟨some 11, none, (.mov (.tmp 1))⟩, ⟨some 12, none, (.lookup true (.int .i64 0) (.tmp 10) (.tmp 11))⟩, ⟨some 6, none, (.mov (.tmp 12))⟩, ⟨some 13, none, (.extract (.tmp 6) 0)⟩, ⟨some 14, none, (.extract (.tmp 6) 1)⟩, ⟨some 4, none, (.mov (.tmp 13))⟩, ⟨some 5, none, (.mov (.tmp 14))⟩]) (.seq (.region [⟨some 15, none, (.mov (.tmp 5))⟩]) (.cond (.tmp 15) .ret .skip))) (.seq (.regionC [(⟨some 16, none, (.mov (.tmp 0))⟩, []), (⟨some 17, none, (.nilCheck (.tmp 16))⟩, []), (⟨some 18, none, (.fld 1 (.tmp 17))⟩, []), (⟨some 19, none, (.load false 1 (.tmp 18))⟩, []), (⟨some 20, none, (.mov (.tmp 1))⟩, []), (⟨some 21, none, (.mov (.tmp 0))⟩, []), (⟨some 22, none, (.nilCheck (.tmp 21))⟩, []), (⟨some 23, none, (.fld 1 (.tmp 22))⟩, []), (⟨some 24, none, (.load false 1 (.tmp 23))⟩, []), (⟨some 25, none, (.lenMap (.tmp 24))⟩, []), (⟨none, none, (.update (.tmp 19) (.tmp 20) (.tmp 25))⟩, [])]) (.seq (.region [⟨some 26, none, (.mov (.tmp 0))⟩, ⟨some 27, none, (.mov (.tmp 0))⟩, ⟨some 28, none, (.nilCheck (.tmp 27))⟩, ⟨some 29, none, (.fld 0 (.tmp 28))⟩, ⟨some 30, none, (.load false 1 (.tmp 29))⟩, ⟨some 31, none, (.mov (.tmp 1))⟩, ⟨some 32, none, (.idx 5 (.tmp 30) (.tmp 31))⟩, ⟨some 33, none, (.fld 1 (.tmp 32))⟩, ⟨some 34, none, (.load true 4 (.tmp 33))⟩, ⟨some 35, none, (.call (.func 28) [(.tmp 34)])⟩, ⟨some 36, none, (.call (.func 45) [(.tmp 26), (.tmp 35), (.func 46)])⟩]) (.region [⟨some 37, none, (.mov (.tmp 0))⟩, ⟨some 38, none, (.mov (.tmp 0))⟩, ⟨some 39, none, (.nilCheck (.tmp 38))⟩, ⟨some 40, none, (.fld 2 (.tmp 39))⟩, ⟨some 41, none, (.load false 1 (.tmp 40))⟩, ⟨some 42, none, (.mov (.tmp 1))⟩, ⟨some 43, none, (.buildSlice 1 1 [(.int .i64 0)] [(0, 1, (.tmp 42))])⟩, ⟨some 44, none, (.append 1 (.tmp 41) (.tmp 43))⟩, ⟨some 45, none, (.nilCheck (.tmp 37))⟩, ⟨some 46, none, (.fld 2 (.tmp 45))⟩, ⟨none, none, (.store 1 (.tmp 46) (.tmp 44))⟩]))))
set_option maxRecDepth 100000 in
theorem tab46 : tb.code 46 = some ⟨47, [], body46⟩ := by kernel_rfl
theorem block_ok (hB : AHeap) (hmB : hB.mark ≤ hB.n) (L : List LBlk) (vl : Value) (bl : SlB hB vl L) (hL : L.length ≤ 1000) (hin : ∀ b, 0 ≤ b ∧ b < (L.length : Int) → ∀ c ∈ nxL L b, 0 ≤ c ∧ c < (L.length : Int)) : ∀ (n : Nat) (h : AHeap) (p vm vd : Value) (s : DS) (b : Int), WS hB h p vl vm vd s → 0 ≤ b ∧ b < (L.length : Int) → unb L.length s.1 ≤ n → s.2.length + unb L.length s.1 ≤ L.length →
      WC Tryd.prog tb 46 [p, I b] h fun r h' => ∃ vd', WS hB h' p vl vm vd' (dfsB (nxL L) n b s) ∧ Keep h h' p vm vd vd' := by
  obtain ⟨la, ln, lk, hvl⟩ := slr_shape bl
  subst hvl
  intro n
  induction n with
  | zero =>
    intro h p vm vd s b w hb hu hd
    obtain ⟨v, hv⟩ := Option.isSome_iff_exists.1 (unb_zero (Nat.le_zero.1 hu) hb)
    obtain ⟨gp, rfl⟩ := own_ptr w.own
    have wo := w.own
    have wm := w.map
    refine WC.of (nostub 46) tab46 ?_; simp only [mkTm, Nat.zero_add, Nat.reduceAdd]
    refine go ?_
    refine rt ?_
    exact ⟨vd, w, Keep.refl ..⟩
  | succ n IH =>
    intro h p vm vd s b w hb hu hd
    obtain ⟨gp, rfl⟩ := own_ptr w.own
    have wo := w.own
    have wm := w.map
    refine WC.of (nostub 46) tab46 ?_; simp only [mkTm, Nat.zero_add, Nat.reduceAdd]
    cases hv : s.1.lookup b with
    | some v =>
      refine go ?_
      refine rt ?_
      exact ⟨vd, by rw [dfsB_some (by rw [hv]; rfl)]; exact w, Keep.refl ..⟩
    | none =>
      have hlt := unb_lt (v := (s.1.length : Int)) hv hb
      refine go ?_
      refine WX.regionU2 0 rfl rfl ?_
      have o1 : OwnC hB (inC (asideN 0 h)) (.pointer (some ⟨gp, 0, none⟩)) [.slice la ln lk, vm, vd] := wo
      have m1 : OwnM hB (inC (asideN 0 h)) vm s.1 := wm
      refine goU ?_
      have hmk : h.mark ≤ hB.n := by rw [w.ext.mark]; exact hmB
      refine WU2.upd wm w.ext hmk hv ?_
      intro h1 e1 wm1 u1
      have wo1 := OwnC.updM wo wm u1
      have wd1 := w.dn.updM wm u1
      have k1 : Keep h h1 (.pointer (some ⟨gp, 0, none⟩)) vm vd vd := keep_updM (hB := hB) (vl := vm) u1
      clear o1 m1 wo wm
      obtain ⟨i, rfl⟩ : ∃ i : Nat, b = i := ⟨b.toNat, by omega⟩
      have bl1 := SlB.ext bl e1
      obtain ⟨csB, ⟨vi, rfl, si, hli⟩, pcB, hsB⟩ := slr_at (i := i) bl1 (by omega)
      refine go ?_
      refine WO.con (next_ok h1 _) ?_
      rintro r h2 ⟨s2, f2, e2⟩
      have wo2 := wo1.ext e2
      have wm2 := wm1.ext e2
      have wd2 := wd1.ext e2
      have e02 := e1.trans e2
      have w1 : WS hB h1 (.pointer (some ⟨gp, 0, none⟩)) (.slice la ln lk) vm vd (s.1 ++ [((i : Int), (s.1.length : Int))], s.2) := ⟨wo1, wm1, wd1, e1⟩
      have w2 : WS hB h2 (.pointer (some ⟨gp, 0, none⟩)) (.slice la ln lk) vm vd (s.1 ++ [((i : Int), (s.1.length : Int))], s.2) := ⟨wo2, wm2, wd2, e02⟩
      have hnx : nextL (L.getD i default).fin = nxL L (i : Int) := by unfold nxL; rw [Int.toNat_natCast]
      rw [hnx] at s2
      have hnl : (nxL L (i : Int)).length ≤ 2 := by unfold nxL; exact next_len _
      refine go ?_
      refine WO.con (each_ok hB L (.slice la ln lk) hin n IH h2 (.pointer (some ⟨gp, 0, none⟩)) vm vd r _ (nxL L (i : Int)) w2 s2 (by omega) (off_fresh w1 f2 s2) (hin _ hb) (by simp only; omega) (by simp only at hd ⊢; omega)) ?_
      rintro _ h3 ⟨vd3, w3, k3⟩
      have wo3 := w3.own
      refine go ?_
      refine WO.bl [(i : Int)] ?_
      intro v4 h4 e4 o4
      have wd4 := w3.dn.ext e4
      have e34 := w3.ext.trans e4
      refine go ?_
      have hbd : (dfsL (nxL L) n (nxL L (i : Int)) (s.1 ++ [((i : Int), (s.1.length : Int))], s.2)).2.length ≤ 1000 := by
        have : ∀ (m : List Int) (s : DS), (∀ c ∈ m, 0 ≤ c ∧ c < (L.length : Int)) → (dfsL (nxL L) n m s).2.length + unb L.length (dfsL (nxL L) n m s).1 ≤ s.2.length + unb L.length s.1 := by
          intro m
          induction m with
          | nil => intro s _; exact Nat.le_refl _
          | cons x m ih => intro s hm; exact Nat.le_trans (ih _ fun c hc => hm c (by simp [hc])) (dfs_bound hin n x s (hm x (by simp)))
        have := this (nxL L (i : Int)) (s.1 ++ [((i : Int), (s.1.length : Int))], s.2) (hin _ hb)
        simp only at this; omega
      refine WO.appendF (v := vd3) (w := v4) (by exact opeL) (by exact opeL) wd4 o4.sl e34 (by simp) (by simp only [List.length_singleton]; omega) ?_
      intro h5 e5 o5 u5
      have wo5 := OwnC.upd (wo3.ext e4) wd4 u5
      have wm5 := (w3.map.ext e4).upd wd4 u5
      refine go ?_
      refine WO.stC wo5 e5 ?_ (hl := Nat.le_refl 3)
      intro h6 e6 wo6 u6
      refine go ?_
      refine rtN ?_
      have hdf : dfsB (nxL L) (n + 1) (i : Int) s = ((dfsL (nxL L) n (nxL L (i : Int)) (s.1 ++ [((i : Int), (s.1.length : Int))], s.2)).1, (dfsL (nxL L) n (nxL L (i : Int)) (s.1 ++ [((i : Int), (s.1.length : Int))], s.2)).2 ++ [(i : Int)]) := by
        conv => lhs; unfold dfsB
        rw [if_neg (by rw [hv]; exact Bool.noConfusion)]; rfl
      rw [hdf]
      refine ⟨_, ⟨wo6, OwnM.updC wm5 wo5 u6, .inr (OwnI.updC o5 wo5 u6), e6⟩, ?_⟩
      exact (((k1.trans (Keep.ext e2 ..)).trans k3).trans (Keep.ext e4 ..)).trans ((keep_upd u5 rfl).trans (keep_updC u6))
end Go.Proofs.YtbhdfhiecgebnaaDoor
