/- Can a block be come to from another one? what the statement's own search comes to in the abstract machine. -/
import Derived.Test.YtbhdfhiecgebnaaDoorFlowRound
namespace Go.Proofs.YtbhdfhiecgebnaaDoor
open Go.Am
set_option linter.unusedVariables false
set_option linter.unusedSimpArgs false
set_option maxHeartbeats 4000000

/-- A list with some more, each once. -/
def addL (s l : List Int) : List Int := l.foldl (fun s x => if x ∈ s then s else s ++ [x]) s
/-- Blocks that are come to: the i-th gone through next, so often at most. -/
def comesL (nx : Int → List Int) : Nat → Nat → List Int → List Int
  | 0, _, s => s
  | n + 1, i, s => if i < s.length then comesL nx n (i + 1) (addL s (nx (s.getD i 0))) else s
theorem addL_len (s l : List Int) : (addL s l).length ≤ s.length + l.length := by
  unfold addL
  induction l generalizing s with
  | nil => simp
  | cons x l ih =>
    simp only [List.foldl_cons]
    have := ih (if x ∈ s then s else s ++ [x])
    split at this <;> rename_i h
    · rw [if_pos h]; simp only [List.length_cons]; omega
    · rw [if_neg h]; simp only [List.length_append, List.length_cons, List.length_nil] at this ⊢; omega
theorem addL_ne {s l : List Int} (h : s ≠ []) : addL s l ≠ [] := by
  unfold addL
  induction l generalizing s with
  | nil => exact h
  | cons x l ih =>
    simp only [List.foldl_cons]
    apply ih
    split
    · exact h
    · simp
/-- A list of numbers, that lies apart from one of ours. -/
def Off2 (h : AHeap) (v nlv : Value) (l : List Int) : Prop := l = [] ∨ ∃ g off, nlv = .slice (some ⟨g, off, none⟩) l.length 1 ∧ g < h.n ∧ ∀ a n c, v = .slice (some a) n c → a.block ≠ g
theorem off2_upd {h h' : AHeap} {v nlv : Value} {l : List Int} {k c : Nat} (u : Upd v h h') (s : SlI h nlv l) (o : Off2 h v nlv l) : SlI h' nlv l ∧ Off2 h' (.slice (some ⟨h.n, 0, none⟩) k c) nlv l := by
  rcases o with rfl | ⟨g, off, rfl, hg, nw⟩
  · exact ⟨sl_empty s, .inl rfl⟩
  · have e1 := u.2 g hg nw
    refine ⟨⟨s.1, ?_⟩, .inr ⟨g, off, rfl, Nat.lt_of_lt_of_le hg u.1, fun a n c e => by cases e; simp only; omega⟩⟩
    rcases s.2 with ⟨h0, hv⟩ | ⟨g', off', row, hv, hr, hc, hl⟩
    · exact .inl ⟨h0, hv⟩
    · cases hv
      exact .inr ⟨g, off, row, rfl, by unfold rowOf at *; rw [e1]; exact hr, hc, Nat.lt_of_lt_of_le hg u.1⟩
theorem off2_ext {h h' : AHeap} {v nlv : Value} {l : List Int} (e : Ext h h') (o : Off2 h v nlv l) : Off2 h' v nlv l := o.imp id fun ⟨g, off, a, b, c⟩ => ⟨g, off, a, Nat.lt_of_lt_of_le b e.n, c⟩
theorem off2_fresh {hB h h2 : AHeap} {v nlv : Value} {s l : List Int} (o : OwnI hB h v s) (f : Fresh h nlv) (sl : SlI h2 nlv l) : Off2 h2 v nlv l := by
  rcases sl.2 with ⟨h0, hv⟩ | ⟨g, off, row, hv, hr, hc, hl⟩
  · exact .inl (List.length_eq_zero_iff.1 h0)
  · refine .inr ⟨g, off, hv, hl, fun a n c e he => ?_⟩
    have hg : h.n ≤ g := f _ _ _ hv
    obtain ⟨g3, _, a3, rfl, _⟩ := o
    cases e; simp only at he; omega
section
variable {t : Trie Value}
theorem opeC {x : Operand} {v : Value} (hx : Ope t x v := by first | with_reducible exact Ope.const | ((with_reducible apply Ope.tmp); (repeat (first | ((with_reducible apply Slot.there); rfl) | ((with_reducible apply Slot.same); (with_reducible assumption); rfl))); first | with_reducible exact Slot.here | with_reducible assumption | (unfold Slot; with_reducible assumption)) | with_reducible exact Ope.fn | with_reducible exact Ope.glob | fail) : ev t x = v := hx
end

theorem Next_len (T : List LType) (F : List LFn) (f b : Int) : (NextL T F f b).1.length ≤ 2 := by
  unfold NextL
  split
  · simp
  · exact next_len _

noncomputable def body19_0 : ACode := (.seq (.seq (.region [⟨some 36, none, (.mov (.tmp 13))⟩, ⟨some 37, none, (.mov (.tmp 11))⟩, ⟨some 38, none, (.len (.tmp 37))⟩, ⟨some 39, none, (.bin .lss (.tmp 36) (.tmp 38))⟩]) (.cond (.tmp 39) .skip (.exit 2))) (.seq (.block 3 (.seq (.region [⟨some 42, none, (.mov (.tmp 9))⟩, ⟨some 43, none, (.mov (.tmp 11))⟩, ⟨some 44, none, (.mov (.tmp 13))⟩, ⟨some 45, none, (.idx 1 (.tmp 43) (.tmp 44))⟩, ⟨some 46, none, (.load false 1 (.tmp 45))⟩, ⟨some 47, none, (.call (.func 23) [(.tmp 42), (.tmp 46)])⟩, ⟨some 48, none, (.un .not (.tmp 47))⟩]) (.cond (.tmp 48) (.region [⟨some 49, none, (.mov (.tmp 9))⟩, ⟨some 50, none, (.mov (.tmp 11))⟩, ⟨some 51, none, (.mov (.tmp 13))⟩, ⟨some 52, none, (.idx 1 (.tmp 50) (.tmp 51))⟩, ⟨some 53, none, (.load false 1 (.tmp 52))⟩, ⟨some 54, none, (.buildSlice 1 1 [(.int .i64 0)] [(0, 1, (.tmp 53))])⟩, ⟨some 55, none, (.append 1 (.tmp 49) (.tmp 54))⟩, ⟨some 9, none, (.mov (.tmp 55))⟩]) .skip))) (.region [⟨some 40, none, (.mov (.tmp 13))⟩, ⟨some 41, none, (.bin .add (.tmp 40) (.const (.int .i64 1)))⟩, ⟨some 13, none, (.mov (.tmp 41))⟩])))
noncomputable def body19_1 : ACode := (.seq (.seq (.region [⟨some 16, none, (.mov (.tmp 10))⟩, ⟨some 17, none, (.mov (.tmp 9))⟩, ⟨some 18, none, (.len (.tmp 17))⟩, ⟨some 19, none, (.bin .lss (.tmp 16) (.tmp 18))⟩, ⟨some 20, none, (.mov (.tmp 19))⟩, ⟨some 21, some (20, true), (.mov (.tmp 10))⟩, ⟨some 22, some (20, true), (.bin .lss (.tmp 21) (.const (.int .i64 20)))⟩, ⟨some 23, none, (.pick (.tmp 20) (.tmp 22) (.const (.bool false)))⟩]) (.cond (.tmp 23) .skip (.exit 0))) (.seq (.block 1 (.seq (.regionC [(⟨some 27, none, (.load true 2 (.tmp 4))⟩, []), (⟨some 28, none, (.mov (.tmp 1))⟩, []), (⟨some 29, none, (.mov (.tmp 9))⟩, []), (⟨some 30, none, (.mov (.tmp 10))⟩, []), (⟨some 31, none, (.idx 1 (.tmp 29) (.tmp 30))⟩, []), (⟨some 32, none, (.load false 1 (.tmp 31))⟩, []), (⟨some 33, none, (.call (.func 10) [(.tmp 27), (.tmp 28), (.tmp 32)])⟩, []), (⟨some 26, none, (.mov (.tmp 33))⟩, []), (⟨some 34, none, (.extract (.tmp 26) 0)⟩, []), (⟨some 35, none, (.extract (.tmp 26) 1)⟩, []), (⟨some 11, none, (.mov (.tmp 34))⟩, []), (⟨some 12, none, (.mov (.tmp 35))⟩, [])]) (.seq (.region [⟨some 13, none, (.mov (.const (.int .i64 0)))⟩]) (.block 2 (.loop body19_0))))) (.region [⟨some 24, none, (.mov (.tmp 10))⟩, ⟨some 25, none, (.bin .add (.tmp 24) (.const (.int .i64 1)))⟩, ⟨some 10, none, (.mov (.tmp 25))⟩])))
noncomputable def body19 : ACode := (.seq (.region [⟨some 4, none, (.box (.tmp 0))⟩, ⟨some 8, none, (.mov (.const (.bool false)))⟩]) (.seq (.region [⟨some 14, none, (.mov (.tmp 2))⟩, ⟨some 15, none, (.buildSlice 1 1 [(.int .i64 0)] [(0, 1, (.tmp 14))])⟩, ⟨some 9, none, (.mov (.tmp 15))⟩]) (.seq (.seq (.region [⟨some 10, none, (.mov (.const (.int .i64 0)))⟩]) (.block 0 (.loop body19_1))) (.seq (.region [⟨some 56, none, (.mov (.tmp 9))⟩, ⟨some 57, none, (.mov (.tmp 3))⟩, ⟨some 58, none, (.call (.func 23) [(.tmp 56), (.tmp 57)])⟩, ⟨some 8, none, (.mov (.tmp 58))⟩]) .ret))))
set_option maxRecDepth 100000 in
theorem tab19 : tb.code 19 = some ⟨59, [(8, none)], body19⟩ := by kernel_rfl
theorem comes_ok (h : AHeap) (vt vf : Value) (T : List LType) (F : List LFn) (f a b : Int) (tt : Tbl h) (hm : h.mark ≤ h.n) (sm : Small T F) (st : SlT h vt T) (sf : SlF h vf F) :
    WC Tryd.prog tb 19 [.agg #[vt, vf], I f, I a, I b] h fun r h' => r = .bool (decide (b ∈ comesL (fun c => (NextL T F f c).1) 20 0 [a])) ∧ Ext h h' := by
  refine WC.of (nostub 19) tab19 ?_; simp only [mkTm, Nat.zero_add, Nat.reduceAdd]
  refine go ?_
  refine WO.bx ?_
  intro p hB e1 o1
  have ttB := tt.ext e1
  have hmB := mark_ext e1 hm
  have stB := st.ext e1
  have sfB := SlF.ext sf e1
  refine go ?_
  refine WO.bl [a] ?_
  intro v0 h0 e0 ow0
  refine go ?_
  refine WX.loopA [16, 17, 18, 19, 20, 21, 22, 23, 27, 28, 29, 30, 31, 32, 33, 26, 34, 35, 11, 12, 13, 36, 37, 38, 39, 42, 43, 44, 45, 46, 47, 48, 49, 50, 51, 52, 53, 54, 55, 9, 40, 41, 13, 24, 25, 10] (by kernel_rfl) (fun i => 20 - i) (fun i t h1 => tmGet t 10 = I i ∧ i ≤ 20 ∧ Ext hB h1 ∧ ∃ v s, tmGet t 9 = v ∧ OwnI hB h1 v s ∧ s.length ≤ 1 + 2 * i ∧ comesL (fun c => (NextL T F f c).1) (20 - i) i s = comesL (fun c => (NextL T F f c).1) 20 0 [a]) 0 ?_ ?_
  · exact ⟨sl_, Nat.zero_le _, e0, v0, [a], sl_, ow0, by simp, rfl⟩
  rintro i t h1 hsame ⟨s10, hi, eB1, v, s, s9, ow, hsl, hcm⟩
  have sl := ow.sl
  have o11 := o1.ext eB1
  refine go ?_
  have fin : comesL (fun c => (NextL T F f c).1) (20 - i) i s = s → ∀ {t' : Trie Value}, tmGet t' 9 = v → True := fun _ _ _ => trivial
  refine WO.sp (fun hc => ?_) (fun hc => ?_) <;> simp only [DB] at hc <;> refine go ?_
  · refine WX.br (fun hd => ?_) (fun hd => ?_) <;> simp only [DB] at hd
    · have hi20 : i < 20 := by omega
      have his : i < s.length := by omega
      have hstep : comesL (fun c => (NextL T F f c).1) (20 - i) i s = comesL (fun c => (NextL T F f c).1) (20 - (i + 1)) (i + 1) (addL s (NextL T F f (s.getD i 0)).1) := by
        rw [show 20 - i = (20 - (i + 1)) + 1 by omega, comesL, if_pos his]
      refine goC ?_
      refine WX.regionU2 0 rfl rfl ?_
      have o1r : OwnC h (inC (asideN 0 h1)) p [vt, vf] := o11
      have slr : SlI (inC (asideN 0 h1)) v s := sl
      refine goU ?_
      have ttr : Tbl (inC (asideN 0 h1)) := by have := ttB.ext eB1; exact this
      have str : SlT (inC (asideN 0 h1)) vt T := by have := stB.ext eB1; exact this
      have sfr : SlF (inC (asideN 0 h1)) vf F := by have := SlF.ext sfB eB1; exact this
      refine WO.con (Next_ok (inC (asideN 0 h1)) vt vf T F f (s.getD i 0) ttr (Nat.le_refl _) sm str sfr) ?_
      rintro _ h2 ⟨⟨nlv, rfl, snl, fnl⟩, e2⟩
      refine WO.nil ?_
      refine uK2_e e2 rfl ?_
      refine goU ?_
      have e2' : Ext (inC h1) h2 := e2
      have e3 : Ext h1 (outC h1 (inC h2)) := by have e3x : Ext h1 (outC h1 h2) := Ext.outC e2'; exact e3x
      have sn3 : SlI (outC h1 (inC h2)) nlv (NextL T F f (s.getD i 0)).1 := snl
      obtain ⟨h3, hh3⟩ : ∃ h3, h3 = outC h1 (inC h2) := ⟨_, rfl⟩
      rw [← hh3] at e3 sn3
      rw [← hh3]
      have fn1 : Fresh h1 nlv := fnl
      have of3 : Off2 h3 v nlv (NextL T F f (s.getD i 0)).1 := off2_fresh ow fn1 sn3
      have ow3 := ow.ext e3
      have eB3 := eB1.trans e3
      have hnl := Next_len T F f (s.getD i 0)
      clear o1r slr ttr str sfr snl fnl e2
      generalize (NextL T F f (s.getD i 0)).1 = nl at *
      refine WX.loopA [36, 37, 38, 39, 42, 43, 44, 45, 46, 47, 48, 49, 50, 51, 52, 53, 54, 55, 9, 40, 41, 13] (by kernel_rfl) (fun k => nl.length - k) (fun k t h4 => tmGet t 13 = I k ∧ k ≤ nl.length ∧ Ext hB h4 ∧ ∃ v', tmGet t 9 = v' ∧ OwnI hB h4 v' (addL s (nl.take k)) ∧ SlI h4 nlv nl ∧ Off2 h4 v' nlv nl) 0 ?_ ?_
      · exact ⟨sl_, Nat.zero_le _, eB3, v, sl_, ow3, sn3, of3⟩
      rintro k t2 h4 hsame2 ⟨s13, hk, eB4, v4, s9b, ow4, sn4, of4⟩
      have hlen4 := addL_len s (nl.take k)
      have htk : (nl.take k).length ≤ 2 := by rw [List.length_take]; omega
      have sl4 := ow4.sl
      refine go ?_
      refine WX.br (fun he => ?_) (fun he => ?_) <;> simp only [DB] at he
      · have hk' : k < nl.length := by omega
        refine go ?_
        refine WO.con (among_ok h4 v4 _ (nl.getD k 0) sl4 (by omega)) ?_
        rintro _ _ ⟨rfl, rfl⟩
        have hadd : addL s (nl.take (k + 1)) = if nl.getD k 0 ∈ addL s (nl.take k) then addL s (nl.take k) else addL s (nl.take k) ++ [nl.getD k 0] := by
          unfold addL
          rw [List.take_add_one, List.foldl_append]; simp [List.getD, List.getElem?_eq_getElem hk']
        refine go ?_
        refine WX.br (fun hg => ?_) (fun hg => ?_) <;> simp only [DB] at hg <;> refine go ?_
        · refine WO.bl [nl.getD k 0] ?_
          intro v5 h5 e5 ow5
          refine go ?_
          refine WO.appendF (v := v4) (w := v5) (by exact opeC) (by exact opeC) (.inr (ow4.ext e5)) ow5.sl (eB4.trans e5) (by simp) (by simp only [List.length_singleton]; omega) ?_
          intro h6 e6 ow6 u6
          obtain ⟨sn6, of6⟩ := off2_upd (k := (addL s (nl.take k) ++ [nl.getD k 0]).length) (c := 1) u6 (sn4.ext e5) (off2_ext e5 of4)
          refine go ?_
          rw [if_neg hg] at hadd
          exact loopK_normal (k + 1) (by omega) ⟨sln, by omega, e6, _, sl_, by rw [hadd]; exact ow6, sn6, of6⟩
        · rw [if_pos hg] at hadd
          exact loopK_normal (k + 1) (by omega) ⟨sln, by omega, eB4, v4, sl_, by rw [hadd]; exact ow4, sn4, of4⟩
      · have hkk : k = nl.length := by omega
        subst hkk
        rw [List.take_length] at ow4 hlen4
        refine go ?_
        exact loopK_normal (i + 1) (by omega) ⟨sln, by omega, eB4, v4, _, sl_, ow4, by omega, by rw [← hcm, hstep]⟩
    · have hi20 : i = 20 := by omega
      subst hi20
      refine go ?_
      refine WO.con (among_ok h1 v s b sl (by omega)) ?_
      rintro _ _ ⟨rfl, rfl⟩
      refine go ?_
      refine rt ?_
      refine ⟨?_, e1.trans eB1⟩
      rw [← hcm, show 20 - 20 = 0 from rfl, comesL]; rfl
  · refine WO.con (among_ok h1 v s b sl (by omega)) ?_
    rintro _ _ ⟨rfl, rfl⟩
    refine go ?_
    refine rt ?_
    refine ⟨?_, e1.trans eB1⟩
    have : comesL (fun c => (NextL T F f c).1) (20 - i) i s = s := by
      cases hq : 20 - i with
      | zero => rfl
      | succ q => rw [comesL, if_neg (by omega)]
    rw [← hcm, this]; rfl
end Go.Proofs.YtbhdfhiecgebnaaDoor
