/- Slices of instructions, blocks and functions: whether one of them is such a one. -/
import Derived.Test.YtbhdfhiecgebnaaDoorShapeWalk2
namespace Go.Proofs.YtbhdfhiecgebnaaDoor
open Go.Am
set_option linter.unusedVariables false
set_option linter.unusedSimpArgs false
set_option maxHeartbeats 4000000

theorem getD_memR {α : Type} [Inhabited α] {l : List α} {i : Nat} (h : i < l.length) : l.getD i default ∈ l := by
  simp [List.getD, List.getElem?_eq_getElem h]
theorem mem_getDR {α : Type} [Inhabited α] {l : List α} {x : α} (h : x ∈ l) : ∃ i, i < l.length ∧ l.getD i default = x := by
  obtain ⟨i, hi, e⟩ := List.getElem_of_mem h
  exact ⟨i, hi, by simp [List.getD, List.getElem?_eq_getElem hi, e]⟩

noncomputable def body111_0 : ACode := (.seq (.region [⟨some 9, none, (.bin .lss (.tmp 8) (.tmp 7))⟩]) (.seq (.cond (.tmp 9) .skip (.exit 0)) (.seq (.block 1 (.seq (.region [⟨some 10, none, (.mov (.tmp 8))⟩, ⟨some 5, none, (.mov (.tmp 10))⟩]) (.seq (.region [⟨some 11, none, (.mov (.tmp 1))⟩, ⟨some 12, none, (.mov (.tmp 0))⟩, ⟨some 13, none, (.mov (.tmp 5))⟩, ⟨some 14, none, (.idx 7 (.tmp 12) (.tmp 13))⟩, ⟨some 15, none, (.load true 7 (.tmp 14))⟩, ⟨some 16, none, (.call (.tmp 11) [(.tmp 15)])⟩]) (.cond (.tmp 16) (.seq (.region [⟨some 17, none, (.mov (.tmp 5))⟩, ⟨some 4, none, (.mov (.tmp 17))⟩]) .ret) .skip)))) (.region [⟨some 18, none, (.bin .add (.tmp 8) (.const (.int .i64 1)))⟩, ⟨some 8, none, (.mov (.tmp 18))⟩]))))
noncomputable def body111 : ACode := (.seq (.region [⟨some 4, none, (.mov (.const (.int .i64 0)))⟩]) (.seq (.seq (.region [⟨some 6, none, (.mov (.tmp 0))⟩, ⟨some 7, none, (.len (.tmp 6))⟩, ⟨some 8, none, (.mov (.const (.int .i64 0)))⟩]) (.block 0 (.loop body111_0))) (.seq (.region [⟨some 4, none, (.mov (.const (.int .i64 (-1))))⟩]) .ret)))
set_option maxRecDepth 100000 in
theorem tab111 : tb.code 111 = some ⟨19, [(4, none)], body111⟩ := by kernel_rfl
theorem idxf_ins (h : AHeap) (v fv : Value) (l : List LIns) (p : LIns → Bool) (s : SlN h v l) (hl : (l.length : Int) ≤ 9223372036854775807) (hf : ∀ x ∈ l, ∀ h1, Ext h h1 → ∀ cs, RIns h1 cs x → WV Tryd.prog tb fv [.agg cs.toArray] h1 fun r h' => r = .bool (p x) ∧ Ext h1 h') :
    WC Tryd.prog tb 111 [v, fv] h fun r h' => (∃ n : Int, r = I n ∧ (decide (0 ≤ n)) = l.any p) ∧ Ext h h' := by
  refine WC.of (nostub 111) tab111 ?_; simp only [mkTm, Nat.zero_add, Nat.reduceAdd]
  refine go ?_
  refine WX.loopA [9, 10, 5, 11, 12, 13, 14, 15, 16, 17, 4, 18, 8] (by kernel_rfl) (fun i => l.length - i) (fun i t h1 => Ext h h1 ∧ tmGet t 8 = I i ∧ i ≤ l.length ∧ ∀ j, j < i → p (l.getD j default) = false) 0 ?_ ?_
  · exact ⟨Ext.refl h, sl_, Nat.zero_le _, fun j hj => absurd hj (Nat.not_lt_zero _)⟩
  rintro i t h1 hsame ⟨e1, s8, hi, hm⟩
  have s1 := SlN.ext s e1
  refine go ?_
  refine WX.br (fun hb => ?_) (fun hb => ?_) <;> simp only [DB] at hb
  · have hi' : i < l.length := by omega
    obtain ⟨cs, hcs, pc, hs⟩ := slr_at s1 hi'
    have hff := hf _ (getD_memR hi') h1 e1 cs hcs
    obtain ⟨va, vf, rfl, hR⟩ := hcs
    refine go ?_
    refine WO.conV hff ?_
    rintro _ h2 ⟨rfl, e2⟩
    refine go ?_
    refine WX.br (fun hb => ?_) (fun hb => ?_)
    · refine go ?_
      refine rt ?_
      refine ⟨⟨i, rfl, ?_⟩, e1.trans e2⟩
      rw [List.any_eq_true.2 ⟨_, getD_memR hi', hb⟩]; simp
    · refine go ?_
      refine loopK_normal (i + 1) (by omega) ⟨e1.trans e2, sln, by omega, fun j hj => ?_⟩
      by_cases e : j = i
      · subst e; exact hb
      · exact hm j (by omega)
  · refine go ?_
    refine rt ?_
    refine ⟨⟨-1, rfl, ?_⟩, e1⟩
    rw [any_false fun x hx => by obtain ⟨j, hj, rfl⟩ := mem_getDR hx; exact hm j (by omega)]; rfl

noncomputable def body94 : ACode := (.seq (.region [⟨some 4, none, (.mov (.const (.bool false)))⟩]) (.seq (.region [⟨some 5, none, (.mov (.tmp 0))⟩, ⟨some 6, none, (.mov (.tmp 1))⟩, ⟨some 7, none, (.call (.func 111) [(.tmp 5), (.tmp 6)])⟩, ⟨some 8, none, (.bin .geq (.tmp 7) (.const (.int .i64 0)))⟩, ⟨some 4, none, (.mov (.tmp 8))⟩]) .ret))
set_option maxRecDepth 100000 in
theorem tab94 : tb.code 94 = some ⟨9, [(4, none)], body94⟩ := by kernel_rfl
theorem conf_ins (h : AHeap) (v fv : Value) (l : List LIns) (p : LIns → Bool) (s : SlN h v l) (hl : (l.length : Int) ≤ 9223372036854775807) (hf : ∀ x ∈ l, ∀ h1, Ext h h1 → ∀ cs, RIns h1 cs x → WV Tryd.prog tb fv [.agg cs.toArray] h1 fun r h' => r = .bool (p x) ∧ Ext h1 h') :
    WC Tryd.prog tb 94 [v, fv] h fun r h' => r = .bool (l.any p) ∧ Ext h h' := by
  refine WC.of (nostub 94) tab94 ?_; simp only [mkTm, Nat.zero_add, Nat.reduceAdd]
  refine go ?_
  refine WO.con (idxf_ins h v fv l p s hl hf) ?_
  rintro _ h1 ⟨⟨n, rfl, e⟩, e1⟩
  refine go ?_
  refine rt ?_
  exact ⟨by rw [← e]; rfl, e1⟩

noncomputable def body110_0 : ACode := (.seq (.region [⟨some 9, none, (.bin .lss (.tmp 8) (.tmp 7))⟩]) (.seq (.cond (.tmp 9) .skip (.exit 0)) (.seq (.block 1 (.seq (.region [⟨some 10, none, (.mov (.tmp 8))⟩, ⟨some 5, none, (.mov (.tmp 10))⟩]) (.seq (.region [⟨some 11, none, (.mov (.tmp 1))⟩, ⟨some 12, none, (.mov (.tmp 0))⟩, ⟨some 13, none, (.mov (.tmp 5))⟩, ⟨some 14, none, (.idx 5 (.tmp 12) (.tmp 13))⟩, ⟨some 15, none, (.load true 5 (.tmp 14))⟩, ⟨some 16, none, (.call (.tmp 11) [(.tmp 15)])⟩]) (.cond (.tmp 16) (.seq (.region [⟨some 17, none, (.mov (.tmp 5))⟩, ⟨some 4, none, (.mov (.tmp 17))⟩]) .ret) .skip)))) (.region [⟨some 18, none, (.bin .add (.tmp 8) (.const (.int .i64 1)))⟩, ⟨some 8, none, (.mov (.tmp 18))⟩]))))
noncomputable def body110 : ACode := (.seq (.region [⟨some 4, none, (.mov (.const (.int .i64 0)))⟩]) (.seq (.seq (.region [⟨some 6, none, (.mov (.tmp 0))⟩, ⟨some 7, none, (.len (.tmp 6))⟩, ⟨some 8, none, (.mov (.const (.int .i64 0)))⟩]) (.block 0 (.loop body110_0))) (.seq (.region [⟨some 4, none, (.mov (.const (.int .i64 (-1))))⟩]) .ret)))
set_option maxRecDepth 100000 in
theorem tab110 : tb.code 110 = some ⟨19, [(4, none)], body110⟩ := by kernel_rfl
theorem idxf_blk (h : AHeap) (v fv : Value) (l : List LBlk) (p : LBlk → Bool) (s : SlB h v l) (hl : (l.length : Int) ≤ 9223372036854775807) (hf : ∀ x ∈ l, ∀ h1, Ext h h1 → ∀ cs, RBlk h1 cs x → WV Tryd.prog tb fv [.agg cs.toArray] h1 fun r h' => r = .bool (p x) ∧ Ext h1 h') :
    WC Tryd.prog tb 110 [v, fv] h fun r h' => (∃ n : Int, r = I n ∧ (decide (0 ≤ n)) = l.any p) ∧ Ext h h' := by
  refine WC.of (nostub 110) tab110 ?_; simp only [mkTm, Nat.zero_add, Nat.reduceAdd]
  refine go ?_
  refine WX.loopA [9, 10, 5, 11, 12, 13, 14, 15, 16, 17, 4, 18, 8] (by kernel_rfl) (fun i => l.length - i) (fun i t h1 => Ext h h1 ∧ tmGet t 8 = I i ∧ i ≤ l.length ∧ ∀ j, j < i → p (l.getD j default) = false) 0 ?_ ?_
  · exact ⟨Ext.refl h, sl_, Nat.zero_le _, fun j hj => absurd hj (Nat.not_lt_zero _)⟩
  rintro i t h1 hsame ⟨e1, s8, hi, hm⟩
  have s1 := SlB.ext s e1
  refine go ?_
  refine WX.br (fun hb => ?_) (fun hb => ?_) <;> simp only [DB] at hb
  · have hi' : i < l.length := by omega
    obtain ⟨cs, hcs, pc, hs⟩ := slr_at s1 hi'
    have hff := hf _ (getD_memR hi') h1 e1 cs hcs
    obtain ⟨va, rfl, hR⟩ := hcs
    refine go ?_
    refine WO.conV hff ?_
    rintro _ h2 ⟨rfl, e2⟩
    refine go ?_
    refine WX.br (fun hb => ?_) (fun hb => ?_)
    · refine go ?_
      refine rt ?_
      refine ⟨⟨i, rfl, ?_⟩, e1.trans e2⟩
      rw [List.any_eq_true.2 ⟨_, getD_memR hi', hb⟩]; simp
    · refine go ?_
      refine loopK_normal (i + 1) (by omega) ⟨e1.trans e2, sln, by omega, fun j hj => ?_⟩
      by_cases e : j = i
      · subst e; exact hb
      · exact hm j (by omega)
  · refine go ?_
    refine rt ?_
    refine ⟨⟨-1, rfl, ?_⟩, e1⟩
    rw [any_false fun x hx => by obtain ⟨j, hj, rfl⟩ := mem_getDR hx; exact hm j (by omega)]; rfl

noncomputable def body92 : ACode := (.seq (.region [⟨some 4, none, (.mov (.const (.bool false)))⟩]) (.seq (.region [⟨some 5, none, (.mov (.tmp 0))⟩, ⟨some 6, none, (.mov (.tmp 1))⟩, ⟨some 7, none, (.call (.func 110) [(.tmp 5), (.tmp 6)])⟩, ⟨some 8, none, (.bin .geq (.tmp 7) (.const (.int .i64 0)))⟩, ⟨some 4, none, (.mov (.tmp 8))⟩]) .ret))
set_option maxRecDepth 100000 in
theorem tab92 : tb.code 92 = some ⟨9, [(4, none)], body92⟩ := by kernel_rfl
theorem conf_blk (h : AHeap) (v fv : Value) (l : List LBlk) (p : LBlk → Bool) (s : SlB h v l) (hl : (l.length : Int) ≤ 9223372036854775807) (hf : ∀ x ∈ l, ∀ h1, Ext h h1 → ∀ cs, RBlk h1 cs x → WV Tryd.prog tb fv [.agg cs.toArray] h1 fun r h' => r = .bool (p x) ∧ Ext h1 h') :
    WC Tryd.prog tb 92 [v, fv] h fun r h' => r = .bool (l.any p) ∧ Ext h h' := by
  refine WC.of (nostub 92) tab92 ?_; simp only [mkTm, Nat.zero_add, Nat.reduceAdd]
  refine go ?_
  refine WO.con (idxf_blk h v fv l p s hl hf) ?_
  rintro _ h1 ⟨⟨n, rfl, e⟩, e1⟩
  refine go ?_
  refine rt ?_
  exact ⟨by rw [← e]; rfl, e1⟩

noncomputable def body89_0 : ACode := (.seq (.region [⟨some 9, none, (.bin .lss (.tmp 8) (.tmp 7))⟩]) (.seq (.cond (.tmp 9) .skip (.exit 0)) (.seq (.block 1 (.seq (.region [⟨some 10, none, (.mov (.tmp 8))⟩, ⟨some 5, none, (.mov (.tmp 10))⟩]) (.seq (.region [⟨some 11, none, (.mov (.tmp 1))⟩, ⟨some 12, none, (.mov (.tmp 0))⟩, ⟨some 13, none, (.mov (.tmp 5))⟩, ⟨some 14, none, (.idx 2 (.tmp 12) (.tmp 13))⟩, ⟨some 15, none, (.load true 2 (.tmp 14))⟩, ⟨some 16, none, (.call (.tmp 11) [(.tmp 15)])⟩]) (.cond (.tmp 16) (.seq (.region [⟨some 17, none, (.mov (.tmp 5))⟩, ⟨some 4, none, (.mov (.tmp 17))⟩]) .ret) .skip)))) (.region [⟨some 18, none, (.bin .add (.tmp 8) (.const (.int .i64 1)))⟩, ⟨some 8, none, (.mov (.tmp 18))⟩]))))
noncomputable def body89 : ACode := (.seq (.region [⟨some 4, none, (.mov (.const (.int .i64 0)))⟩]) (.seq (.seq (.region [⟨some 6, none, (.mov (.tmp 0))⟩, ⟨some 7, none, (.len (.tmp 6))⟩, ⟨some 8, none, (.mov (.const (.int .i64 0)))⟩]) (.block 0 (.loop body89_0))) (.seq (.region [⟨some 4, none, (.mov (.const (.int .i64 (-1))))⟩]) .ret)))
set_option maxRecDepth 100000 in
theorem tab89 : tb.code 89 = some ⟨19, [(4, none)], body89⟩ := by kernel_rfl
theorem idxf_fn (h : AHeap) (v fv : Value) (l : List LFn) (p : LFn → Bool) (s : SlF h v l) (hl : (l.length : Int) ≤ 9223372036854775807) (hf : ∀ x ∈ l, ∀ h1, Ext h h1 → ∀ cs, RFn h1 cs x → WV Tryd.prog tb fv [.agg cs.toArray] h1 fun r h' => r = .bool (p x) ∧ Ext h1 h') :
    WC Tryd.prog tb 89 [v, fv] h fun r h' => (∃ n : Int, r = I n ∧ (decide (0 ≤ n)) = l.any p) ∧ Ext h h' := by
  refine WC.of (nostub 89) tab89 ?_; simp only [mkTm, Nat.zero_add, Nat.reduceAdd]
  refine go ?_
  refine WX.loopA [9, 10, 5, 11, 12, 13, 14, 15, 16, 17, 4, 18, 8] (by kernel_rfl) (fun i => l.length - i) (fun i t h1 => Ext h h1 ∧ tmGet t 8 = I i ∧ i ≤ l.length ∧ ∀ j, j < i → p (l.getD j default) = false) 0 ?_ ?_
  · exact ⟨Ext.refl h, sl_, Nat.zero_le _, fun j hj => absurd hj (Nat.not_lt_zero _)⟩
  rintro i t h1 hsame ⟨e1, s8, hi, hm⟩
  have s1 := SlF.ext s e1
  refine go ?_
  refine WX.br (fun hb => ?_) (fun hb => ?_) <;> simp only [DB] at hb
  · have hi' : i < l.length := by omega
    obtain ⟨cs, hcs, pc, hs⟩ := slr_at s1 hi'
    have hff := hf _ (getD_memR hi') h1 e1 cs hcs
    obtain ⟨va, rfl, hR⟩ := hcs
    refine go ?_
    refine WO.conV hff ?_
    rintro _ h2 ⟨rfl, e2⟩
    refine go ?_
    refine WX.br (fun hb => ?_) (fun hb => ?_)
    · refine go ?_
      refine rt ?_
      refine ⟨⟨i, rfl, ?_⟩, e1.trans e2⟩
      rw [List.any_eq_true.2 ⟨_, getD_memR hi', hb⟩]; simp
    · refine go ?_
      refine loopK_normal (i + 1) (by omega) ⟨e1.trans e2, sln, by omega, fun j hj => ?_⟩
      by_cases e : j = i
      · subst e; exact hb
      · exact hm j (by omega)
  · refine go ?_
    refine rt ?_
    refine ⟨⟨-1, rfl, ?_⟩, e1⟩
    rw [any_false fun x hx => by obtain ⟨j, hj, rfl⟩ := mem_getDR hx; exact hm j (by omega)]; rfl

noncomputable def body77 : ACode := (.seq (.region [⟨some 4, none, (.mov (.const (.bool false)))⟩]) (.seq (.region [⟨some 5, none, (.mov (.tmp 0))⟩, ⟨some 6, none, (.mov (.tmp 1))⟩, ⟨some 7, none, (.call (.func 89) [(.tmp 5), (.tmp 6)])⟩, ⟨some 8, none, (.bin .geq (.tmp 7) (.const (.int .i64 0)))⟩, ⟨some 4, none, (.mov (.tmp 8))⟩]) .ret))
set_option maxRecDepth 100000 in
theorem tab77 : tb.code 77 = some ⟨9, [(4, none)], body77⟩ := by kernel_rfl
theorem conf_fn (h : AHeap) (v fv : Value) (l : List LFn) (p : LFn → Bool) (s : SlF h v l) (hl : (l.length : Int) ≤ 9223372036854775807) (hf : ∀ x ∈ l, ∀ h1, Ext h h1 → ∀ cs, RFn h1 cs x → WV Tryd.prog tb fv [.agg cs.toArray] h1 fun r h' => r = .bool (p x) ∧ Ext h1 h') :
    WC Tryd.prog tb 77 [v, fv] h fun r h' => r = .bool (l.any p) ∧ Ext h h' := by
  refine WC.of (nostub 77) tab77 ?_; simp only [mkTm, Nat.zero_add, Nat.reduceAdd]
  refine go ?_
  refine WO.con (idxf_fn h v fv l p s hl hf) ?_
  rintro _ h1 ⟨⟨n, rfl, e⟩, e1⟩
  refine go ?_
  refine rt ?_
  exact ⟨by rw [← e]; rfl, e1⟩

end Go.Proofs.YtbhdfhiecgebnaaDoor
