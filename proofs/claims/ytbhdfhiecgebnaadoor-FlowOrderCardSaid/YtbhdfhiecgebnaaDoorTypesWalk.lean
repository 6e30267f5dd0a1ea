/- Tables of types: what the program's functions come to in the abstract machine. -/
import Derived.Test.YtbhdfhiecgebnaaDoorTab
namespace Go.Proofs.YtbhdfhiecgebnaaDoor
open Go.Am
set_option linter.unusedVariables false
set_option linter.unusedSimpArgs false
set_option maxHeartbeats 4000000

theorem any_false {α : Type} {p : α → Bool} {l : List α} (h : ∀ x ∈ l, p x = false) : l.any p = false := by
  rw [List.any_eq_false]; intro x hx; rw [h x hx]; exact Bool.noConfusion
theorem getD_mem {l : List Int} {i : Nat} (h : i < l.length) : l.getD i 0 ∈ l := by
  simp [List.getD, List.getElem?_eq_getElem h]
theorem mem_getD {l : List Int} {x : Int} (h : x ∈ l) : ∃ i, i < l.length ∧ l.getD i 0 = x := by
  obtain ⟨i, hi, e⟩ := List.getElem_of_mem h
  exact ⟨i, hi, by simp [List.getD, List.getElem?_eq_getElem hi, e]⟩

noncomputable def body121 : ACode := (.seq (.region [⟨some 3, none, (.mov (.const (.bool false)))⟩]) (.seq (.region [⟨some 4, none, (.mov (.tmp 0))⟩, ⟨some 5, none, (.bin .lss (.tmp 4) (.const (.int .i64 0)))⟩, ⟨some 6, none, (.mov (.tmp 5))⟩, ⟨some 7, some (6, false), (.mov (.tmp 0))⟩, ⟨some 8, some (6, false), (.load false 1 (.tmp 1))⟩, ⟨some 9, some (6, false), (.bin .geq (.tmp 7) (.tmp 8))⟩, ⟨some 10, none, (.pick (.tmp 6) (.const (.bool true)) (.tmp 9))⟩, ⟨some 3, none, (.mov (.tmp 10))⟩]) .ret))
set_option maxRecDepth 100000 in
theorem tab121 : tb.code 121 = some ⟨11, [(3, none)], body121⟩ := by kernel_rfl
theorem there1_ok (h : AHeap) (h0 : AHeap) (p : Value) (n m : Int) (o : OwnC h0 h p [I m]) :
    WC Tryd.prog tb 121 [I n, p] h fun r h' => r = .bool (decide (n < 0 ∨ m ≤ n)) ∧ Ext h h' := by
  refine WC.of (nostub 121) tab121 ?_; simp only [mkTm, Nat.zero_add, Nat.reduceAdd]
  refine go ?_
  repeat' (first | (refine WX.br (fun hb => ?_) (fun hb => ?_) <;> (try simp only [DB] at hb) <;> refine go ?_) | (refine WO.sp (fun hb => ?_) (fun hb => ?_) <;> (try simp only [DB] at hb) <;> refine go ?_))
  all_goals (refine rt ?_; exact ⟨by first | (simp [one]; done) | (simp [one]; omega), Ext.refl h⟩)

noncomputable def body122_0 : ACode := (.seq (.region [⟨some 9, none, (.bin .lss (.tmp 8) (.tmp 7))⟩]) (.seq (.cond (.tmp 9) .skip (.exit 0)) (.seq (.block 1 (.seq (.region [⟨some 10, none, (.mov (.tmp 8))⟩, ⟨some 5, none, (.mov (.tmp 10))⟩]) (.seq (.region [⟨some 11, none, (.mov (.tmp 1))⟩, ⟨some 12, none, (.mov (.tmp 0))⟩, ⟨some 13, none, (.mov (.tmp 5))⟩, ⟨some 14, none, (.idx 1 (.tmp 12) (.tmp 13))⟩, ⟨some 15, none, (.load false 1 (.tmp 14))⟩, ⟨some 16, none, (.call (.tmp 11) [(.tmp 15)])⟩]) (.cond (.tmp 16) (.seq (.region [⟨some 17, none, (.mov (.tmp 5))⟩, ⟨some 4, none, (.mov (.tmp 17))⟩]) .ret) .skip)))) (.region [⟨some 18, none, (.bin .add (.tmp 8) (.const (.int .i64 1)))⟩, ⟨some 8, none, (.mov (.tmp 18))⟩]))))
noncomputable def body122 : ACode := (.seq (.region [⟨some 4, none, (.mov (.const (.int .i64 0)))⟩]) (.seq (.seq (.region [⟨some 6, none, (.mov (.tmp 0))⟩, ⟨some 7, none, (.len (.tmp 6))⟩, ⟨some 8, none, (.mov (.const (.int .i64 0)))⟩]) (.block 0 (.loop body122_0))) (.seq (.region [⟨some 4, none, (.mov (.const (.int .i64 (-1))))⟩]) .ret)))
set_option maxRecDepth 100000 in
theorem tab122 : tb.code 122 = some ⟨19, [(4, none)], body122⟩ := by kernel_rfl
theorem idxf_int (h : AHeap) (v fv : Value) (l : List Int) (p : Int → Bool) (s : SlI h v l) (hl : (l.length : Int) ≤ 9223372036854775807) (hf : ∀ x ∈ l, ∀ h1, Ext h h1 → WV Tryd.prog tb fv [I x] h1 fun r h' => r = .bool (p x) ∧ Ext h1 h') :
    WC Tryd.prog tb 122 [v, fv] h fun r h' => (∃ n : Int, r = I n ∧ (decide (0 ≤ n)) = l.any p) ∧ Ext h h' := by
  refine WC.of (nostub 122) tab122 ?_; simp only [mkTm, Nat.zero_add, Nat.reduceAdd]
  refine go ?_
  refine WX.loopA [9, 10, 5, 11, 12, 13, 14, 15, 16, 17, 4, 18, 8] (by kernel_rfl) (fun i => l.length - i) (fun i t h1 => Ext h h1 ∧ tmGet t 8 = I i ∧ i ≤ l.length ∧ ∀ j, j < i → p (l.getD j 0) = false) 0 ?_ ?_
  · exact ⟨Ext.refl h, sl_, Nat.zero_le _, fun j hj => absurd hj (Nat.not_lt_zero _)⟩
  rintro i t h1 hsame ⟨e1, s8, hi, hm⟩
  have s1 := s.ext e1
  refine go ?_
  refine WX.br (fun hb => ?_) (fun hb => ?_) <;> simp only [DB] at hb
  · have hi' : i < l.length := by omega
    refine go ?_
    refine WO.conV (hf _ (getD_mem hi') h1 e1) ?_
    rintro _ h2 ⟨rfl, e2⟩
    refine go ?_
    refine WX.br (fun hb => ?_) (fun hb => ?_)
    · refine go ?_
      refine rt ?_
      refine ⟨⟨i, rfl, ?_⟩, e1.trans e2⟩
      rw [List.any_eq_true.2 ⟨_, getD_mem hi', hb⟩]; simp
    · refine go ?_
      refine loopK_normal (i + 1) (by omega) ⟨e1.trans e2, sln, by omega, fun j hj => ?_⟩
      by_cases e : j = i
      · subst e; exact hb
      · exact hm j (by omega)
  · refine go ?_
    refine rt ?_
    refine ⟨⟨-1, rfl, ?_⟩, e1⟩
    rw [any_false fun x hx => by obtain ⟨j, hj, rfl⟩ := mem_getD hx; exact hm j (by omega)]; rfl

noncomputable def body103 : ACode := (.seq (.region [⟨some 4, none, (.mov (.const (.bool false)))⟩]) (.seq (.region [⟨some 5, none, (.mov (.tmp 0))⟩, ⟨some 6, none, (.mov (.tmp 1))⟩, ⟨some 7, none, (.call (.func 122) [(.tmp 5), (.tmp 6)])⟩, ⟨some 8, none, (.bin .geq (.tmp 7) (.const (.int .i64 0)))⟩, ⟨some 4, none, (.mov (.tmp 8))⟩]) .ret))
set_option maxRecDepth 100000 in
theorem tab103 : tb.code 103 = some ⟨9, [(4, none)], body103⟩ := by kernel_rfl
theorem conf_int (h : AHeap) (v fv : Value) (l : List Int) (p : Int → Bool) (s : SlI h v l) (hl : (l.length : Int) ≤ 9223372036854775807) (hf : ∀ x ∈ l, ∀ h1, Ext h h1 → WV Tryd.prog tb fv [I x] h1 fun r h' => r = .bool (p x) ∧ Ext h1 h') :
    WC Tryd.prog tb 103 [v, fv] h fun r h' => r = .bool (l.any p) ∧ Ext h h' := by
  refine WC.of (nostub 103) tab103 ?_; simp only [mkTm, Nat.zero_add, Nat.reduceAdd]
  refine go ?_
  refine WO.con (idxf_int h v fv l p s hl hf) ?_
  rintro _ h1 ⟨⟨n, rfl, e⟩, e1⟩
  refine go ?_
  refine rt ?_
  exact ⟨by rw [← e]; rfl, e1⟩

noncomputable def body102 : ACode := (.seq (.region [⟨some 2, none, (.box (.tmp 0))⟩, ⟨some 4, none, (.mov (.const (.bool false)))⟩]) (.seq (.region [⟨some 5, none, (.mov (.tmp 1))⟩, ⟨some 6, none, (.mkFunc (.func 121) [] [(.tmp 2)])⟩, ⟨some 7, none, (.call (.func 103) [(.tmp 5), (.tmp 6)])⟩, ⟨some 8, none, (.un .not (.tmp 7))⟩, ⟨some 4, none, (.mov (.tmp 8))⟩]) .ret))
set_option maxRecDepth 100000 in
theorem tab102 : tb.code 102 = some ⟨9, [(4, none)], body102⟩ := by kernel_rfl
theorem there_ok (h : AHeap) (v : Value) (m : Int) (l : List Int) (s : SlI h v l) (hl : (l.length : Int) ≤ 9223372036854775807) :
    WC Tryd.prog tb 102 [I m, v] h fun r h' => r = .bool (thereL m l) ∧ Ext h h' := by
  refine WC.of (nostub 102) tab102 ?_; simp only [mkTm, Nat.zero_add, Nat.reduceAdd]
  refine go ?_
  refine WO.bx ?_
  intro p h1 e1 o1
  refine go ?_
  refine WO.con (conf_int h1 v _ l (fun n => decide (n < 0 ∨ m ≤ n)) (s.ext e1) hl ?_) ?_
  · intro x hx h2 e2
    exact WV.func (there1_ok h2 h p x m (o1.ext e2))
  rintro _ h2 ⟨rfl, e2⟩
  refine go ?_
  refine rt ?_
  refine ⟨?_, e1.trans e2⟩
  show Value.bool _ = _
  congr 1
  rw [Bool.eq_iff_iff]
  simp only [thereL, Bool.not_eq_true', List.any_eq_false, List.all_eq_true, Bool.and_eq_true, decide_eq_true_eq]
  exact ⟨fun h x hx => by have := h x hx; omega, fun h x hx => by have := h x hx; omega⟩

noncomputable def body106_0 : ACode := (.seq (.region [⟨some 8, none, (.bin .lss (.tmp 7) (.tmp 6))⟩]) (.seq (.cond (.tmp 8) .skip (.exit 0)) (.seq (.block 1 (.seq (.region [⟨some 9, none, (.idx 1 (.tmp 5) (.tmp 7))⟩, ⟨some 10, none, (.load false 1 (.tmp 9))⟩, ⟨some 4, none, (.mov (.tmp 10))⟩]) (.region [⟨some 11, none, (.mov (.tmp 2))⟩, ⟨some 12, none, (.mov (.tmp 4))⟩, ⟨some 13, none, (.bin .add (.tmp 11) (.tmp 12))⟩, ⟨some 2, none, (.mov (.tmp 13))⟩]))) (.region [⟨some 14, none, (.bin .add (.tmp 7) (.const (.int .i64 1)))⟩, ⟨some 7, none, (.mov (.tmp 14))⟩]))))
noncomputable def body106 : ACode := (.seq (.region [⟨some 2, none, (.mov (.const (.int .i64 0)))⟩]) (.seq (.seq (.region [⟨some 5, none, (.mov (.tmp 0))⟩, ⟨some 6, none, (.len (.tmp 5))⟩, ⟨some 7, none, (.mov (.const (.int .i64 0)))⟩]) (.block 0 (.loop body106_0))) (.seq (.region [⟨some 15, none, (.mov (.tmp 2))⟩, ⟨some 2, none, (.mov (.tmp 15))⟩]) .ret)))
set_option maxRecDepth 100000 in
theorem tab106 : tb.code 106 = some ⟨16, [(2, none)], body106⟩ := by kernel_rfl
theorem sum_ok (h : AHeap) (v : Value) (l : List Int) (s : SlI h v l) (hl : l.length ≤ 1000) (hb : ∀ x ∈ l, 0 ≤ x ∧ x ≤ 1000) :
    WC Tryd.prog tb 106 [v] h fun r h' => r = I l.sum ∧ h = h' := by
  refine WC.of (nostub 106) tab106 ?_; simp only [mkTm, Nat.zero_add, Nat.reduceAdd]
  refine go ?_
  refine WX.loopA [8, 9, 10, 4, 11, 12, 13, 2, 14, 7] (by kernel_rfl) (fun i => l.length - i) (fun i t h1 => h = h1 ∧ tmGet t 7 = I i ∧ tmGet t 2 = I (l.take i).sum ∧ i ≤ l.length ∧ 0 ≤ (l.take i).sum ∧ (l.take i).sum ≤ 1000 * i) 0 ?_ ?_
  · exact ⟨rfl, sl_, sl_, Nat.zero_le _, by simp, by simp⟩
  rintro i t _ hsame ⟨rfl, s7, s2, hi, hm, hn⟩
  refine go ?_
  refine WX.br (fun hc => ?_) (fun hc => ?_) <;> simp only [DB] at hc
  · have hi' : i < l.length := by omega
    have hx := hb _ (getD_mem hi')
    refine go ?_
    have e : (l.take (i + 1)).sum = (l.take i).sum + l.getD i 0 := by
      rw [List.take_add_one, List.sum_append]; simp [List.getD, List.getElem?_eq_getElem hi']
    refine loopK_normal (i + 1) (by omega) ⟨rfl, sln, by rw [e]; exact sl_, by omega, by omega, by omega⟩
  · refine go ?_
    refine rt ?_
    have : i = l.length := by omega
    subst this
    exact ⟨by simp [one], rfl⟩

noncomputable def body105 : ACode := (.seq (.region [⟨some 1, none, (.box (.tmp 0))⟩, ⟨some 2, none, (.mov (.const (.bool false)))⟩]) (.seq (.region [⟨some 3, none, (.fld 0 (.tmp 1))⟩, ⟨some 4, none, (.load false 1 (.tmp 3))⟩, ⟨some 5, none, (.bin .geq (.tmp 4) (.const (.int .u8 1)))⟩, ⟨some 6, none, (.mov (.tmp 5))⟩, ⟨some 7, some (6, true), (.fld 0 (.tmp 1))⟩, ⟨some 8, some (6, true), (.load false 1 (.tmp 7))⟩, ⟨some 9, some (6, true), (.bin .leq (.tmp 8) (.const (.int .u8 3)))⟩, ⟨some 10, none, (.pick (.tmp 6) (.tmp 9) (.const (.bool false)))⟩, ⟨some 2, none, (.mov (.tmp 10))⟩]) .ret))
set_option maxRecDepth 100000 in
theorem tab105 : tb.code 105 = some ⟨11, [(2, none)], body105⟩ := by kernel_rfl
theorem scalar_ok (h : AHeap) (x : LType) (va : Value) :
    WC Tryd.prog tb 105 [.agg #[.int .u8 x.kind, I x.elem, I x.many, va]] h fun r h' => r = .bool (scalarL x) ∧ Ext h h' := by
  refine WC.of (nostub 105) tab105 ?_; simp only [mkTm, Nat.zero_add, Nat.reduceAdd]
  refine go ?_
  refine WO.bx ?_
  intro p h1 e1 o1
  refine go ?_
  repeat' (first | (refine WX.br (fun hb => ?_) (fun hb => ?_) <;> (try simp only [DB] at hb) <;> refine go ?_) | (refine WO.sp (fun hb => ?_) (fun hb => ?_) <;> (try simp only [DB] at hb) <;> refine go ?_))
  all_goals (refine rt ?_; exact ⟨by simp [one, scalarL, *] <;> omega, e1⟩)

noncomputable def body101 : ACode := (.seq (.region [⟨some 1, none, (.box (.tmp 0))⟩, ⟨some 2, none, (.mov (.const (.bool false)))⟩]) (.seq (.region [⟨some 3, none, (.mov (.const (.bool true)))⟩, ⟨some 4, none, (.mov (.const (.bool true)))⟩, ⟨some 5, none, (.mov (.const (.bool true)))⟩]) (.seq (.seq (.region [⟨some 6, none, (.fld 0 (.tmp 1))⟩, ⟨some 7, none, (.load false 1 (.tmp 6))⟩]) (.block 0 (.seq (.block 5 (.seq (.block 4 (.seq (.block 3 (.seq (.block 2 (.seq (.block 1 (.seq (.seq (.seq (.region [⟨some 9, none, (.bin .eql (.tmp 7) (.const (.int .u8 1)))⟩, ⟨some 8, none, (.mov (.tmp 9))⟩]) (.cond (.tmp 8) (.exit 1) .skip)) (.seq (.seq (.region [⟨some 11, none, (.bin .eql (.tmp 7) (.const (.int .u8 2)))⟩, ⟨some 10, none, (.mov (.tmp 11))⟩]) (.cond (.tmp 10) (.exit 2) .skip)) (.seq (.seq (.region [⟨some 13, none, (.bin .eql (.tmp 7) (.const (.int .u8 4)))⟩, ⟨some 12, none, (.mov (.tmp 13))⟩]) (.cond (.tmp 12) (.exit 3) .skip)) (.seq (.seq (.region [⟨some 15, none, (.bin .eql (.tmp 7) (.const (.int .u8 3)))⟩, ⟨some 14, none, (.mov (.tmp 15))⟩]) (.cond (.tmp 14) (.exit 4) .skip)) (.seq (.region [⟨some 17, none, (.bin .eql (.tmp 7) (.const (.int .u8 5)))⟩, ⟨some 16, none, (.mov (.tmp 17))⟩]) (.cond (.tmp 16) (.exit 5) .skip)))))) (.exit 0))) (.region [⟨some 18, none, (.fld 1 (.tmp 1))⟩, ⟨some 19, none, (.load false 1 (.tmp 18))⟩, ⟨some 20, none, (.bin .eql (.tmp 19) (.const (.int .i64 0)))⟩, ⟨some 3, none, (.mov (.tmp 20))⟩]))) (.seq (.regionC [(⟨some 21, none, (.fld 2 (.tmp 1))⟩, []), (⟨some 22, none, (.load false 1 (.tmp 21))⟩, []), (⟨some 23, none, (.bin .eql (.tmp 22) (.const (.int .i64 0)))⟩, []), (⟨some 24, none, (.fld 3 (.tmp 1))⟩, []), (⟨some 25, none, (.load false 1 (.tmp 24))⟩, []), (⟨some 26, none, (.len (.tmp 25))⟩, []), (⟨some 27, none, (.bin .eql (.tmp 26) (.const (.int .i64 0)))⟩, []), (⟨some 4, none, (.mov (.tmp 23))⟩, []), (⟨some 5, none, (.mov (.tmp 27))⟩, [])]) (.exit 0)))) (.region [⟨some 28, none, (.fld 1 (.tmp 1))⟩, ⟨some 29, none, (.load false 1 (.tmp 28))⟩, ⟨some 30, none, (.bin .eql (.tmp 29) (.const (.int .i64 0)))⟩, ⟨some 3, none, (.mov (.tmp 30))⟩]))) (.seq (.region [⟨some 31, none, (.fld 2 (.tmp 1))⟩, ⟨some 32, none, (.load false 1 (.tmp 31))⟩, ⟨some 33, none, (.bin .eql (.tmp 32) (.const (.int .i64 0)))⟩, ⟨some 4, none, (.mov (.tmp 33))⟩]) (.exit 0)))) (.seq (.region [⟨some 34, none, (.fld 3 (.tmp 1))⟩, ⟨some 35, none, (.load false 1 (.tmp 34))⟩, ⟨some 36, none, (.len (.tmp 35))⟩, ⟨some 37, none, (.bin .eql (.tmp 36) (.const (.int .i64 0)))⟩, ⟨some 5, none, (.mov (.tmp 37))⟩]) (.exit 0))))) (.seq (.region [⟨some 38, none, (.mov (.tmp 3))⟩, ⟨some 39, none, (.mov (.tmp 38))⟩, ⟨some 40, some (39, true), (.mov (.tmp 4))⟩, ⟨some 41, none, (.pick (.tmp 39) (.tmp 40) (.const (.bool false)))⟩, ⟨some 42, none, (.mov (.tmp 41))⟩, ⟨some 43, some (42, true), (.mov (.tmp 5))⟩, ⟨some 44, none, (.pick (.tmp 42) (.tmp 43) (.const (.bool false)))⟩, ⟨some 2, none, (.mov (.tmp 44))⟩]) .ret))))
set_option maxRecDepth 100000 in
theorem tab101 : tb.code 101 = some ⟨45, [(2, none)], body101⟩ := by kernel_rfl
theorem plain_ok (h : AHeap) (x : LType) (va : Value) (s : SlI h va x.parts) :
    WC Tryd.prog tb 101 [.agg #[.int .u8 x.kind, I x.elem, I x.many, va]] h fun r h' => r = .bool (plainL x) ∧ Ext h h' := by
  refine WC.of (nostub 101) tab101 ?_; simp only [mkTm, Nat.zero_add, Nat.reduceAdd]
  refine go ?_
  refine WO.bx ?_
  intro p h1 e1 o1
  have s1 := s.ext e1
  refine go ?_
  repeat' (first | (refine WX.br (fun hb => ?_) (fun hb => ?_) <;> (try simp only [DB] at hb) <;> refine go ?_) | (refine WO.sp (fun hb => ?_) (fun hb => ?_) <;> (try simp only [DB] at hb) <;> refine go ?_))
  all_goals (refine rt ?_; refine ⟨?_, e1⟩; simp [one, plainL, *])


theorem slr_shape {α : Type} {c : Nat} {R : AHeap → List Value → α → Prop} {h : AHeap} {v : Value} {T : List α} (s : SlR c R h v T) : ∃ a n k, v = .slice a n k := let ⟨_, a, _⟩ := s; a.shape
theorem slt_at {h : AHeap} {v : Value} {T : List LType} {i : Nat} (s : SlT h v T) (hi : i < T.length) : ∃ cs, RTy h cs (T.getD i default) ∧ Piece h v (i * 4) cs ∧ IsSl v := by
  obtain ⟨cs, a, _, c⟩ := s.at hi
  exact ⟨cs, by simpa [List.getD, List.getElem?_eq_getElem hi] using a, c, s.some hi⟩

noncomputable def body104 : ACode := (.seq (.region [⟨some 3, none, (.mov (.const (.bool false)))⟩]) (.seq (.region [⟨some 4, none, (.load false 1 (.tmp 1))⟩, ⟨some 5, none, (.mov (.tmp 0))⟩, ⟨some 6, none, (.idx 4 (.tmp 4) (.tmp 5))⟩, ⟨some 7, none, (.load true 4 (.tmp 6))⟩, ⟨some 8, none, (.call (.func 105) [(.tmp 7)])⟩, ⟨some 9, none, (.un .not (.tmp 8))⟩, ⟨some 3, none, (.mov (.tmp 9))⟩]) .ret))
set_option maxRecDepth 100000 in
theorem tab104 : tb.code 104 = some ⟨10, [(3, none)], body104⟩ := by kernel_rfl
theorem may1_ok (h h0 : AHeap) (p tv : Value) (T : List LType) (n : Int) (o : OwnC h0 h p [tv]) (s : SlT h tv T) (hn : 0 ≤ n ∧ n < T.length) :
    WC Tryd.prog tb 104 [I n, p] h fun r h' => r = .bool (!scalarL (T.getD n.toNat default)) ∧ Ext h h' := by
  obtain ⟨i, rfl⟩ : ∃ i : Nat, n = i := ⟨n.toNat, by omega⟩
  obtain ⟨cs, ⟨va, rfl, sv, hv⟩, pc, hs⟩ := slt_at (i := i) s (by omega)
  refine WC.of (nostub 104) tab104 ?_; simp only [mkTm, Nat.zero_add, Nat.reduceAdd]
  refine go ?_
  refine WO.con (scalar_ok h _ va) ?_
  rintro _ h1 ⟨rfl, e1⟩
  refine go ?_
  refine rt ?_
  exact ⟨rfl, e1⟩

theorem sizes_mem {s : List Int} {n : Int} {k : Nat} (hk : s.length = k) (hn : 0 ≤ n ∧ n < k) : s.getD n.toNat 0 ∈ s := getD_mem (by omega)

noncomputable def body88_0 : ACode := (.seq (.region [⟨some 78, none, (.bin .lss (.tmp 77) (.tmp 76))⟩]) (.seq (.cond (.tmp 78) .skip (.exit 1)) (.seq (.block 2 (.seq (.region [⟨some 79, none, (.idx 1 (.tmp 75) (.tmp 77))⟩, ⟨some 80, none, (.load false 1 (.tmp 79))⟩, ⟨some 14, none, (.mov (.tmp 80))⟩]) (.region [⟨some 81, none, (.mov (.tmp 12))⟩, ⟨some 82, none, (.mov (.tmp 2))⟩, ⟨some 83, none, (.mov (.tmp 14))⟩, ⟨some 84, none, (.idx 1 (.tmp 82) (.tmp 83))⟩, ⟨some 85, none, (.load false 1 (.tmp 84))⟩, ⟨some 86, none, (.buildSlice 1 1 [(.int .i64 0)] [(0, 1, (.tmp 85))])⟩, ⟨some 87, none, (.append 1 (.tmp 81) (.tmp 86))⟩, ⟨some 12, none, (.mov (.tmp 87))⟩]))) (.region [⟨some 88, none, (.bin .add (.tmp 77) (.const (.int .i64 1)))⟩, ⟨some 77, none, (.mov (.tmp 88))⟩]))))
noncomputable def body88 : ACode := (.seq (.region [⟨some 3, none, (.box (.tmp 0))⟩, ⟨some 6, none, (.mov (.const (.int .i64 0)))⟩, ⟨some 7, none, (.mov (.const (.bool false)))⟩]) (.seq (.region [⟨some 15, none, (.load false 1 (.tmp 3))⟩, ⟨some 16, none, (.mov (.tmp 1))⟩, ⟨some 17, none, (.idx 4 (.tmp 15) (.tmp 16))⟩, ⟨some 18, none, (.load true 4 (.tmp 17))⟩, ⟨some 8, none, (.alloc [(.int .u8 0), (.int .i64 0), (.int .i64 0), (.slice none 0 0)])⟩, ⟨none, none, (.store 4 (.tmp 8) (.tmp 18))⟩]) (.seq (.region [⟨some 19, none, (.load true 4 (.tmp 8))⟩, ⟨some 20, none, (.call (.func 101) [(.tmp 19)])⟩, ⟨some 9, none, (.mov (.tmp 20))⟩, ⟨some 10, none, (.mov (.const (.int .i64 1)))⟩]) (.seq (.seq (.region [⟨some 21, none, (.fld 0 (.tmp 8))⟩, ⟨some 22, none, (.load false 1 (.tmp 21))⟩]) (.block 0 (.seq (.region [⟨some 24, none, (.bin .eql (.tmp 22) (.const (.int .u8 1)))⟩, ⟨some 23, none, (.mov (.tmp 24))⟩]) (.cond (.tmp 23) .skip (.seq (.region [⟨some 26, none, (.bin .eql (.tmp 22) (.const (.int .u8 2)))⟩, ⟨some 25, none, (.mov (.tmp 26))⟩]) (.cond (.tmp 25) (.region [⟨some 27, none, (.mov (.tmp 9))⟩, ⟨some 28, none, (.mov (.tmp 27))⟩, ⟨some 29, some (28, true), (.load false 1 (.tmp 3))⟩, ⟨some 30, some (28, true), (.len (.tmp 29))⟩, ⟨some 31, some (28, true), (.fld 1 (.tmp 8))⟩, ⟨some 32, some (28, true), (.load false 1 (.tmp 31))⟩, ⟨some 33, some (28, true), (.buildSlice 1 1 [(.int .i64 0)] [(0, 1, (.tmp 32))])⟩, ⟨some 34, some (28, true), (.call (.func 102) [(.tmp 30), (.tmp 33)])⟩, ⟨some 35, none, (.pick (.tmp 28) (.tmp 34) (.const (.bool false)))⟩, ⟨some 9, none, (.mov (.tmp 35))⟩]) (.seq (.region [⟨some 37, none, (.bin .eql (.tmp 22) (.const (.int .u8 3)))⟩, ⟨some 36, none, (.mov (.tmp 37))⟩]) (.cond (.tmp 36) (.seq (.region [⟨some 38, none, (.fld 1 (.tmp 8))⟩, ⟨some 39, none, (.load false 1 (.tmp 38))⟩, ⟨some 40, none, (.buildSlice 1 1 [(.int .i64 0)] [(0, 1, (.tmp 39))])⟩, ⟨some 41, none, (.fld 3 (.tmp 8))⟩, ⟨some 42, none, (.load false 1 (.tmp 41))⟩, ⟨some 43, none, (.append 1 (.tmp 40) (.tmp 42))⟩, ⟨some 11, none, (.mov (.tmp 43))⟩]) (.region [⟨some 44, none, (.mov (.tmp 9))⟩, ⟨some 45, none, (.mov (.tmp 44))⟩, ⟨some 46, some (45, true), (.fld 3 (.tmp 8))⟩, ⟨some 47, some (45, true), (.load false 1 (.tmp 46))⟩, ⟨some 48, some (45, true), (.len (.tmp 47))⟩, ⟨some 49, some (45, true), (.bin .leq (.tmp 48) (.const (.int .i64 4)))⟩, ⟨some 50, none, (.pick (.tmp 45) (.tmp 49) (.const (.bool false)))⟩, ⟨some 51, none, (.mov (.tmp 50))⟩, ⟨some 52, some (51, true), (.load false 1 (.tmp 3))⟩, ⟨some 53, some (51, true), (.len (.tmp 52))⟩, ⟨some 54, some (51, true), (.mov (.tmp 11))⟩, ⟨some 55, some (51, true), (.call (.func 102) [(.tmp 53), (.tmp 54)])⟩, ⟨some 56, none, (.pick (.tmp 51) (.tmp 55) (.const (.bool false)))⟩, ⟨some 57, none, (.mov (.tmp 56))⟩, ⟨some 58, some (57, true), (.mov (.tmp 11))⟩, ⟨some 59, some (57, true), (.mkFunc (.func 104) [] [(.tmp 3)])⟩, ⟨some 60, some (57, true), (.call (.func 103) [(.tmp 58), (.tmp 59)])⟩, ⟨some 61, some (57, true), (.un .not (.tmp 60))⟩, ⟨some 62, none, (.pick (.tmp 57) (.tmp 61) (.const (.bool false)))⟩, ⟨some 9, none, (.mov (.tmp 62))⟩])) (.seq (.region [⟨some 64, none, (.bin .eql (.tmp 22) (.const (.int .u8 4)))⟩, ⟨some 63, none, (.mov (.tmp 64))⟩]) (.cond (.tmp 63) (.seq (.seq (.region [⟨some 65, none, (.mov (.tmp 9))⟩, ⟨some 66, none, (.mov (.tmp 65))⟩, ⟨some 67, some (66, true), (.mov (.tmp 1))⟩, ⟨some 68, some (66, true), (.fld 3 (.tmp 8))⟩, ⟨some 69, some (66, true), (.load false 1 (.tmp 68))⟩, ⟨some 70, some (66, true), (.call (.func 102) [(.tmp 67), (.tmp 69)])⟩, ⟨some 71, none, (.pick (.tmp 66) (.tmp 70) (.const (.bool false)))⟩, ⟨some 9, none, (.mov (.tmp 71))⟩]) (.seq (.region [⟨some 72, none, (.mov (.tmp 9))⟩, ⟨some 73, none, (.un .not (.tmp 72))⟩]) (.cond (.tmp 73) (.seq (.region [⟨some 6, none, (.mov (.const (.int .i64 0)))⟩, ⟨some 7, none, (.mov (.const (.bool false)))⟩]) .ret) .skip))) (.seq (.region [⟨some 12, none, (.mov (.const (.slice none 0 0)))⟩]) (.seq (.seq (.region [⟨some 74, none, (.fld 3 (.tmp 8))⟩, ⟨some 75, none, (.load false 1 (.tmp 74))⟩, ⟨some 76, none, (.len (.tmp 75))⟩, ⟨some 77, none, (.mov (.const (.int .i64 0)))⟩]) (.block 1 (.loop body88_0))) (.region [⟨some 89, none, (.mov (.tmp 12))⟩, ⟨some 90, none, (.len (.tmp 89))⟩, ⟨some 91, none, (.bin .gtr (.tmp 90) (.const (.int .i64 0)))⟩, ⟨some 92, none, (.mov (.tmp 91))⟩, ⟨some 93, some (92, true), (.mov (.tmp 12))⟩, ⟨some 94, some (92, true), (.len (.tmp 93))⟩, ⟨some 95, some (92, true), (.bin .leq (.tmp 94) (.const (.int .i64 8)))⟩, ⟨some 96, none, (.pick (.tmp 92) (.tmp 95) (.const (.bool false)))⟩, ⟨some 97, none, (.mov (.tmp 12))⟩, ⟨some 98, none, (.call (.func 106) [(.tmp 97)])⟩, ⟨some 9, none, (.mov (.tmp 96))⟩, ⟨some 10, none, (.mov (.tmp 98))⟩])))) (.seq (.region [⟨some 100, none, (.bin .eql (.tmp 22) (.const (.int .u8 5)))⟩, ⟨some 99, none, (.mov (.tmp 100))⟩]) (.cond (.tmp 99) (.seq (.seq (.region [⟨some 101, none, (.mov (.tmp 9))⟩, ⟨some 102, none, (.mov (.tmp 101))⟩, ⟨some 103, some (102, true), (.mov (.tmp 1))⟩, ⟨some 104, some (102, true), (.fld 1 (.tmp 8))⟩, ⟨some 105, some (102, true), (.load false 1 (.tmp 104))⟩, ⟨some 106, some (102, true), (.buildSlice 1 1 [(.int .i64 0)] [(0, 1, (.tmp 105))])⟩, ⟨some 107, some (102, true), (.call (.func 102) [(.tmp 103), (.tmp 106)])⟩, ⟨some 108, none, (.pick (.tmp 102) (.tmp 107) (.const (.bool false)))⟩, ⟨some 109, none, (.mov (.tmp 108))⟩, ⟨some 110, some (109, true), (.fld 2 (.tmp 8))⟩, ⟨some 111, some (109, true), (.load false 1 (.tmp 110))⟩, ⟨some 112, some (109, true), (.bin .geq (.tmp 111) (.const (.int .i64 1)))⟩, ⟨some 113, none, (.pick (.tmp 109) (.tmp 112) (.const (.bool false)))⟩, ⟨some 114, none, (.mov (.tmp 113))⟩, ⟨some 115, some (114, true), (.fld 2 (.tmp 8))⟩, ⟨some 116, some (114, true), (.load false 1 (.tmp 115))⟩, ⟨some 117, some (114, true), (.bin .leq (.tmp 116) (.const (.int .i64 16)))⟩, ⟨some 118, none, (.pick (.tmp 114) (.tmp 117) (.const (.bool false)))⟩, ⟨some 9, none, (.mov (.tmp 118))⟩]) (.seq (.region [⟨some 119, none, (.mov (.tmp 9))⟩, ⟨some 120, none, (.un .not (.tmp 119))⟩]) (.cond (.tmp 120) (.seq (.region [⟨some 6, none, (.mov (.const (.int .i64 0)))⟩, ⟨some 7, none, (.mov (.const (.bool false)))⟩]) .ret) .skip))) (.regionC [(⟨some 121, none, (.fld 2 (.tmp 8))⟩, []), (⟨some 122, none, (.load false 1 (.tmp 121))⟩, []), (⟨some 123, none, (.mov (.tmp 2))⟩, []), (⟨some 124, none, (.fld 1 (.tmp 8))⟩, []), (⟨some 125, none, (.load false 1 (.tmp 124))⟩, []), (⟨some 126, none, (.idx 1 (.tmp 123) (.tmp 125))⟩, []), (⟨some 127, none, (.load false 1 (.tmp 126))⟩, []), (⟨some 128, none, (.bin .mul (.tmp 122) (.tmp 127))⟩, []), (⟨some 10, none, (.mov (.tmp 128))⟩, [])])) (.region [⟨some 9, none, (.mov (.const (.bool false)))⟩]))))))))))))) (.seq (.region [⟨some 129, none, (.mov (.tmp 10))⟩, ⟨some 130, none, (.mov (.tmp 9))⟩, ⟨some 131, none, (.mov (.tmp 130))⟩, ⟨some 132, some (131, true), (.mov (.tmp 10))⟩, ⟨some 133, some (131, true), (.bin .leq (.tmp 132) (.const (.int .i64 32)))⟩, ⟨some 134, none, (.pick (.tmp 131) (.tmp 133) (.const (.bool false)))⟩, ⟨some 6, none, (.mov (.tmp 129))⟩, ⟨some 7, none, (.mov (.tmp 134))⟩]) .ret)))))
set_option maxRecDepth 100000 in
theorem tab88 : tb.code 88 = some ⟨135, [(6, none), (7, none)], body88⟩ := by kernel_rfl
theorem may_ok (h : AHeap) (tv sv : Value) (T : List LType) (k : Nat) (sizes : List Int) (st : SlT h tv T) (ss : SlI h sv sizes) (hk : k < T.length) (hT : T.length ≤ 100) (hp : ∀ x ∈ T, x.parts.length ≤ 100) (hsz : sizes.length = k)
    (hb0 : ∀ x ∈ sizes, 0 ≤ x ∧ x ≤ 1000) :
    WC Tryd.prog tb 88 [tv, I k, sv] h fun r h' => r = .tuple #[I (mayL T (T.getD k default) k sizes).1, .bool (mayL T (T.getD k default) k sizes).2] ∧ Ext h h' := by
  have hxT : T.getD k default ∈ T := by simp [List.getD, List.getElem?_eq_getElem hk]
  have hpx := hp _ hxT
  generalize hx : T.getD k default = x at *
  have hpx : x.parts.length ≤ 100 := hpx
  obtain ⟨_, _, _, rfl⟩ := slr_shape st
  refine WC.of (nostub 88) tab88 ?_; simp only [mkTm, Nat.zero_add, Nat.reduceAdd]
  refine go ?_
  refine WO.bx ?_
  intro p3 h1 e1 o3
  have st1 := st.ext e1
  obtain ⟨cs, hR, pc, hs⟩ := slt_at (i := k) st1 hk
  rw [hx] at hR
  obtain ⟨va, rfl, sv0, hv⟩ := hR
  refine go ?_
  refine WO.al ?_
  intro p8 h2 e2 o8
  refine go ?_
  refine WO.stC0 o8 e2 ?_ (h1 := ty_one (sv0.ext e2) _ _ _ _)
  intro h3 e3 o8 _
  have o3 := o3.ext e3
  have st3 := st1.ext e3
  have ss3 := (ss.ext e1).ext e3
  have sv3 := sv0.ext e3
  refine go ?_
  refine WO.con (plain_ok h3 x va sv3) ?_
  rintro _ h4 ⟨rfl, e4⟩
  have o3 := o3.ext e4
  have o84 := o8.ext e4
  have o8 := o84
  have st4 := st3.ext e4
  have ss4 := ss3.ext e4
  have sv4 := sv3.ext e4
  have e14 := (e1.trans e3).trans e4
  clear st st1 st3 ss ss3 sv0 sv3 e1 e2 e3 e4 pc hs
  refine go ?_
  refine WX.br (fun hb => ?_) (fun hb => ?_) <;> simp only [DB] at hb <;> refine go ?_
  · refine WO.sp (fun hc => ?_) (fun hc => ?_) <;> refine go ?_ <;> refine rt ?_ <;> exact ⟨by simp [one, mayL, hb, hc], e14⟩
  refine WX.br (fun hb2 => ?_) (fun hb2 => ?_) <;> simp only [DB] at hb2 <;> refine go ?_
  · refine WO.sp (fun hc => ?_) (fun hc => ?_) <;> refine go ?_
    · refine WO.bl [x.elem] ?_
      intro v5 h5 e5 o5
      have st5 := st4.ext e5
      have o3 := o3.ext e5
      refine go ?_
      refine WO.con (there_ok h5 v5 _ [x.elem] o5.sl (by simp)) ?_
      rintro _ h6 ⟨rfl, e6⟩
      refine go ?_
      refine WO.sp (fun hd => ?_) (fun hd => ?_) <;> refine go ?_ <;> refine rt ?_ <;> exact ⟨by simp [one, mayL, hb2, hc, hd], (e14.trans e5).trans e6⟩
    · refine rt ?_
      exact ⟨by simp [one, mayL, hb2, hc], e14⟩
  refine WX.br (fun hb3 => ?_) (fun hb3 => ?_) <;> simp only [DB] at hb3 <;> refine go ?_
  · refine WO.bl [x.elem] ?_
    intro v5 h5 e5 o5
    have sv5 := sv4.ext e5
    have o8 := o8.ext e5
    refine go ?_
    refine WO.apN (.inr o5) sv5 e5 (by simp; omega) ?_
    intro v6 h6 e6 o6
    have st6 := st4.ext e6
    have o3 := o3.ext e6
    have sv6 := sv4.ext e6
    have o8 := OwnC.ext o84 e6
    have e16 := e14.trans e6
    refine go ?_
    refine WO.sp (fun hc => ?_) (fun hc => ?_) <;> refine go ?_
    · refine WO.sp (fun hd => ?_) (fun hd => ?_) <;> simp only [DB] at hd <;> refine go ?_
      · have hd' : x.parts.length ≤ 4 := by omega
        refine WO.con (there_ok h6 v6 _ _ o6.sl (by simp; omega)) ?_
        rintro _ h7 ⟨rfl, e7⟩
        have o3 := o3.ext e7
        have st7 := st6.ext e7
        refine go ?_
        refine WO.sp (fun he => ?_) (fun he => ?_) <;> refine go ?_
        · have hin : ∀ n ∈ [x.elem] ++ x.parts, 0 ≤ n ∧ n < (T.length : Int) := by
            intro n hn
            have := List.all_eq_true.1 he n hn
            simpa using this
          refine WO.con (conf_int h7 v6 _ _ (fun n => !scalarL (T.getD n.toNat default)) (o6.sl.ext e7) (by simp; omega) ?_) ?_
          · intro n hn h8 e8
            exact WV.func (may1_ok h8 h p3 _ T n (o3.ext e8) (st7.ext e8) (hin n hn))
          rintro _ h8 ⟨rfl, e8⟩
          refine go ?_
          have hnot : (!([x.elem] ++ x.parts).any fun n => !scalarL (T.getD n.toNat default)) = ([x.elem] ++ x.parts).all fun n => scalarL (T.getD n.toNat default) := by
            rw [List.not_any_eq_all_not]; simp
          refine WO.sp (fun hf => ?_) (fun hf => ?_) <;> refine go ?_ <;> refine rt ?_ <;> refine ⟨?_, (e16.trans e7).trans e8⟩ <;> rw [hnot] at hf <;> rw [List.singleton_append] at hf he <;> rw [mayL3 hb3, hc, he, hf, decide_eq_true hd'] <;> rfl
        · refine rt ?_
          refine ⟨?_, e16.trans e7⟩
          rw [List.singleton_append] at he
          rw [mayL3 hb3, hc, he, decide_eq_true hd']; rfl
      · refine rt ?_
        refine ⟨?_, e16⟩
        rw [mayL3 hb3, hc, decide_eq_false (show ¬ x.parts.length ≤ 4 by omega)]; rfl
    · refine rt ?_
      refine ⟨?_, e16⟩
      rw [mayL3 hb3, hc]; rfl
  refine WX.br (fun hb4 => ?_) (fun hb4 => ?_) <;> simp only [DB] at hb4 <;> refine go ?_
  · refine WO.sp (fun hc => ?_) (fun hc => ?_) <;> refine go ?_
    · refine WO.con (there_ok h4 va _ _ sv4 hv) ?_
      rintro _ h5 ⟨rfl, e5⟩
      have sv5 := sv4.ext e5
      have ss5 := ss4.ext e5
      have o8 := o8.ext e5
      refine go ?_
      refine WX.br (fun hd => ?_) (fun hd => ?_) <;> simp only [DB] at hd <;> refine go ?_
      · refine rt ?_
        exact ⟨by simp [one, mayL, hb4, hc, hd], e14.trans e5⟩
      have hin : ∀ n ∈ x.parts, 0 ≤ n ∧ n < (k : Int) := by
        intro n hn
        have := List.all_eq_true.1 hd n hn
        simpa using this
      refine WX.loopA [78, 79, 80, 14, 81, 82, 83, 84, 85, 86, 87, 12, 88, 77] (by kernel_rfl) (fun i => x.parts.length - i) (fun i t h1 => Ext h5 h1 ∧ tmGet t 77 = I i ∧ i ≤ x.parts.length ∧ ∃ v, tmGet t 12 = v ∧ OwnN h5 h1 v ((x.parts.take i).map fun n => sizes.getD n.toNat 0)) 0 ?_ ?_
      · exact ⟨Ext.refl _, sl_, Nat.zero_le _, _, sl_, .inl ⟨rfl, rfl⟩⟩
      · rintro i t h6 hsame ⟨e6, s77, hi, v, s12, o12⟩
        have sv6 := sv5.ext e6
        have ss6 := ss5.ext e6
        refine go ?_
        refine WX.br (fun he => ?_) (fun he => ?_) <;> simp only [DB] at he
        · have hi' : i < x.parts.length := by omega
          have hx2 := hin _ (getD_mem hi')
          refine go ?_
          refine WO.bl [sizes.getD (x.parts.getD i 0).toNat 0] ?_
          intro v7 h7 e7 o7
          refine go ?_
          refine WO.apN (o12.ext e7) o7.sl (e6.trans e7) (by simp; omega) ?_
          intro v8 h8 e8 o8
          refine go ?_
          refine loopK_normal (i + 1) (by omega) ⟨e8, sln, by omega, _, sl_, ?_⟩
          have e : (x.parts.take (i + 1)).map (fun n => sizes.getD n.toNat 0) = (x.parts.take i).map (fun n => sizes.getD n.toNat 0) ++ [sizes.getD (x.parts.getD i 0).toNat 0] := by
            rw [List.take_add_one, List.map_append]; simp [List.getD, List.getElem?_eq_getElem hi']
          rw [e]; exact o8
        · have : i = x.parts.length := by omega
          subst this
          rw [List.take_length] at o12
          have hall : ∀ y ∈ x.parts.map (fun n => sizes.getD n.toNat 0), 0 ≤ y ∧ y ≤ 1000 := by
            intro y hy
            obtain ⟨n, hn, rfl⟩ := List.mem_map.1 hy
            have := hin n hn
            exact hb0 _ (getD_mem (by omega))
          have o12 := o12.sl
          refine go ?_
          have hml : (x.parts.map fun n => sizes.getD n.toNat 0).length = x.parts.length := List.length_map ..
          have e36 := (e14.trans e5).trans e6
          have hr : ∀ {b1 b2 : Bool}, decide (0 < x.parts.length) = b1 → decide (x.parts.length ≤ 8) = b2 → Value.tuple #[I (mayL T x k sizes).1, .bool (mayL T x k sizes).2] =
              .tuple #[I (x.parts.map fun n => sizes.getD n.toNat 0).sum, .bool (b1 && b2 && decide ((x.parts.map fun n => sizes.getD n.toNat 0).sum ≤ 32))] := by
            intro b1 b2 h1 h2
            rw [mayL4 hb4, hc, hd, h1, h2]; rfl
          clear hb0 hp hx hxT o3 o8 o84 st4 ss4 sv4 ss5 sv5 ss6 sv6 hsame
          refine WO.sp (fun hf => ?_) (fun hf => ?_) <;> simp only [DB, List.length_map] at hf <;> refine go ?_
          · refine WO.con (sum_ok h6 v _ o12 (by simp; omega) hall) ?_
            rintro _ _ ⟨rfl, rfl⟩
            refine go ?_
            refine WO.sp (fun hg => ?_) (fun hg => ?_) <;> simp only [DB, List.length_map] at hg <;> refine go ?_
            · refine rt ?_
              refine ⟨?_, e36⟩
              rw [hr (decide_eq_true (by omega)) (decide_eq_true (by omega))]; rfl
            · refine rt ?_
              refine ⟨?_, e36⟩
              rw [hr (decide_eq_true (by omega)) (decide_eq_false (by omega))]; rfl
          · refine WO.con (sum_ok h6 v _ o12 (by simp; omega) hall) ?_
            rintro _ _ ⟨rfl, rfl⟩
            refine go ?_
            refine rt ?_
            refine ⟨?_, e36⟩
            rw [hr (decide_eq_false (by omega)) rfl]; rfl
    · refine rt ?_
      exact ⟨by simp [one, mayL, hb4, hc], e14⟩
  refine WX.br (fun hb5 => ?_) (fun hb5 => ?_) <;> simp only [DB] at hb5 <;> refine go ?_
  · refine WO.sp (fun hc => ?_) (fun hc => ?_) <;> refine go ?_
    · refine WO.bl [x.elem] ?_
      intro v5 h5 e5 o5
      have ss5 := ss4.ext e5
      have o8 := o8.ext e5
      refine go ?_
      refine WO.con (there_ok h5 v5 _ [x.elem] o5.sl (by simp)) ?_
      rintro _ h6 ⟨rfl, e6⟩
      have ss6 := ss5.ext e6
      have o8 := o8.ext e6
      have e36 := (e14.trans e5).trans e6
      have hr : ∀ {b1 b2 b3 : Bool}, thereL k [x.elem] = b1 → decide (1 ≤ x.many) = b2 → decide (x.many ≤ 16) = b3 → Value.tuple #[I (mayL T x k sizes).1, .bool (mayL T x k sizes).2] =
          (if b1 && b2 && b3 then .tuple #[I (x.many * sizes.getD x.elem.toNat 0), .bool (decide (x.many * sizes.getD x.elem.toNat 0 ≤ 32))] else .tuple #[I 0, .bool false]) := by
        intro b1 b2 b3 h1 h2 h3
        rw [mayL5 hb5, hc, h1, h2, h3]
        cases b1 <;> cases b2 <;> cases b3 <;> rfl
      have hin : thereL k [x.elem] = true → 0 ≤ x.elem ∧ x.elem < (k : Int) := by
        intro hd
        have := List.all_eq_true.1 hd x.elem (by simp)
        simpa using this
      have hs0 : ∀ n : Int, 0 ≤ n ∧ n < (k : Int) → 0 ≤ sizes.getD n.toNat 0 ∧ sizes.getD n.toNat 0 ≤ 1000 := fun n hn => hb0 _ (getD_mem (by omega))
      clear hb0 hp hx hxT o3 o84 st4 ss4 sv4 ss5 o5
      refine go ?_
      refine WO.sp (fun hd => ?_) (fun hd => ?_) <;> refine go ?_
      · have hin := hin hd
        have hs := hs0 _ hin
        refine WO.sp (fun he => ?_) (fun he => ?_) <;> simp only [DB] at he <;> refine go ?_
        · refine WX.br (fun hf => ?_) (fun hf => ?_) <;> simp only [DB] at hf <;> refine go ?_
          · refine rt ?_
            refine ⟨?_, e36⟩
            rw [hr hd (decide_eq_true he) (decide_eq_false (by omega))]; rfl
          · have hm1 : x.many * sizes.getD x.elem.toNat 0 ≤ 16 * 1000 := Int.mul_le_mul (by omega) hs.2 hs.1 (by omega)
            have hm0 : 0 ≤ x.many * sizes.getD x.elem.toNat 0 := Int.mul_nonneg (by omega) hs.1
            refine go ?_
            refine rt ?_
            refine ⟨?_, e36⟩
            rw [hr hd (decide_eq_true he) (decide_eq_true (by omega))]; rfl
        · refine rt ?_
          refine ⟨?_, e36⟩
          rw [hr hd (decide_eq_false (by omega)) rfl]; cases (decide (x.many ≤ 16)) <;> rfl
      · refine rt ?_
        refine ⟨?_, e36⟩
        rw [hr hd rfl rfl]; rfl
    · refine rt ?_
      refine ⟨?_, e14⟩
      rw [mayL5 hb5, hc]; rfl
  · refine rt ?_
    exact ⟨by simp [one, mayL, hb, hb2, hb3, hb4, hb5], e14⟩
end Go.Proofs.YtbhdfhiecgebnaaDoor
