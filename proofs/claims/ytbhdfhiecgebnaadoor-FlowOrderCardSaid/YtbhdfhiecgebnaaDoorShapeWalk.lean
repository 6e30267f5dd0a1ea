/- Programs as data: what the program's functions come to in the abstract machine. -/
import Derived.Test.YtbhdfhiecgebnaaDoorTypesWalk2
import Derived.Test.YtbhdfhiecgebnaaDoorShapeDef
namespace Go.Proofs.YtbhdfhiecgebnaaDoor
open Go.Am
set_option linter.unusedVariables false
set_option linter.unusedSimpArgs false
set_option maxHeartbeats 4000000

noncomputable def body61 : ACode := (.seq (.region [⟨some 4, none, (.mov (.const (.bool false)))⟩]) (.seq (.region [⟨some 5, none, (.mov (.tmp 0))⟩, ⟨some 6, none, (.bin .geq (.tmp 5) (.const (.int .i64 0)))⟩, ⟨some 7, none, (.mov (.tmp 6))⟩, ⟨some 8, some (7, true), (.mov (.tmp 0))⟩, ⟨some 9, some (7, true), (.mov (.tmp 1))⟩, ⟨some 10, some (7, true), (.bin .lss (.tmp 8) (.tmp 9))⟩, ⟨some 11, none, (.pick (.tmp 7) (.tmp 10) (.const (.bool false)))⟩, ⟨some 4, none, (.mov (.tmp 11))⟩]) .ret))
set_option maxRecDepth 100000 in
theorem tab61 : tb.code 61 = some ⟨12, [(4, none)], body61⟩ := by kernel_rfl
theorem below_ok (h : AHeap) (n m : Int) : WC Tryd.prog tb 61 [I n, I m] h fun r h' => r = .bool (belowL n m) ∧ h = h' := by
  refine WC.of (nostub 61) tab61 ?_; simp only [mkTm, Nat.zero_add, Nat.reduceAdd]
  refine go ?_
  repeat' (first | (refine WX.br (fun hb => ?_) (fun hb => ?_) <;> (try simp only [DB] at hb) <;> refine go ?_) | (refine WO.sp (fun hb => ?_) (fun hb => ?_) <;> (try simp only [DB] at hb) <;> refine go ?_))
  all_goals (refine rt ?_; exact ⟨by simp [one, belowL, *] <;> omega, rfl⟩)

noncomputable def body123 : ACode := (.seq (.region [⟨some 3, none, (.mov (.const (.bool false)))⟩]) (.seq (.region [⟨some 4, none, (.mov (.tmp 0))⟩, ⟨some 5, none, (.load false 1 (.tmp 1))⟩, ⟨some 6, none, (.call (.func 61) [(.tmp 4), (.tmp 5)])⟩, ⟨some 7, none, (.un .not (.tmp 6))⟩, ⟨some 3, none, (.mov (.tmp 7))⟩]) .ret))
set_option maxRecDepth 100000 in
theorem tab123 : tb.code 123 = some ⟨8, [(3, none)], body123⟩ := by kernel_rfl
theorem all1_ok (h h0 : AHeap) (p : Value) (n m : Int) (o : OwnC h0 h p [I m]) : WC Tryd.prog tb 123 [I n, p] h fun r h' => r = .bool (!belowL n m) ∧ Ext h h' := by
  refine WC.of (nostub 123) tab123 ?_; simp only [mkTm, Nat.zero_add, Nat.reduceAdd]
  refine go ?_
  refine WO.con (below_ok h n m) ?_
  rintro _ _ ⟨rfl, rfl⟩
  refine go ?_
  refine rt ?_
  exact ⟨rfl, Ext.refl h⟩

noncomputable def body108 : ACode := (.seq (.region [⟨some 3, none, (.box (.tmp 1))⟩, ⟨some 4, none, (.mov (.const (.bool false)))⟩]) (.seq (.region [⟨some 5, none, (.mov (.tmp 0))⟩, ⟨some 6, none, (.mkFunc (.func 123) [] [(.tmp 3)])⟩, ⟨some 7, none, (.call (.func 103) [(.tmp 5), (.tmp 6)])⟩, ⟨some 8, none, (.un .not (.tmp 7))⟩, ⟨some 4, none, (.mov (.tmp 8))⟩]) .ret))
set_option maxRecDepth 100000 in
theorem tab108 : tb.code 108 = some ⟨9, [(4, none)], body108⟩ := by kernel_rfl
theorem all_ok (h : AHeap) (v : Value) (m : Int) (l : List Int) (s : SlI h v l) (hl : (l.length : Int) ≤ 9223372036854775807) : WC Tryd.prog tb 108 [v, I m] h fun r h' => r = .bool (allL l m) ∧ Ext h h' := by
  refine WC.of (nostub 108) tab108 ?_; simp only [mkTm, Nat.zero_add, Nat.reduceAdd]
  refine go ?_
  refine WO.bx ?_
  intro p h1 e1 o1
  have s1 := s.ext e1
  refine go ?_
  refine WO.con (conf_int h1 v _ l (fun n => !belowL n m) s1 hl ?_) ?_
  · intro x hx h2 e2
    exact WV.func (all1_ok h2 h p x m (o1.ext e2))
  rintro _ h2 ⟨rfl, e2⟩
  refine go ?_
  refine rt ?_
  refine ⟨?_, e1.trans e2⟩
  show Value.bool _ = _
  rw [List.not_any_eq_all_not]; simp [allL]

noncomputable def body109 : ACode := (.seq (.region [⟨some 2, none, (.box (.tmp 0))⟩, ⟨some 3, none, (.box (.tmp 1))⟩, ⟨some 4, none, (.mov (.const (.bool false)))⟩]) (.seq (.seq (.region [⟨some 5, none, (.fld 0 (.tmp 2))⟩, ⟨some 6, none, (.load false 1 (.tmp 5))⟩]) (.block 0 (.seq (.seq (.region [⟨some 8, none, (.bin .eql (.tmp 6) (.const (.int .u8 3)))⟩, ⟨some 7, none, (.mov (.tmp 8))⟩]) (.cond (.tmp 7) .skip (.region [⟨some 9, none, (.bin .eql (.tmp 6) (.const (.int .u8 18)))⟩, ⟨some 7, none, (.mov (.tmp 9))⟩]))) (.cond (.tmp 7) (.seq (.region [⟨some 10, none, (.fld 4 (.tmp 2))⟩, ⟨some 11, none, (.load false 1 (.tmp 10))⟩, ⟨some 12, none, (.bin .geq (.tmp 11) (.const (.int .i64 0)))⟩, ⟨some 13, none, (.mov (.tmp 12))⟩, ⟨some 14, some (13, true), (.fld 4 (.tmp 2))⟩, ⟨some 15, some (13, true), (.load false 1 (.tmp 14))⟩, ⟨some 16, some (13, true), (.fld 1 (.tmp 3))⟩, ⟨some 17, some (13, true), (.load false 1 (.tmp 16))⟩, ⟨some 18, some (13, true), (.bin .lss (.tmp 15) (.tmp 17))⟩, ⟨some 19, none, (.pick (.tmp 13) (.tmp 18) (.const (.bool false)))⟩, ⟨some 4, none, (.mov (.tmp 19))⟩]) .ret) (.seq (.region [⟨some 21, none, (.bin .eql (.tmp 6) (.const (.int .u8 14)))⟩, ⟨some 20, none, (.mov (.tmp 21))⟩]) (.cond (.tmp 20) (.seq (.region [⟨some 22, none, (.fld 4 (.tmp 2))⟩, ⟨some 23, none, (.load false 1 (.tmp 22))⟩, ⟨some 24, none, (.bin .geq (.tmp 23) (.const (.int .i64 0)))⟩, ⟨some 25, none, (.mov (.tmp 24))⟩, ⟨some 26, some (25, true), (.fld 4 (.tmp 2))⟩, ⟨some 27, some (25, true), (.load false 1 (.tmp 26))⟩, ⟨some 28, some (25, true), (.bin .lss (.tmp 27) (.const (.int .i64 8)))⟩, ⟨some 29, none, (.pick (.tmp 25) (.tmp 28) (.const (.bool false)))⟩, ⟨some 4, none, (.mov (.tmp 29))⟩]) .ret) .skip)))))) (.seq (.region [⟨some 4, none, (.mov (.const (.bool true)))⟩]) .ret)))
set_option maxRecDepth 100000 in
theorem tab109 : tb.code 109 = some ⟨30, [(4, none)], body109⟩ := by kernel_rfl
theorem number_ok (h : AHeap) (x : LIns) (va vf : Value) (s : LSz) :
    WC Tryd.prog tb 109 [.agg #[.int .u8 x.op, I x.ty, I x.a, I x.b, I x.n, va, vf], .agg #[I s.types, I s.funcs, I s.regs, I s.blocks]] h fun r h' => r = .bool (numberL x s) ∧ Ext h h' := by
  refine WC.of (nostub 109) tab109 ?_; simp only [mkTm, Nat.zero_add, Nat.reduceAdd]
  refine go ?_
  refine WO.bx ?_
  intro p2 h1 e1 o1
  refine WO.bx ?_
  intro p3 h2 e2 o2
  have o1 := o1.ext e2
  refine go ?_
  repeat' (first | (refine WX.br (fun hb => ?_) (fun hb => ?_) <;> (try simp only [DB] at hb) <;> refine go ?_) | (refine WO.sp (fun hb => ?_) (fun hb => ?_) <;> (try simp only [DB] at hb) <;> refine go ?_))
  all_goals (refine rt ?_; exact ⟨by simp [one, numberL, *] <;> omega, e1.trans e2⟩)

noncomputable def body107 : ACode := (.seq (.region [⟨some 2, none, (.alloc [(.bool false), (.bool false), (.bool false), (.bool false), (.bool false), (.bool false)])⟩]) (.seq (.seq (.region [⟨some 3, none, (.mov (.tmp 0))⟩, ⟨some 4, none, (.conv .i64 (.tmp 3))⟩, ⟨some 5, none, (.bin .lss (.tmp 4) (.const (.int .i64 23)))⟩]) (.cond (.tmp 5) (.seq (.region [⟨some 6, none, (.mov (.tmp 0))⟩, ⟨some 7, none, (.idxArr 23 6 (.global 0) (.tmp 6))⟩, ⟨some 8, none, (.load true 6 (.tmp 7))⟩, ⟨none, none, (.store 6 (.tmp 2) (.tmp 8))⟩]) .ret) .skip)) (.seq (.region [⟨some 9, none, (.build [(.bool false), (.bool false), (.bool false), (.bool false), (.bool false), (.bool false)] [])⟩, ⟨none, none, (.store 6 (.tmp 2) (.tmp 9))⟩]) .ret)))
set_option maxRecDepth 100000 in
theorem tab107 : tb.code 107 = some ⟨10, [(2, some (true, 6))], body107⟩ := by kernel_rfl
theorem of_ok (h : AHeap) (op : Int) (tb : Tbl h) (h0 : 0 ≤ op) (h255 : op ≤ 255) :
    WC Tryd.prog Go.Proofs.YtbhdfhiecgebnaaDoor.tb 107 [.int .u8 op] h fun r h' => r = .agg (hasV (hasOf op)).toArray ∧ Ext h h' := by
  refine WC.of (nostub 107) tab107 ?_; simp only [mkTm, Nat.zero_add, Nat.reduceAdd]
  refine go ?_
  refine WO.al ?_
  intro p h1 e1 o1
  have t1 := (tb.ext e1).1
  refine go ?_
  refine WX.br (fun hb => ?_) (fun hb => ?_) <;> simp only [DB] at hb
  · have ht := tbl_at op.toNat (by omega)
    obtain ⟨i, rfl⟩ : ∃ i : Nat, op = i := ⟨op.toNat, by omega⟩
    rw [Int.toNat_natCast] at ht
    refine go ?_
    refine WO.stC0 o1 e1 ?_
    intro h2 e2 o2 _
    refine go ?_
    refine rt ?_
    exact ⟨rfl, e2⟩
  · refine go ?_
    refine WO.stC0 o1 e1 ?_
    intro h2 e2 o2 _
    refine go ?_
    refine rt ?_
    refine ⟨?_, e2⟩
    unfold hasOf
    have hl : hasT.length ≤ op.toNat := by simp [hasT]; omega
    rw [List.getD_eq_getElem?_getD, List.getElem?_eq_none hl]; rfl

noncomputable def body54_0 : ACode := (.seq (.region [⟨some 9, none, (.bin .lss (.tmp 8) (.tmp 7))⟩]) (.seq (.cond (.tmp 9) .skip (.exit 0)) (.seq (.block 1 (.seq (.region [⟨some 10, none, (.idx 5 (.tmp 6) (.tmp 8))⟩, ⟨some 11, none, (.load true 5 (.tmp 10))⟩, ⟨some 4, none, (.alloc [(.slice none 0 0), (.int .u8 0), (.int .i64 0), (.int .i64 0), (.int .i64 0)])⟩, ⟨none, none, (.store 5 (.tmp 4) (.tmp 11))⟩]) (.region [⟨some 12, none, (.mov (.tmp 2))⟩, ⟨some 13, none, (.fld 0 (.tmp 4))⟩, ⟨some 14, none, (.load false 1 (.tmp 13))⟩, ⟨some 15, none, (.len (.tmp 14))⟩, ⟨some 16, none, (.bin .add (.tmp 12) (.tmp 15))⟩, ⟨some 2, none, (.mov (.tmp 16))⟩]))) (.region [⟨some 17, none, (.bin .add (.tmp 8) (.const (.int .i64 1)))⟩, ⟨some 8, none, (.mov (.tmp 17))⟩]))))
noncomputable def body54 : ACode := (.seq (.region [⟨some 1, none, (.box (.tmp 0))⟩, ⟨some 2, none, (.mov (.const (.int .i64 0)))⟩]) (.seq (.seq (.region [⟨some 5, none, (.fld 1 (.tmp 1))⟩, ⟨some 6, none, (.load false 1 (.tmp 5))⟩, ⟨some 7, none, (.len (.tmp 6))⟩, ⟨some 8, none, (.mov (.const (.int .i64 0)))⟩]) (.block 0 (.loop body54_0))) (.seq (.region [⟨some 18, none, (.mov (.tmp 2))⟩, ⟨some 2, none, (.mov (.tmp 18))⟩]) .ret)))
set_option maxRecDepth 100000 in
theorem tab54 : tb.code 54 = some ⟨19, [(2, none)], body54⟩ := by kernel_rfl
theorem many_ok (h : AHeap) (sig : Int) (vb : Value) (l : List LBlk) (s : SlB h vb l) (hl : l.length ≤ 1000) (hb : ∀ b ∈ l, b.ins.length ≤ 1000) :
    WC Tryd.prog tb 54 [.agg #[I sig, vb]] h fun r h' => r = I (manyL l) ∧ Ext h h' := by
  refine WC.of (nostub 54) tab54 ?_; simp only [mkTm, Nat.zero_add, Nat.reduceAdd]
  refine go ?_
  refine WO.bx ?_
  intro p h1 e1 o1
  have s1 := s.ext e1
  refine go ?_
  refine WX.loopA [9, 10, 11, 4, 12, 13, 14, 15, 16, 2, 17, 8] (by kernel_rfl) (fun i => l.length - i) (fun i t h2 => Ext h1 h2 ∧ tmGet t 8 = I i ∧ i ≤ l.length ∧ tmGet t 2 = I (manyL (l.take i)) ∧ 0 ≤ manyL (l.take i) ∧ manyL (l.take i) ≤ 1000 * i) 0 ?_ ?_
  · exact ⟨Ext.refl _, sl_, Nat.zero_le _, sl_, by simp [manyL], by simp [manyL]⟩
  rintro i t h2 hsame ⟨e2, s8, hi, s2, hm, hn⟩
  have s3 := s1.ext e2
  refine go ?_
  refine WX.br (fun hc => ?_) (fun hc => ?_) <;> simp only [DB] at hc
  · have hi' : i < l.length := by omega
    obtain ⟨cs, ⟨vi, rfl, si, hsi⟩, pc, hs⟩ := slr_at s3 hi'
    obtain ⟨_, _, _, rfl⟩ := slr_shape si
    have hbi : (l.getD i default).ins.length ≤ 1000 := hb _ (by simp [List.getD, List.getElem?_eq_getElem hi'])
    refine go ?_
    refine WO.al ?_
    intro p4 h3 e3 o3
    refine WO.stC0 o3 e3 ?_
    intro h4 e4 o4 _
    have si := SlN.ext si e4
    refine go ?_
    have e : manyL (l.take (i + 1)) = manyL (l.take i) + ((l.getD i default).ins.length : Int) := by
      unfold manyL
      rw [List.take_add_one, List.map_append, List.sum_append]; simp [List.getD, List.getElem?_eq_getElem hi']
    exact loopK_normal (i + 1) (by omega) ⟨e2.trans e4, sln, by omega, by rw [e]; exact sl_, by omega, by omega⟩
  · refine go ?_
    refine rt ?_
    have : i = l.length := by omega
    subst this
    exact ⟨by simp [one], e1.trans e2⟩
end Go.Proofs.YtbhdfhiecgebnaaDoor
