/- Programs that are not great: what the document's measure comes to in the abstract machine. -/
import Derived.Test.YtbhdfhiecgebnaaDoorShapeCheck
namespace Go.Proofs.YtbhdfhiecgebnaaDoor
open Go.Am
set_option linter.unusedVariables false
set_option linter.unusedSimpArgs false
set_option maxHeartbeats 4000000

noncomputable def body24_0 : ACode := (.seq (.seq (.region [⟨some 4, none, (.mov (.tmp 3))⟩, ⟨some 5, none, (.mov (.tmp 0))⟩, ⟨some 6, none, (.len (.tmp 5))⟩, ⟨some 7, none, (.bin .lss (.tmp 4) (.tmp 6))⟩, ⟨some 8, none, (.mov (.tmp 7))⟩, ⟨some 9, some (8, true), (.mov (.tmp 3))⟩, ⟨some 10, some (8, true), (.bin .lss (.tmp 9) (.const (.int .i64 30)))⟩, ⟨some 11, none, (.pick (.tmp 8) (.tmp 10) (.const (.bool false)))⟩]) (.cond (.tmp 11) .skip (.exit 0))) (.seq (.block 1 (.seq (.region [⟨some 14, none, (.mov (.tmp 0))⟩, ⟨some 15, none, (.mov (.tmp 3))⟩, ⟨some 16, none, (.idx 4 (.tmp 14) (.tmp 15))⟩, ⟨some 17, none, (.fld 3 (.tmp 16))⟩, ⟨some 18, none, (.load false 1 (.tmp 17))⟩, ⟨some 19, none, (.len (.tmp 18))⟩, ⟨some 20, none, (.bin .gtr (.tmp 19) (.const (.int .i64 20)))⟩]) (.cond (.tmp 20) (.seq (.region [⟨some 2, none, (.mov (.const (.bool true)))⟩]) .ret) .skip))) (.region [⟨some 12, none, (.mov (.tmp 3))⟩, ⟨some 13, none, (.bin .add (.tmp 12) (.const (.int .i64 1)))⟩, ⟨some 3, none, (.mov (.tmp 13))⟩])))
noncomputable def body24 : ACode := (.seq (.region [⟨some 2, none, (.mov (.const (.bool false)))⟩]) (.seq (.seq (.region [⟨some 3, none, (.mov (.const (.int .i64 0)))⟩]) (.block 0 (.loop body24_0))) (.seq (.region [⟨some 21, none, (.mov (.tmp 0))⟩, ⟨some 22, none, (.len (.tmp 21))⟩, ⟨some 23, none, (.bin .gtr (.tmp 22) (.const (.int .i64 20)))⟩, ⟨some 2, none, (.mov (.tmp 23))⟩]) .ret)))
set_option maxRecDepth 100000 in
theorem tab24 : tb.code 24 = some ⟨24, [(2, none)], body24⟩ := by kernel_rfl
theorem great3_ok (h : AHeap) (vt : Value) (T : List LType) (st : SlT h vt T) (hT : (T.length : Int) ≤ 9223372036854775807) :
    WC Tryd.prog tb 24 [vt] h fun r h' => (r = .bool true ∨ r = .bool false ∧ T.length ≤ 20 ∧ ∀ x ∈ T, x.parts.length ≤ 20) ∧ h = h' := by
  refine WC.of (nostub 24) tab24 ?_; simp only [mkTm, Nat.zero_add, Nat.reduceAdd]
  refine go ?_
  refine WX.loopA [4, 5, 6, 7, 8, 9, 10, 11, 14, 15, 16, 17, 18, 19, 20, 2, 12, 13, 3] (by kernel_rfl) (fun i => T.length - i) (fun i t h1 => h = h1 ∧ tmGet t 3 = I i ∧ i ≤ T.length ∧ ∀ j, j < i → (T.getD j default).parts.length ≤ 20) 0 ?_ ?_
  · exact ⟨rfl, sl_, Nat.zero_le _, fun j hj => absurd hj (Nat.not_lt_zero _)⟩
  rintro i t _ hsame ⟨rfl, s3, hi, hm⟩
  have fin : (20 < (T.length : Int)) ∨ (i = T.length ∧ T.length ≤ 20) ∨ i < T.length := by omega
  refine go ?_
  refine WO.sp (fun hb => ?_) (fun hb => ?_) <;> simp only [DB] at hb <;> refine go ?_
  · obtain ⟨cs, ⟨va, rfl, sa, hla⟩, pc, hs⟩ := slt_at st (show i < T.length by omega)
    refine WX.br (fun hc => ?_) (fun hc => ?_) <;> simp only [DB] at hc
    · refine go ?_
      refine WX.br (fun hd => ?_) (fun hd => ?_) <;> simp only [DB] at hd
      · refine go ?_
        refine rt ?_
        exact ⟨.inl rfl, rfl⟩
      · refine go ?_
        refine loopK_normal (i + 1) (by omega) ⟨rfl, sln, by omega, fun j hj => ?_⟩
        by_cases e : j = i
        · subst e; omega
        · exact hm j (by omega)
    · refine go ?_
      refine rt ?_
      refine ⟨.inl ?_, rfl⟩
      rw [decide_eq_true (show (20 : Int) < T.length by omega)]; rfl
  · refine rt ?_
    refine ⟨?_, rfl⟩
    by_cases hg : 20 < (T.length : Int)
    · left; rw [decide_eq_true hg]; rfl
    · right
      refine ⟨by rw [decide_eq_false hg]; rfl, by omega, fun x hx => ?_⟩
      obtain ⟨j, hj, rfl⟩ := mem_getDR hx
      exact hm j (by omega)

theorem small_of {T : List LType} {F : List LFn} (h1 : T.length ≤ 20) (h2 : ∀ x ∈ T, x.parts.length ≤ 20) (h3 : F.length ≤ 10) (h4 : ∀ f ∈ F, f.blocks.length ≤ 20 ∧ ∀ b ∈ f.blocks, b.ins.length ≤ 1000) : Small T F :=
  ⟨by omega, fun x hx => by have := h2 x hx; omega, by omega, fun f hf => by have := (h4 f hf).1; omega, fun f hf => (h4 f hf).2⟩

noncomputable def body8_0 : ACode := (.seq (.seq (.region [⟨some 62, none, (.mov (.tmp 9))⟩, ⟨some 63, none, (.mov (.tmp 8))⟩, ⟨some 64, none, (.len (.tmp 63))⟩, ⟨some 65, none, (.bin .lss (.tmp 62) (.tmp 64))⟩]) (.cond (.tmp 65) .skip (.exit 4))) (.seq (.block 5 (.seq (.region [⟨some 68, none, (.mov (.tmp 8))⟩, ⟨some 69, none, (.mov (.tmp 9))⟩, ⟨some 70, none, (.idx 7 (.tmp 68) (.tmp 69))⟩, ⟨some 71, none, (.fld 5 (.tmp 70))⟩, ⟨some 72, none, (.load false 1 (.tmp 71))⟩, ⟨some 73, none, (.len (.tmp 72))⟩, ⟨some 74, none, (.bin .gtr (.tmp 73) (.const (.int .i64 20)))⟩, ⟨some 75, none, (.mov (.tmp 74))⟩, ⟨some 76, some (75, false), (.mov (.tmp 8))⟩, ⟨some 77, some (75, false), (.mov (.tmp 9))⟩, ⟨some 78, some (75, false), (.idx 7 (.tmp 76) (.tmp 77))⟩, ⟨some 79, some (75, false), (.fld 6 (.tmp 78))⟩, ⟨some 80, some (75, false), (.load false 1 (.tmp 79))⟩, ⟨some 81, some (75, false), (.len (.tmp 80))⟩, ⟨some 82, some (75, false), (.bin .gtr (.tmp 81) (.const (.int .i64 20)))⟩, ⟨some 83, none, (.pick (.tmp 75) (.const (.bool true)) (.tmp 82))⟩]) (.cond (.tmp 83) (.seq (.region [⟨some 4, none, (.mov (.const (.bool true)))⟩]) .ret) .skip))) (.region [⟨some 66, none, (.mov (.tmp 9))⟩, ⟨some 67, none, (.bin .add (.tmp 66) (.const (.int .i64 1)))⟩, ⟨some 9, none, (.mov (.tmp 67))⟩])))
noncomputable def body8_1 : ACode := (.seq (.seq (.region [⟨some 34, none, (.mov (.tmp 7))⟩, ⟨some 35, none, (.fld 1 (.tmp 2))⟩, ⟨some 36, none, (.load false 1 (.tmp 35))⟩, ⟨some 37, none, (.mov (.tmp 6))⟩, ⟨some 38, none, (.idx 2 (.tmp 36) (.tmp 37))⟩, ⟨some 39, none, (.fld 1 (.tmp 38))⟩, ⟨some 40, none, (.load false 1 (.tmp 39))⟩, ⟨some 41, none, (.len (.tmp 40))⟩, ⟨some 42, none, (.bin .lss (.tmp 34) (.tmp 41))⟩]) (.cond (.tmp 42) .skip (.exit 2))) (.seq (.block 3 (.seq (.region [⟨some 45, none, (.fld 1 (.tmp 2))⟩, ⟨some 46, none, (.load false 1 (.tmp 45))⟩, ⟨some 47, none, (.mov (.tmp 6))⟩, ⟨some 48, none, (.idx 2 (.tmp 46) (.tmp 47))⟩, ⟨some 49, none, (.fld 1 (.tmp 48))⟩, ⟨some 50, none, (.load false 1 (.tmp 49))⟩, ⟨some 51, none, (.mov (.tmp 7))⟩, ⟨some 52, none, (.idx 5 (.tmp 50) (.tmp 51))⟩, ⟨some 53, none, (.fld 0 (.tmp 52))⟩, ⟨some 54, none, (.load false 1 (.tmp 53))⟩, ⟨some 8, none, (.mov (.tmp 54))⟩]) (.seq (.region [⟨some 55, none, (.mov (.tmp 5))⟩, ⟨some 56, none, (.mov (.tmp 8))⟩, ⟨some 57, none, (.len (.tmp 56))⟩, ⟨some 58, none, (.bin .add (.tmp 55) (.tmp 57))⟩, ⟨some 5, none, (.mov (.tmp 58))⟩]) (.seq (.seq (.region [⟨some 59, none, (.mov (.tmp 5))⟩, ⟨some 60, none, (.mov (.tmp 1))⟩, ⟨some 61, none, (.bin .gtr (.tmp 59) (.tmp 60))⟩]) (.cond (.tmp 61) (.seq (.region [⟨some 4, none, (.mov (.const (.bool true)))⟩]) .ret) .skip)) (.seq (.region [⟨some 9, none, (.mov (.const (.int .i64 0)))⟩]) (.block 4 (.loop body8_0))))))) (.region [⟨some 43, none, (.mov (.tmp 7))⟩, ⟨some 44, none, (.bin .add (.tmp 43) (.const (.int .i64 1)))⟩, ⟨some 7, none, (.mov (.tmp 44))⟩])))
noncomputable def body8_2 : ACode := (.seq (.seq (.region [⟨some 19, none, (.mov (.tmp 6))⟩, ⟨some 20, none, (.fld 1 (.tmp 2))⟩, ⟨some 21, none, (.load false 1 (.tmp 20))⟩, ⟨some 22, none, (.len (.tmp 21))⟩, ⟨some 23, none, (.bin .lss (.tmp 19) (.tmp 22))⟩]) (.cond (.tmp 23) .skip (.exit 0))) (.seq (.block 1 (.seq (.seq (.region [⟨some 26, none, (.fld 1 (.tmp 2))⟩, ⟨some 27, none, (.load false 1 (.tmp 26))⟩, ⟨some 28, none, (.mov (.tmp 6))⟩, ⟨some 29, none, (.idx 2 (.tmp 27) (.tmp 28))⟩, ⟨some 30, none, (.fld 1 (.tmp 29))⟩, ⟨some 31, none, (.load false 1 (.tmp 30))⟩, ⟨some 32, none, (.len (.tmp 31))⟩, ⟨some 33, none, (.bin .gtr (.tmp 32) (.const (.int .i64 20)))⟩]) (.cond (.tmp 33) (.seq (.region [⟨some 4, none, (.mov (.const (.bool true)))⟩]) .ret) .skip)) (.seq (.region [⟨some 7, none, (.mov (.const (.int .i64 0)))⟩]) (.block 2 (.loop body8_1))))) (.region [⟨some 24, none, (.mov (.tmp 6))⟩, ⟨some 25, none, (.bin .add (.tmp 24) (.const (.int .i64 1)))⟩, ⟨some 6, none, (.mov (.tmp 25))⟩])))
noncomputable def body8 : ACode := (.seq (.region [⟨some 2, none, (.box (.tmp 0))⟩, ⟨some 4, none, (.mov (.const (.bool false)))⟩]) (.seq (.seq (.region [⟨some 10, none, (.fld 0 (.tmp 2))⟩, ⟨some 11, none, (.load false 1 (.tmp 10))⟩, ⟨some 12, none, (.call (.func 24) [(.tmp 11)])⟩, ⟨some 13, none, (.mov (.tmp 12))⟩, ⟨some 14, some (13, false), (.fld 1 (.tmp 2))⟩, ⟨some 15, some (13, false), (.load false 1 (.tmp 14))⟩, ⟨some 16, some (13, false), (.len (.tmp 15))⟩, ⟨some 17, some (13, false), (.bin .gtr (.tmp 16) (.const (.int .i64 10)))⟩, ⟨some 18, none, (.pick (.tmp 13) (.const (.bool true)) (.tmp 17))⟩]) (.cond (.tmp 18) (.seq (.region [⟨some 4, none, (.mov (.const (.bool true)))⟩]) .ret) .skip)) (.seq (.region [⟨some 5, none, (.mov (.const (.int .i64 0)))⟩]) (.seq (.seq (.region [⟨some 6, none, (.mov (.const (.int .i64 0)))⟩]) (.block 0 (.loop body8_2))) (.seq (.region [⟨some 4, none, (.mov (.const (.bool false)))⟩]) .ret)))))
set_option maxRecDepth 100000 in
theorem tab8 : tb.code 8 = some ⟨84, [(4, none)], body8⟩ := by kernel_rfl
theorem great_ok (h : AHeap) (vt vf : Value) (T : List LType) (F : List LFn) (most : Int) (hmost : 0 ≤ most ∧ most ≤ 1000) (st : SlT h vt T) (sf : SlF h vf F) (hT : (T.length : Int) ≤ 9223372036854775807) (hF : (F.length : Int) ≤ 9223372036854775807) :
    WC Tryd.prog tb 8 [.agg #[vt, vf], I most] h fun r h' => (r = .bool true ∨ r = .bool false ∧ Small T F) ∧ Ext h h' := by
  refine WC.of (nostub 8) tab8 ?_; simp only [mkTm, Nat.zero_add, Nat.reduceAdd]
  refine go ?_
  refine WO.bx ?_
  intro p h1 e1 o1
  have st1 := st.ext e1
  have sf1 := SlF.ext sf e1
  refine go ?_
  refine WO.con (great3_ok h1 vt T st1 hT) ?_
  rintro r _ ⟨hr, rfl⟩
  refine go ?_
  rcases hr with rfl | ⟨rfl, hT2, hp2⟩
  · refine go ?_
    refine rt ?_
    exact ⟨.inl rfl, e1⟩
  refine go ?_
  refine WX.br (fun hb => ?_) (fun hb => ?_) <;> simp only [DB] at hb <;> refine go ?_
  · refine rt ?_
    exact ⟨.inl rfl, e1⟩
  refine WX.loopA [19, 20, 21, 22, 23, 26, 27, 28, 29, 30, 31, 32, 33, 4, 7, 34, 35, 36, 37, 38, 39, 40, 41, 42, 45, 46, 47, 48, 49, 50, 51, 52, 53, 54, 8, 55, 56, 57, 58, 5, 59, 60, 61, 4, 9, 62, 63, 64, 65, 68, 69, 70, 71, 72, 73, 74, 75, 76, 77, 78, 79, 80, 81, 82, 83, 4, 66, 67, 9, 43, 44, 7, 24, 25, 6] (by kernel_rfl) (fun i => F.length - i) (fun i t h2 => h1 = h2 ∧ tmGet t 6 = I i ∧ i ≤ F.length ∧ (∃ n, tmGet t 5 = I n ∧ 0 ≤ n ∧ n ≤ most) ∧ ∀ j, j < i → (F.getD j default).blocks.length ≤ 20 ∧ ∀ b ∈ (F.getD j default).blocks, b.ins.length ≤ 1000) 0 ?_ ?_
  · exact ⟨rfl, sl_, Nat.zero_le _, ⟨0, sl_, by omega, by omega⟩, fun j hj => absurd hj (Nat.not_lt_zero _)⟩
  rintro i t _ hsame ⟨rfl, s6, hi, ⟨n, s5, hn0, hn⟩, hm⟩
  refine go ?_
  refine WX.br (fun hc => ?_) (fun hc => ?_) <;> simp only [DB] at hc
  · have hi' : i < F.length := by omega
    obtain ⟨csF, ⟨vb, rfl, sb, hlb⟩, pcF, hsF⟩ := slr_at sf1 hi'
    refine go ?_
    refine WX.br (fun hd => ?_) (fun hd => ?_) <;> simp only [DB] at hd <;> refine go ?_
    · refine rt ?_
      exact ⟨.inl rfl, e1⟩
    refine WX.loopA [34, 35, 36, 37, 38, 39, 40, 41, 42, 45, 46, 47, 48, 49, 50, 51, 52, 53, 54, 8, 55, 56, 57, 58, 5, 59, 60, 61, 4, 9, 62, 63, 64, 65, 68, 69, 70, 71, 72, 73, 74, 75, 76, 77, 78, 79, 80, 81, 82, 83, 4, 66, 67, 9, 43, 44, 7] (by kernel_rfl) (fun k => (F.getD i default).blocks.length - k) (fun k t h2 => h1 = h2 ∧ tmGet t 7 = I k ∧ k ≤ (F.getD i default).blocks.length ∧ (∃ n, tmGet t 5 = I n ∧ 0 ≤ n ∧ n ≤ most) ∧ ∀ j, j < k → ((F.getD i default).blocks.getD j default).ins.length ≤ 1000) 0 ?_ ?_
    · exact ⟨rfl, sl_, Nat.zero_le _, ⟨n, sl_, hn0, hn⟩, fun j hj => absurd hj (Nat.not_lt_zero _)⟩
    rintro k t2 _ hsame2 ⟨rfl, s7, hk, ⟨n2, s5b, hn20, hn2⟩, hm2⟩
    refine go ?_
    refine WX.br (fun he => ?_) (fun he => ?_) <;> simp only [DB] at he
    · have hk' : k < (F.getD i default).blocks.length := by omega
      obtain ⟨csB, ⟨vi, rfl, si, hli⟩, pcB, hsB⟩ := slr_at sb hk'
      refine go ?_
      refine WX.br (fun hf => ?_) (fun hf => ?_) <;> simp only [DB] at hf <;> refine go ?_
      · refine rt ?_
        exact ⟨.inl rfl, e1⟩
      refine WX.loopA [62, 63, 64, 65, 68, 69, 70, 71, 72, 73, 74, 75, 76, 77, 78, 79, 80, 81, 82, 83, 4, 66, 67, 9] (by kernel_rfl) (fun j => ((F.getD i default).blocks.getD k default).ins.length - j) (fun j t h2 => h1 = h2 ∧ tmGet t 9 = I j ∧ j ≤ ((F.getD i default).blocks.getD k default).ins.length) 0 ?_ ?_
      · exact ⟨rfl, sl_, Nat.zero_le _⟩
      rintro j t3 _ hsame3 ⟨rfl, s9, hj⟩
      refine go ?_
      refine WX.br (fun hg => ?_) (fun hg => ?_) <;> simp only [DB] at hg
      · have hj' : j < ((F.getD i default).blocks.getD k default).ins.length := by omega
        obtain ⟨csI, ⟨va, vfr, rfl, sa, sfr, hla, hlf, ho⟩, pcI, hsI⟩ := slr_at si hj'
        refine go ?_
        refine WO.sp (fun hh => ?_) (fun hh => ?_) <;> simp only [DB] at hh <;> refine go ?_
        · refine rt ?_
          exact ⟨.inl rfl, e1⟩
        refine WX.br (fun hh2 => ?_) (fun hh2 => ?_) <;> simp only [DB] at hh2 <;> refine go ?_
        · refine rt ?_
          exact ⟨.inl rfl, e1⟩
        · exact loopK_normal (j + 1) (by omega) ⟨rfl, sln, by omega⟩
      · refine go ?_
        refine loopK_normal (k + 1) (by omega) ⟨rfl, sln, by omega, ⟨n2 + (((F.getD i default).blocks.getD k default).ins.length : Int), sl_, by omega, by omega⟩, fun q hq => ?_⟩
        by_cases e : q = k
        · subst e; omega
        · exact hm2 q (by omega)
    · refine go ?_
      refine loopK_normal (i + 1) (by omega) ⟨rfl, sln, by omega, ⟨n2, sl_, hn20, hn2⟩, fun q hq => ?_⟩
      by_cases e : q = i
      · subst e
        refine ⟨by omega, fun b hb => ?_⟩
        obtain ⟨y, hy, rfl⟩ := mem_getDR hb
        exact hm2 y (by omega)
      · exact hm q (by omega)
  · refine go ?_
    refine rt ?_
    refine ⟨.inr ⟨rfl, small_of hT2 hp2 (by omega) fun f hf => ?_⟩, e1⟩
    obtain ⟨y, hy, rfl⟩ := mem_getDR hf
    exact hm y (by omega)
end Go.Proofs.YtbhdfhiecgebnaaDoor
