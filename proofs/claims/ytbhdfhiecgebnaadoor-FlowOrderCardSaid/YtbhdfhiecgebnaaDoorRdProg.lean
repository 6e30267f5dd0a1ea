/- Programs among the arguments: what they read as, with their sizes. -/
import Derived.Test.YtbhdfhiecgebnaaDoorShapeDef
import Derived.Test.YtbhdfhiecgebnaaDoorAmU
namespace Go.Proofs.YtbhdfhiecgebnaaDoor
open Go.Am
set_option linter.unusedVariables false
set_option linter.unusedSimpArgs false

theorem wf_u8 {n : Int} (h : (Lit.int .u8 n).wf = true) : 0 ≤ n ∧ n ≤ 255 := by
  simp [Lit.wf, IntKind.wrap, IntKind.signed, IntKind.bits] at h
  have h1 : IntKind.min .u8 = 0 := by decide
  have h2 : IntKind.max .u8 = 255 := by decide
  omega
theorem len2 {l : List Value} (h : l.length = 2) : ∃ a b, l = [a, b] := by
  match l, h with
  | [a, b], _ => exact ⟨a, b, rfl⟩
theorem len4 {l : List Value} (h : l.length = 4) : ∃ a b c d, l = [a, b, c, d] := by
  match l, h with
  | [a, b, c, d], _ => exact ⟨a, b, c, d, rfl⟩
theorem len5 {l : List Value} (h : l.length = 5) : ∃ a b c d e, l = [a, b, c, d, e] := by
  match l, h with
  | [a, b, c, d, e], _ => exact ⟨a, b, c, d, e, rfl⟩
theorem len7 {l : List Value} (h : l.length = 7) : ∃ a b c d e f g, l = [a, b, c, d, e, f, g] := by
  match l, h with
  | [a, b, c, d, e, f, g], _ => exact ⟨a, b, c, d, e, f, g, rfl⟩
section
variable {H : Type} {h : AHeap}

theorem rd_type (cs : List Value) (d : DataW H) (r : Rd Tryd.prog h 69 cs d) (hw : wOk Tryd.prog 69 d) : ∃ a, RTy h cs a := by
  obtain ⟨hl, hr⟩ := rd_structW r Tryd.underlying69 hw
  have hc : Tryd.prog.cellsOf 69 = 4 := by kernel_rfl
  rw [hc] at hl
  obtain ⟨x0, x1, x2, x3, rfl⟩ : ∃ x0 x1 x2 x3, cs = [x0, x1, x2, x3] := by
    exact len4 hl
  obtain ⟨d0, r0, w0⟩ := hr 0 _ rfl
  have c0 : Tryd.prog.cellsOf 5 = 1 := by kernel_rfl
  replace r0 : Rd Tryd.prog h 5 (([x0, x1, x2, x3].drop 0).take (Tryd.prog.cellsOf 5)) d0 := r0
  replace w0 : wOk Tryd.prog 5 d0 := w0
  rw [c0] at r0
  replace r0 : Rd Tryd.prog h 5 [x0] d0 := r0
  obtain ⟨d1, r1, w1⟩ := hr 1 _ rfl
  have c1 : Tryd.prog.cellsOf 3 = 1 := by kernel_rfl
  replace r1 : Rd Tryd.prog h 3 (([x0, x1, x2, x3].drop 1).take (Tryd.prog.cellsOf 3)) d1 := r1
  replace w1 : wOk Tryd.prog 3 d1 := w1
  rw [c1] at r1
  replace r1 : Rd Tryd.prog h 3 [x1] d1 := r1
  obtain ⟨d2, r2, w2⟩ := hr 2 _ rfl
  have c2 : Tryd.prog.cellsOf 3 = 1 := by kernel_rfl
  replace r2 : Rd Tryd.prog h 3 (([x0, x1, x2, x3].drop 2).take (Tryd.prog.cellsOf 3)) d2 := r2
  replace w2 : wOk Tryd.prog 3 d2 := w2
  rw [c2] at r2
  replace r2 : Rd Tryd.prog h 3 [x2] d2 := r2
  obtain ⟨d3, r3, w3⟩ := hr 3 _ rfl
  have c3 : Tryd.prog.cellsOf 28 = 1 := by kernel_rfl
  replace r3 : Rd Tryd.prog h 28 (([x0, x1, x2, x3].drop 3).take (Tryd.prog.cellsOf 28)) d3 := r3
  replace w3 : wOk Tryd.prog 28 d3 := w3
  rw [c3] at r3
  replace r3 : Rd Tryd.prog h 28 [x3] d3 := r3
  obtain ⟨k, e0, f0⟩ := rd_int r0 Tryd.underlying5
  cases e0
  obtain ⟨e, e1, f1⟩ := rd_int r1 Tryd.underlying3
  cases e1
  obtain ⟨m, e2, f2⟩ := rd_int r2 Tryd.underlying3
  cases e2
  obtain ⟨va, l, e3, s3, b3, _⟩ := rd_intsW r3 Tryd.underlying28 Tryd.underlying3 (by kernel_rfl) (by decide +kernel) w3
  cases e3
  exact ⟨⟨k, e, m, l⟩, _, rfl, s3, by simp only; omega⟩

theorem rd_ins (cs : List Value) (d : DataW H) (r : Rd Tryd.prog h 56 cs d) (hw : wOk Tryd.prog 56 d) : ∃ a, RIns h cs a := by
  obtain ⟨hl, hr⟩ := rd_structW r Tryd.underlying56 hw
  have hc : Tryd.prog.cellsOf 56 = 7 := by kernel_rfl
  rw [hc] at hl
  obtain ⟨x0, x1, x2, x3, x4, x5, x6, rfl⟩ : ∃ x0 x1 x2 x3 x4 x5 x6, cs = [x0, x1, x2, x3, x4, x5, x6] := by
    exact len7 hl
  obtain ⟨d0, r0, w0⟩ := hr 0 _ rfl
  have c0 : Tryd.prog.cellsOf 5 = 1 := by kernel_rfl
  replace r0 : Rd Tryd.prog h 5 (([x0, x1, x2, x3, x4, x5, x6].drop 0).take (Tryd.prog.cellsOf 5)) d0 := r0
  replace w0 : wOk Tryd.prog 5 d0 := w0
  rw [c0] at r0
  replace r0 : Rd Tryd.prog h 5 [x0] d0 := r0
  obtain ⟨d1, r1, w1⟩ := hr 1 _ rfl
  have c1 : Tryd.prog.cellsOf 3 = 1 := by kernel_rfl
  replace r1 : Rd Tryd.prog h 3 (([x0, x1, x2, x3, x4, x5, x6].drop 1).take (Tryd.prog.cellsOf 3)) d1 := r1
  replace w1 : wOk Tryd.prog 3 d1 := w1
  rw [c1] at r1
  replace r1 : Rd Tryd.prog h 3 [x1] d1 := r1
  obtain ⟨d2, r2, w2⟩ := hr 2 _ rfl
  have c2 : Tryd.prog.cellsOf 3 = 1 := by kernel_rfl
  replace r2 : Rd Tryd.prog h 3 (([x0, x1, x2, x3, x4, x5, x6].drop 2).take (Tryd.prog.cellsOf 3)) d2 := r2
  replace w2 : wOk Tryd.prog 3 d2 := w2
  rw [c2] at r2
  replace r2 : Rd Tryd.prog h 3 [x2] d2 := r2
  obtain ⟨d3, r3, w3⟩ := hr 3 _ rfl
  have c3 : Tryd.prog.cellsOf 3 = 1 := by kernel_rfl
  replace r3 : Rd Tryd.prog h 3 (([x0, x1, x2, x3, x4, x5, x6].drop 3).take (Tryd.prog.cellsOf 3)) d3 := r3
  replace w3 : wOk Tryd.prog 3 d3 := w3
  rw [c3] at r3
  replace r3 : Rd Tryd.prog h 3 [x3] d3 := r3
  obtain ⟨d4, r4, w4⟩ := hr 4 _ rfl
  have c4 : Tryd.prog.cellsOf 2 = 1 := by kernel_rfl
  replace r4 : Rd Tryd.prog h 2 (([x0, x1, x2, x3, x4, x5, x6].drop 4).take (Tryd.prog.cellsOf 2)) d4 := r4
  replace w4 : wOk Tryd.prog 2 d4 := w4
  rw [c4] at r4
  replace r4 : Rd Tryd.prog h 2 [x4] d4 := r4
  obtain ⟨d5, r5, w5⟩ := hr 5 _ rfl
  have c5 : Tryd.prog.cellsOf 28 = 1 := by kernel_rfl
  replace r5 : Rd Tryd.prog h 28 (([x0, x1, x2, x3, x4, x5, x6].drop 5).take (Tryd.prog.cellsOf 28)) d5 := r5
  replace w5 : wOk Tryd.prog 28 d5 := w5
  rw [c5] at r5
  replace r5 : Rd Tryd.prog h 28 [x5] d5 := r5
  obtain ⟨d6, r6, w6⟩ := hr 6 _ rfl
  have c6 : Tryd.prog.cellsOf 28 = 1 := by kernel_rfl
  replace r6 : Rd Tryd.prog h 28 (([x0, x1, x2, x3, x4, x5, x6].drop 6).take (Tryd.prog.cellsOf 28)) d6 := r6
  replace w6 : wOk Tryd.prog 28 d6 := w6
  rw [c6] at r6
  replace r6 : Rd Tryd.prog h 28 [x6] d6 := r6
  obtain ⟨op, e0, f0⟩ := rd_int r0 Tryd.underlying5
  cases e0
  obtain ⟨ty, e1, f1⟩ := rd_int r1 Tryd.underlying3
  cases e1
  obtain ⟨a, e2, f2⟩ := rd_int r2 Tryd.underlying3
  cases e2
  obtain ⟨b, e3, f3⟩ := rd_int r3 Tryd.underlying3
  cases e3
  obtain ⟨n, e4, f4⟩ := rd_int r4 Tryd.underlying2
  cases e4
  obtain ⟨va, la, e5, s5, b5, _⟩ := rd_intsW r5 Tryd.underlying28 Tryd.underlying3 (by kernel_rfl) (by decide +kernel) w5
  cases e5
  obtain ⟨vf, lf, e6, s6, b6, _⟩ := rd_intsW r6 Tryd.underlying28 Tryd.underlying3 (by kernel_rfl) (by decide +kernel) w6
  cases e6
  exact ⟨⟨op, ty, a, b, n, la, lf⟩, _, _, rfl, s5, s6, b5, b6, wf_u8 f0⟩

theorem rd_end (cs : List Value) (d : DataW H) (r : Rd Tryd.prog h 45 cs d) (hw : wOk Tryd.prog 45 d) : ∃ x : LEnd, cs = [.int .u8 x.kind, I x.a, I x.to, I x.els] := by
  obtain ⟨hl, hr⟩ := rd_structW r Tryd.underlying45 hw
  have hc : Tryd.prog.cellsOf 45 = 4 := by kernel_rfl
  rw [hc] at hl
  obtain ⟨x0, x1, x2, x3, rfl⟩ : ∃ x0 x1 x2 x3, cs = [x0, x1, x2, x3] := by
    exact len4 hl
  obtain ⟨d0, r0, w0⟩ := hr 0 _ rfl
  have c0 : Tryd.prog.cellsOf 5 = 1 := by kernel_rfl
  replace r0 : Rd Tryd.prog h 5 (([x0, x1, x2, x3].drop 0).take (Tryd.prog.cellsOf 5)) d0 := r0
  replace w0 : wOk Tryd.prog 5 d0 := w0
  rw [c0] at r0
  replace r0 : Rd Tryd.prog h 5 [x0] d0 := r0
  obtain ⟨d1, r1, w1⟩ := hr 1 _ rfl
  have c1 : Tryd.prog.cellsOf 3 = 1 := by kernel_rfl
  replace r1 : Rd Tryd.prog h 3 (([x0, x1, x2, x3].drop 1).take (Tryd.prog.cellsOf 3)) d1 := r1
  replace w1 : wOk Tryd.prog 3 d1 := w1
  rw [c1] at r1
  replace r1 : Rd Tryd.prog h 3 [x1] d1 := r1
  obtain ⟨d2, r2, w2⟩ := hr 2 _ rfl
  have c2 : Tryd.prog.cellsOf 3 = 1 := by kernel_rfl
  replace r2 : Rd Tryd.prog h 3 (([x0, x1, x2, x3].drop 2).take (Tryd.prog.cellsOf 3)) d2 := r2
  replace w2 : wOk Tryd.prog 3 d2 := w2
  rw [c2] at r2
  replace r2 : Rd Tryd.prog h 3 [x2] d2 := r2
  obtain ⟨d3, r3, w3⟩ := hr 3 _ rfl
  have c3 : Tryd.prog.cellsOf 3 = 1 := by kernel_rfl
  replace r3 : Rd Tryd.prog h 3 (([x0, x1, x2, x3].drop 3).take (Tryd.prog.cellsOf 3)) d3 := r3
  replace w3 : wOk Tryd.prog 3 d3 := w3
  rw [c3] at r3
  replace r3 : Rd Tryd.prog h 3 [x3] d3 := r3
  obtain ⟨k, e0, f0⟩ := rd_int r0 Tryd.underlying5
  cases e0
  obtain ⟨a, e1, f1⟩ := rd_int r1 Tryd.underlying3
  cases e1
  obtain ⟨t, e2, f2⟩ := rd_int r2 Tryd.underlying3
  cases e2
  obtain ⟨e, e3, f3⟩ := rd_int r3 Tryd.underlying3
  cases e3
  exact ⟨⟨k, a, t, e⟩, rfl⟩

theorem rd_block (cs : List Value) (d : DataW H) (r : Rd Tryd.prog h 48 cs d) (hw : wOk Tryd.prog 48 d) : ∃ a, RBlk h cs a := by
  obtain ⟨hl, hr⟩ := rd_structW r Tryd.underlying48 hw
  have hc : Tryd.prog.cellsOf 48 = 5 := by kernel_rfl
  rw [hc] at hl
  obtain ⟨x0, x1, x2, x3, x4, rfl⟩ : ∃ x0 x1 x2 x3 x4, cs = [x0, x1, x2, x3, x4] := by
    exact len5 hl
  obtain ⟨d0, r0, w0⟩ := hr 0 _ rfl
  have c0 : Tryd.prog.cellsOf 46 = 1 := by kernel_rfl
  replace r0 : Rd Tryd.prog h 46 (([x0, x1, x2, x3, x4].drop 0).take (Tryd.prog.cellsOf 46)) d0 := r0
  replace w0 : wOk Tryd.prog 46 d0 := w0
  rw [c0] at r0
  replace r0 : Rd Tryd.prog h 46 [x0] d0 := r0
  obtain ⟨d1, r1, w1⟩ := hr 1 _ rfl
  have c1 : Tryd.prog.cellsOf 45 = 4 := by kernel_rfl
  replace r1 : Rd Tryd.prog h 45 (([x0, x1, x2, x3, x4].drop 1).take (Tryd.prog.cellsOf 45)) d1 := r1
  replace w1 : wOk Tryd.prog 45 d1 := w1
  rw [c1] at r1
  replace r1 : Rd Tryd.prog h 45 [x1, x2, x3, x4] d1 := r1
  obtain ⟨vi, li, e0, s0, b0⟩ := rd_recsW r0 Tryd.underlying46 (c := 7) (by kernel_rfl) (by decide +kernel) w0 rd_ins
  cases e0
  obtain ⟨en, e1⟩ := rd_end _ _ r1 w1
  cases e1
  exact ⟨⟨li, en⟩, _, rfl, s0, b0⟩

theorem rd_func (cs : List Value) (d : DataW H) (r : Rd Tryd.prog h 51 cs d) (hw : wOk Tryd.prog 51 d) : ∃ a, RFn h cs a := by
  obtain ⟨hl, hr⟩ := rd_structW r Tryd.underlying51 hw
  have hc : Tryd.prog.cellsOf 51 = 2 := by kernel_rfl
  rw [hc] at hl
  obtain ⟨x0, x1, rfl⟩ : ∃ x0 x1, cs = [x0, x1] := by
    exact len2 hl
  obtain ⟨d0, r0, w0⟩ := hr 0 _ rfl
  have c0 : Tryd.prog.cellsOf 3 = 1 := by kernel_rfl
  replace r0 : Rd Tryd.prog h 3 (([x0, x1].drop 0).take (Tryd.prog.cellsOf 3)) d0 := r0
  replace w0 : wOk Tryd.prog 3 d0 := w0
  rw [c0] at r0
  replace r0 : Rd Tryd.prog h 3 [x0] d0 := r0
  obtain ⟨d1, r1, w1⟩ := hr 1 _ rfl
  have c1 : Tryd.prog.cellsOf 49 = 1 := by kernel_rfl
  replace r1 : Rd Tryd.prog h 49 (([x0, x1].drop 1).take (Tryd.prog.cellsOf 49)) d1 := r1
  replace w1 : wOk Tryd.prog 49 d1 := w1
  rw [c1] at r1
  replace r1 : Rd Tryd.prog h 49 [x1] d1 := r1
  obtain ⟨sg, e0, f0⟩ := rd_int r0 Tryd.underlying3
  cases e0
  obtain ⟨vb, lb, e1, s1, b1⟩ := rd_recsW r1 Tryd.underlying49 (c := 5) (by kernel_rfl) (by decide +kernel) w1 rd_block
  cases e1
  exact ⟨⟨sg, lb⟩, _, rfl, s1, b1⟩

theorem rd_prog (cs : List Value) (d : DataW H) (r : Rd Tryd.prog h 25 cs d) (hw : wOk Tryd.prog 25 d) : ∃ vt vf T F, cs = [vt, vf] ∧ SlT h vt T ∧ SlF h vf F ∧ (T.length : Int) ≤ 1152921504606846976 ∧ (F.length : Int) ≤ 1152921504606846976 := by
  obtain ⟨hl, hr⟩ := rd_structW r Tryd.underlying25 hw
  have hc : Tryd.prog.cellsOf 25 = 2 := by kernel_rfl
  rw [hc] at hl
  obtain ⟨x0, x1, rfl⟩ : ∃ x0 x1, cs = [x0, x1] := by
    exact len2 hl
  obtain ⟨d0, r0, w0⟩ := hr 0 _ rfl
  have c0 : Tryd.prog.cellsOf 22 = 1 := by kernel_rfl
  replace r0 : Rd Tryd.prog h 22 (([x0, x1].drop 0).take (Tryd.prog.cellsOf 22)) d0 := r0
  replace w0 : wOk Tryd.prog 22 d0 := w0
  rw [c0] at r0
  replace r0 : Rd Tryd.prog h 22 [x0] d0 := r0
  obtain ⟨d1, r1, w1⟩ := hr 1 _ rfl
  have c1 : Tryd.prog.cellsOf 23 = 1 := by kernel_rfl
  replace r1 : Rd Tryd.prog h 23 (([x0, x1].drop 1).take (Tryd.prog.cellsOf 23)) d1 := r1
  replace w1 : wOk Tryd.prog 23 d1 := w1
  rw [c1] at r1
  replace r1 : Rd Tryd.prog h 23 [x1] d1 := r1
  obtain ⟨vt, lt, e0, s0, b0⟩ := rd_recsW r0 Tryd.underlying22 (c := 4) (by kernel_rfl) (by decide +kernel) w0 rd_type
  cases e0
  obtain ⟨vf, lf, e1, s1, b1⟩ := rd_recsW r1 Tryd.underlying23 (c := 2) (by kernel_rfl) (by decide +kernel) w1 rd_func
  cases e1
  exact ⟨_, _, lt, lf, rfl, s0, s1, b0, b1⟩

end
end Go.Proofs.YtbhdfhiecgebnaaDoor
