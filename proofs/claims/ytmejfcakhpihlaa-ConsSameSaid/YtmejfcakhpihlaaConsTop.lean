/- The table of the functions that ConsSame reaches is the program's; what a constraint among the arguments reads as. -/
import Derived.Test.YtmejfcakhpihlaaConsLaw
import Derived.Test.YtmejfcakhpihlaaAmR
namespace Go.Proofs.Ytmejfcakhpihlaa
open Go.Am

theorem tb_ok : tb.Ok Try.prog where
  code := fun _ _ h => h
  stub := fun f s hs => by cases hs
  grow := fun f s hs args h v h' hk => by cases hs

theorem rd_con {H : Type} {h : AHeap} (cs : List Value) (d : DataW H) (r : Rd Try.prog h 25 cs d) : ∃ a, RCon h cs a := by
  obtain ⟨parts, rfl, hl, hp, hr⟩ := rd_struct r Try.underlying25
  have hc : Try.prog.cellsOf 25 = 5 := by kernel_rfl
  rw [hc] at hl
  obtain ⟨a, b, c, e, f, rfl⟩ : ∃ a b c e f, cs = [a, b, c, e, f] := by
    match cs, hl with
    | [a, b, c, e, f], _ => exact ⟨a, b, c, e, f, rfl⟩
  obtain ⟨d0, r0⟩ := hr 0 _ rfl
  obtain ⟨d1, r1⟩ := hr 1 _ rfl
  obtain ⟨d2, r2⟩ := hr 2 _ rfl
  obtain ⟨d3, r3⟩ := hr 3 _ rfl
  obtain ⟨d4, r4⟩ := hr 4 _ rfl
  have c5 : Try.prog.cellsOf 5 = 1 := by kernel_rfl
  have c3 : Try.prog.cellsOf 3 = 1 := by kernel_rfl
  have c23 : Try.prog.cellsOf 23 = 1 := by kernel_rfl
  replace r0 : Rd Try.prog h 5 (([a, b, c, e, f].drop 0).take (Try.prog.cellsOf 5)) d0 := r0
  rw [c5] at r0
  replace r0 : Rd Try.prog h 5 [a] d0 := r0
  replace r1 : Rd Try.prog h 3 (([a, b, c, e, f].drop 1).take (Try.prog.cellsOf 3)) d1 := r1
  rw [c3] at r1
  replace r1 : Rd Try.prog h 3 [b] d1 := r1
  replace r2 : Rd Try.prog h 3 (([a, b, c, e, f].drop 2).take (Try.prog.cellsOf 3)) d2 := r2
  rw [c3] at r2
  replace r2 : Rd Try.prog h 3 [c] d2 := r2
  replace r3 : Rd Try.prog h 3 (([a, b, c, e, f].drop 3).take (Try.prog.cellsOf 3)) d3 := r3
  rw [c3] at r3
  replace r3 : Rd Try.prog h 3 [e] d3 := r3
  replace r4 : Rd Try.prog h 23 (([a, b, c, e, f].drop 4).take (Try.prog.cellsOf 23)) d4 := r4
  rw [c23] at r4
  replace r4 : Rd Try.prog h 23 [f] d4 := r4
  obtain ⟨k, e0, _⟩ := rd_int r0 Try.underlying5
  obtain ⟨x, e1, _⟩ := rd_int r1 Try.underlying3
  obtain ⟨y, e2, _⟩ := rd_int r2 Try.underlying3
  obtain ⟨n, e3, _⟩ := rd_int r3 Try.underlying3
  obtain ⟨v, l, e4, s, hm, _⟩ := rd_ints r4 Try.underlying23 Try.underlying3 (by kernel_rfl)
  simp only [List.cons.injEq, and_true] at e0 e1 e2 e3 e4
  subst e0 e1 e2 e3 e4
  exact ⟨⟨k, x, y, n, l⟩, ⟨_, rfl, s⟩, hm⟩
end Go.Proofs.Ytmejfcakhpihlaa
