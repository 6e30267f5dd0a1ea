/-
  The abstract machine: regions that draw their order (9): one operation more: what makes memory.
-/
import Derived.Test.YtdhpgfhidldmgaaAmDraw8
namespace Go.Am
open Go.RowKit

section
variable {P : Program} {ih : Ex} {B : Nat} {nt : Nat} {ops : Array Oper} {as : List AOper} {l : List (AOper × List Nat)} {FR : Nat → AFr} {H : Nat → AHeap} {G : Nat → Nat} {σ0 : Nat → Option Pl} {h0 : AHeap} {w0 : World} {b : Frame}
variable {S : Nat → Prop} {p : Nat} {tS : Trie Value} {HS : AHeap} {σ : Nat → Option Pl} {w : World} {a : Act}

theorem step_alloc (hex : ExecSound P ih) (hcall : CallSound P ih) (d : Dr P ih nt ops as l FR H G) (iv : Inv P B nt ops as FR H G σ0 h0 w0 b S p tS HS σ w a) (h0n : h0.n ≤ G 0) {i : Nat} {o : Oper} {ao : AOper} (ho : ops[i]? = some o) (ha : as[i]? = some ao) (hS : ¬ S i)
    (hk : kindA ao.op = 3) (pre : ∀ j, Bf (befs ops.toList []) i j = true → S j) (suc : ∀ j aj, as[j]? = some aj → S j → Bf (befs ops.toList []) j i = false) :
    Next1 P B nt ops as FR H G σ0 h0 w0 b S i w a := by
  have hi := d.lt ha
  have hs := d.step ha
  have hpi : p ≤ i := by
    rcases Nat.lt_or_ge i p with q | q
    · exact absurd (iv.loud1 i ao q ha (by omega)) hS
    · exact q
  have hnames := names_step d iv ha hS pre suc
  have hc := d.op i o ao ho ha
  obtain ⟨s1, s2, s3, _⟩ := cOper_spec hc
  have hweq := wanted_eq hc iv.rel.tm
  have hwn := names_wanted hnames
  have hlt : ∀ (j : Nat) (am : AOper), as[j]? = some am → kindA am.op = 3 → G j < HS.n := fun j am h1 h2 => by
    rw [iv.hn]
    have := (d.below h1 h2).2
    have := d.n_le (i := 0) (j := p) (by omega) iv.pn
    omega
  have hb : Nat.beq (kindA ao.op) 3 = true := by rw [hk]; rfl
  unfold aoperC at hs
  rw [hb] at hs
  simp only [cond_true] at hs
  cases hw : wantedA (FR i).tm ao.guard with
  | false =>
    simp only [hw, cond_false, Option.some.injEq, Prod.mk.injEq] at hs
    obtain ⟨hf, _⟩ := hs
    have hrun : aoper P ih ao ⟨tS, (FR p).dfs, (FR 0).round⟩ HS = some (val ao.dst ⟨tS, (FR p).dfs, (FR 0).round⟩ undef, HS) := by
      unfold aoper
      rw [hw] at hwn
      simp only [← hwn, cond_false]
    obtain ⟨σ', w', a', e1, F1, _, st⟩ := aoper_sound hex hcall ho hc iv.evo.rel iv.rel hrun
    have hpd : ∀ j g ob, Pd as FR G (fun j => S j ∨ j = i) p j g ob ↔ Pd as FR G S p j g ob := by
      intro j g ob
      constructor
      · rintro ⟨h1, h2, am, f, h3, h4, h5, h6⟩
        refine ⟨h1.resolve_right ?_, h2, am, f, h3, h4, h5, h6⟩
        rintro rfl
        rw [ha] at h3; cases h3
        rw [hw] at h5; cases h5
      · rintro ⟨h1, h2⟩
        exact ⟨.inl h1, h2⟩
    refine ⟨p, _, HS, σ', w', a', ⟨iv.pn, slots_step d iv ha hS suc (ds := []) (v := undef) (by rw [← hf]; rfl) (FR p).dfs (FR 0).round, fun j am h1 h2 h3 => .inl (iv.loud1 j am h1 h2 h3), fun j am h1 h2 h3 => ?_, iv.hn, fun g => ?_, fun j am h1 h2 h3 => ?_, ?_, iv.evo.trans e1⟩, st⟩
    · rintro (q | rfl)
      · exact iv.loud2 j am h1 h2 h3 q
      · rw [ha] at h2; cases h2; omega
    · simp only [hpd]
      exact iv.pend g
    · rw [e1.old.2 _ (hlt j am h1 h2)]
      exact iv.free j am h1 h2 fun q => h3 (.inl q)
    · have : (⟨(val ao.dst ⟨tS, (FR p).dfs, (FR 0).round⟩ undef).tm, (FR p).dfs, (FR 0).round⟩ : AFr) = val ao.dst ⟨tS, (FR p).dfs, (FR 0).round⟩ undef := by cases ao.dst <;> rfl
      rw [this]
      exact F1
  | true =>
    simp only [hw, cond_true] at hs
    cases hm : madeA (FR i).tm ao.op with
    | none => simp [hm] at hs
    | some q =>
    obtain ⟨ob, f⟩ := q
    simp only [hm, Option.some.injEq, Prod.mk.injEq] at hs
    obtain ⟨hf, _⟩ := hs
    have hmS : madeA tS ao.op = some (ob, f) := by rw [← madeA_congr (names_ev hnames)]; exact hm
    cases hcop : cOp P o with
    | none =>
      rw [hcop, Option.getD_none] at s3
      rw [s3] at hk; cases hk
    | some op =>
    rw [hcop, Option.getD_some] at s3
    subst s3
    obtain ⟨O, n, w', cv, m1, m2, m3, m4, m5⟩ := made_rel iv.evo.rel iv.rel.tm hcop hmS
    have hfree := iv.free i ao ha hk hS
    obtain ⟨k1, k2, k3, k4, k5⟩ := lay_evo (o := ob) iv.evo.rel hfree (hlt i ao ha hk) m2 m3 m4
    have hsame := more_same σ (G i) ⟨w.heap.size, 0, n⟩
    have hevo : Evo P B σ0 h0 w0 (more σ (G i) ⟨w.heap.size, 0, n⟩) (HS.lay (G i) ob) w' := by
      have ev := iv.evo
      refine ⟨ev.le.trans k2, k1, m3.1.trans ev.os, m3.2.1.trans ev.tape, m3.2.2.trans ev.output, Nat.le_trans ev.size k3, fun b hb hno => (k4 b (Nat.lt_of_lt_of_le hb ev.size)).trans (ev.kept b hb hno), fun b hb => ?_, ?_, fun g hg => ?_⟩
      · rcases k5 b hb with q | q
        · exact .inl (Nat.le_trans ev.size q)
        · exact ev.from_ b q
      · exact ev.old.1
      · have hne : g ≠ G i := by
          have := (d.below ha hk).1
          omega
        unfold more
        rw [if_neg hne]
        exact ev.old.2 g hg
    have hwc : Region.wanted o (yielded ops a.tmps) = true := by rw [hweq]; rw [hw] at hwn; exact hwn.symm
    have hnd : ∀ c, o.op = .defer c → b.roundOf = none := fun c hq => by
      rcases cOp_defer_of hcop hq with ⟨f', _, e⟩ | ⟨m, t, kt, e', _, _, _, _, e⟩ <;> rw [e] at hk <;> cases hk
    refine ⟨p, (val ao.dst ⟨tS, (FR p).dfs, (FR 0).round⟩ (f (G i))).tm, HS.lay (G i) ob, _, w', a.put o.dst cv, ⟨iv.pn, slots_step d iv ha hS suc (ds := []) (v := f (G i)) (by rw [← hf]; rfl) (FR p).dfs (FR 0).round,
      fun j am h1 h2 h3 => .inl (iv.loud1 j am h1 h2 h3), fun j am h1 h2 h3 => ?_, iv.hn, fun g => ?_, fun j am h1 h2 h3 => ?_, ?_, hevo⟩, fun rest k cs => .one (step_value ho hwc hnd m1)⟩
    · rintro (q | rfl)
      · exact iv.loud2 j am h1 h2 h3 q
      · rw [ha] at h2; cases h2; omega
    · by_cases hg : g = G i
      · exact .inl ⟨i, ob, ⟨.inr rfl, hpi, ao, f, ha, hk, hw, hm, hg.symm⟩, by rw [get_lay, if_pos hg]⟩
      · rw [get_lay, if_neg hg]
        rcases iv.pend g with ⟨j, ob', ⟨q1, q2⟩, q3⟩ | ⟨q1, q2⟩
        · exact .inl ⟨j, ob', ⟨.inl q1, q2⟩, q3⟩
        · refine .inr ⟨fun j ob' hq => ?_, q2⟩
          obtain ⟨z1, z2, am, f', z3, z4, z5, z6, z7⟩ := hq
          rcases z1 with z1 | rfl
          · exact q1 j ob' ⟨z1, z2, am, f', z3, z4, z5, z6, z7⟩
          · exact hg z7.symm
    · have hne : G j ≠ G i := by
        have hji : j ≠ i := fun q => h3 (.inr q)
        have hj := d.lt h1
        rcases Nat.lt_or_ge j i with q | q
        · have := d.apart q (by omega) h1 h2; omega
        · have := d.apart (i := i) (j := j) (by omega) (by omega) ha hk; omega
      unfold more
      rw [if_neg hne]
      exact iv.free j am h1 h2 fun q => h3 (.inl q)
    · have : (⟨(val ao.dst ⟨tS, (FR p).dfs, (FR 0).round⟩ (f (G i))).tm, (FR p).dfs, (FR 0).round⟩ : AFr) = val ao.dst ⟨tS, (FR p).dfs, (FR 0).round⟩ (f (G i)) := by cases ao.dst <;> rfl
      rw [this, s2]
      exact (iv.rel.mono k2).val s1 (m5 _ _ hsame)

end
end Go.Am
