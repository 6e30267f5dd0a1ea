/-
  The abstract machine: regions that draw their order (7): operations that write nothing, out of turn.
-/
import Derived.Test.YtdhpgfhidldmgaaAmDraw6
namespace Go.Am
open Go.RowKit

section
variable {P : Program} {ih : Ex}

theorem quiet_at {ao : AOper} {fr fr' : AFr} {h h' : AHeap} (hk : kindA ao.op = 0 ∨ kindA ao.op = 1) (hx : aoper P ih ao fr h = some (fr', h')) :
    ∃ v, fr' = val ao.dst fr v ∧ ∀ (t2 : Trie Value) (dfs2 : List Deferred) (rd2 : Option Nat) (h2 : AHeap), (∀ s ∈ namesOf ao, tmGet fr.tm s = tmGet t2 s) →
      (∀ g, readsA fr.tm ao = some g → h.get g ≠ none → h2.get g = h.get g) → aoper P ih ao ⟨t2, dfs2, rd2⟩ h2 = some (val ao.dst ⟨t2, dfs2, rd2⟩ v, h2) := by
  unfold aoper at hx
  cases hw : wantedA fr.tm ao.guard with
  | false =>
    simp only [hw, cond_false, Option.some.injEq, Prod.mk.injEq] at hx
    obtain ⟨rfl, _⟩ := hx
    refine ⟨undef, rfl, fun t2 dfs2 rd2 h2 hn _ => ?_⟩
    unfold aoper
    have := names_wanted hn
    rw [hw] at this
    simp only [← this, cond_false]
  | true =>
    simp only [hw, cond_true] at hx
    have hvv : ∀ (t : Trie Value) (rd : Option Nat) (h : AHeap), aoperV P ih t rd h ao.op = match aop P ih t h ao.op with
        | some (v, h) => some (v, [], h)
        | none => none := by
      intro t rd h
      unfold aoperV
      split
      · rename_i e; rw [e] at hk; rcases hk with q | q <;> cases q
      · rename_i e; rw [e] at hk; rcases hk with q | q <;> cases q
      · rfl
    rw [hvv] at hx
    cases ha : aop P ih fr.tm h ao.op with
    | none => simp [ha] at hx
    | some q =>
      obtain ⟨v, h1⟩ := q
      simp only [ha, Option.some.injEq, Prod.mk.injEq, List.nil_append] at hx
      obtain ⟨rfl, _⟩ := hx
      refine ⟨v, rfl, fun t2 dfs2 rd2 h2 hn hh => ?_⟩
      obtain ⟨_, q2, q3⟩ := aop_heap hk ha
      have h3 := q3 h2 fun g hg => hh g (by rw [readsA_eq _ _ hw]; exact hg) (q2 g hg)
      rw [aop_congr (names_ev hn)] at h3
      have := names_wanted hn
      rw [hw] at this
      unfold aoper
      simp only [← this, cond_true, hvv, h3, List.nil_append]

variable {B : Nat} {nt : Nat} {ops : Array Oper} {as : List AOper} {l : List (AOper × List Nat)} {FR : Nat → AFr} {H : Nat → AHeap} {G : Nat → Nat} {σ0 : Nat → Option Pl} {h0 : AHeap} {w0 : World} {b : Frame}
variable {S : Nat → Prop} {p : Nat} {tS : Trie Value} {HS : AHeap} {σ : Nat → Option Pl} {w : World} {a : Act}

theorem Dr.wf (d : Dr P ih nt ops as l FR H G) : ∀ {k}, k ≤ ops.size → ∀ g, (H k).n ≤ g → (H k).get g = none := by
  intro k
  induction k with
  | zero => intro _ g hg; exact d.free g (by have := d.room; omega)
  | succ k ihk =>
    intro hk
    exact ((d.tr.grow d.grow (m := G 0) (Nat.le_refl _) d.room k).2 (by rw [d.llen, d.len]; omega)).wf (ihk (by omega))

/-- What a read that is ready finds is what it finds in the text's order. -/
theorem read_same (d : Dr P ih nt ops as l FR H G) (iv : Inv P B nt ops as FR H G σ0 h0 w0 b S p tS HS σ w a) {i : Nat} {ao : AOper} (ha : as[i]? = some ao) (hS : ¬ S i) (hk : kindA ao.op = 0 ∨ kindA ao.op = 1)
    (pre : ∀ j, Bf (befs ops.toList []) i j = true → S j) (suc : ∀ j aj, as[j]? = some aj → S j → Bf (befs ops.toList []) j i = false) {g : Nat} (hg : readsA (FR i).tm ao = some g) (hl : (H i).get g ≠ none) : HS.get g = (H i).get g := by
  have hi := d.lt ha
  have hk1 : kindA ao.op = 1 := by
    rcases hk with q | q
    · exfalso
      unfold readsA at hg
      cases hw : wantedA (FR i).tm ao.guard with
      | false => rw [hw] at hg; cases hg
      | true =>
        rw [hw] at hg
        cases hop : ao.op <;> rw [hop] at hg q <;> first | (cases hg; done) | (cases q; done)
    · exact q
  obtain ⟨un, hlun, hun⟩ := d.lg i ao ha
  obtain ⟨ob, hob⟩ := Option.ne_none_iff_exists'.1 hl
  rcases Nat.lt_or_ge i p with hip | hip
  · -- louds behind it have been carried out
    have hst := d.stays hob (p := p) (by omega) iv.pn (fun m am h1 h2 hm hk2 => by
      have hSm := iv.loud1 m am h2 hm (by omega)
      have hne : m ≠ i := fun e => by subst e; exact hS hSm
      obtain ⟨unm, e1, e2⟩ := d.lg m am hm
      have hmem := e2 i ao (by omega) ha (suc m am hm hSm) (.inl ⟨hk1, hk2⟩)
      have hno := d.tr.write m (am, unm) i (ao, un) g e1 (by omega) hlun hg (by simpa using hmem)
      obtain ⟨v, ds, _, _, _, _⟩ := aoperC_spec (d.step hm)
      have hs := d.step hm
      have hb : Nat.beq (kindA am.op) 3 = false := by rw [hk2]; rfl
      unfold aoperC at hs
      rw [hb] at hs
      simp only [cond_false] at hs
      have hlive : g < (H m).n := by
        rcases Nat.lt_or_ge g (H m).n with q | q
        · exact q
        · exfalso
          have hmi : (H i).n ≤ (H m).n := d.n_le (by omega) (by have := d.lt hm; omega)
          exact hl (d.wf (by omega) g (by omega))
      exact (aoper_grow d.grow hs).log g hlive hlive hno)
    rcases iv.pend g with ⟨j, ob', q1, q2⟩ | ⟨_, q2⟩
    · obtain ⟨_, z2, am, f, z3, z4, _, _, z5⟩ := q1
      have := d.unlaid z3 z4 z2
      rw [z5, hst] at this
      cases this
    · rw [q2, hst, hob]
  · have hw := d.walk (S := S) (g := g) hip (by omega) (fun m am h1 h2 hm => ⟨fun hk2 => by
      have hSm := iv.loud2 m am h1 hm hk2
      have hb0 : Bf (befs ops.toList []) i m = false := by
        cases hq : Bf (befs ops.toList []) i m with
        | false => rfl
        | true => exact absurd (pre m hq) hSm
      have hmem := hun m am h2 hm hb0 (.inr ⟨by omega, hk1⟩)
      obtain ⟨r1, r2⟩ := d.tr.read i (ao, un) g m hlun hg h2 (by simpa using hmem)
      have hs := d.step hm
      have hb : Nat.beq (kindA am.op) 3 = false := by rw [hk2]; rfl
      unfold aoperC at hs
      rw [hb] at hs
      simp only [cond_false] at hs
      exact (aoper_grow d.grow hs).log g r1 r1 r2, fun hk3 hSm hwt hgm => by
      have hb0 : Bf (befs ops.toList []) i m = false := by
        cases hq : Bf (befs ops.toList []) i m with
        | false => rfl
        | true => exact absurd (pre m hq) hSm
      have hmem := hun m am h2 hm hb0 (.inr ⟨by omega, hk1⟩)
      obtain ⟨r1, r2⟩ := d.tr.read i (ao, un) g m hlun hg h2 (by simpa using hmem)
      obtain ⟨v, ds, _, _, _, k3⟩ := aoperC_spec (d.step hm)
      rcases k3 hk3 with ⟨kw, _⟩ | ⟨ob', f, _, _, ke, _⟩
      · rw [hwt] at kw; cases kw
      · apply r2
        rw [ke, hgm]
        exact mem_log_self (by rw [← hgm]; exact r1)⟩)
    rcases hw with ⟨j, ob', hj, q1, q2⟩ | ⟨q1, q2⟩
    · rcases iv.pend g with ⟨j', ob2, r1, r2⟩ | ⟨r1, _⟩
      · obtain ⟨_, e2⟩ := d.pd_fun q1 r1
        rw [r2, q2, e2]
      · exact absurd q1 (r1 j ob')
    · rcases iv.pend g with ⟨j', ob2, r1, r2⟩ | ⟨_, r2⟩
      · rcases Nat.lt_or_ge j' i with z | z
        · exact absurd r1 (q1 j' ob2 z)
        · obtain ⟨_, _, am, f, z3, z4, _, _, z5⟩ := r1
          have := d.unlaid z3 z4 z
          rw [z5, hob] at this
          cases this
      · rw [r2, q2]

end
end Go.Am
