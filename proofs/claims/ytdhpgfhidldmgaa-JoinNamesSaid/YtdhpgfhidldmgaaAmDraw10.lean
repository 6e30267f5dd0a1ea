/-
  The abstract machine: regions that draw their order (10): one operation more: what writes, or calls.
-/
import Derived.Test.YtdhpgfhidldmgaaAmDraw9
namespace Go.Am
open Go.RowKit

section
variable {P : Program} {ih : Ex} {B : Nat} {nt : Nat} {ops : Array Oper} {as : List AOper} {l : List (AOper × List Nat)} {FR : Nat → AFr} {H : Nat → AHeap} {G : Nat → Nat} {σ0 : Nat → Option Pl} {h0 : AHeap} {w0 : World} {b : Frame}
variable {S : Nat → Prop} {p : Nat} {tS : Trie Value} {HS : AHeap} {σ : Nat → Option Pl} {w : World} {a : Act}

theorem loud_at {ao : AOper} {fr fr' : AFr} {h h' : AHeap} (hx : aoper P ih ao fr h = some (fr', h')) :
    ∃ v ds, fr' = val ao.dst { fr with dfs := ds ++ fr.dfs } v ∧ ∀ (t2 : Trie Value) (dfs2 : List Deferred), (∀ s ∈ namesOf ao, tmGet fr.tm s = tmGet t2 s) →
      aoper P ih ao ⟨t2, dfs2, fr.round⟩ h = some (val ao.dst ⟨t2, ds ++ dfs2, fr.round⟩ v, h') := by
  unfold aoper at hx
  cases hw : wantedA fr.tm ao.guard with
  | false =>
    simp only [hw, cond_false, Option.some.injEq, Prod.mk.injEq] at hx
    obtain ⟨rfl, rfl⟩ := hx
    refine ⟨undef, [], rfl, fun t2 dfs2 hn => ?_⟩
    unfold aoper
    have := names_wanted hn
    rw [hw] at this
    simp only [← this, cond_false, List.nil_append]
  | true =>
    simp only [hw, cond_true] at hx
    cases hv : aoperV P ih fr.tm fr.round h ao.op with
    | none => simp [hv] at hx
    | some q =>
      obtain ⟨v, ds, h1⟩ := q
      simp only [hv, Option.some.injEq, Prod.mk.injEq] at hx
      obtain ⟨rfl, rfl⟩ := hx
      refine ⟨v, ds, rfl, fun t2 dfs2 hn => ?_⟩
      have := names_wanted hn
      rw [hw] at this
      rw [aoperV_congr (names_ev hn)] at hv
      unfold aoper
      simp only [← this, cond_true, hv]

theorem Dr.n_eq (d : Dr P ih nt ops as l FR H G) {i : Nat} : ∀ {j}, i ≤ j → j ≤ ops.size → (∀ (m : Nat) (ao : AOper), i ≤ m → m < j → as[m]? = some ao → kindA ao.op ≠ 2) → (H j).n = (H i).n := by
  intro j
  induction j with
  | zero => intro h _ _; have : i = 0 := by omega
            subst this; rfl
  | succ j ihj =>
    intro h hj hn
    rcases Nat.lt_or_ge i (j + 1) with q | q
    · rw [← ihj (by omega) (by omega) (fun m ao a b => hn m ao a (by omega))]
      obtain ⟨o, ao, un, _, h3, _⟩ := d.get (k := j) (by omega)
      obtain ⟨v, ds, _, _, k0, k3⟩ := aoperC_spec (d.step h3)
      have hle := kind_le ao.op
      have hne := hn j ao (by omega) (by omega) h3
      rcases (by omega : kindA ao.op = 0 ∨ kindA ao.op = 1 ∨ kindA ao.op = 3) with hk | hk | hk
      · rw [k0 (.inl hk)]
      · rw [k0 (.inr hk)]
      · rcases k3 hk with ⟨_, ke⟩ | ⟨ob, f, _, _, ke, _⟩ <;> rw [ke] <;> rfl
    · have : i = j + 1 := by omega
      subst this; rfl

theorem step_loud (hex : ExecSound P ih) (hcall : CallSound P ih) (d : Dr P ih nt ops as l FR H G) (iv : Inv P B nt ops as FR H G σ0 h0 w0 b S p tS HS σ w a) {i : Nat} {o : Oper} {ao : AOper} (ho : ops[i]? = some o) (ha : as[i]? = some ao) (hS : ¬ S i)
    (hk : kindA ao.op = 2) (pre : ∀ j, Bf (befs ops.toList []) i j = true → S j) (suc : ∀ j aj, as[j]? = some aj → S j → Bf (befs ops.toList []) j i = false) :
    Next1 P B nt ops as FR H G σ0 h0 w0 b S i w a := by
  have hi := d.lt ha
  have hs := d.step ha
  have hpi : p ≤ i := by
    rcases Nat.lt_or_ge i p with q | q
    · exact absurd (iv.loud1 i ao q ha (by omega)) hS
    · exact q
  have ahead : ∀ (j : Nat) (aj : AOper), j < i → as[j]? = some aj → 2 ≤ kindA aj.op → S j := fun j aj hj hja h2 => by
    rcases d.pair j i aj ao hj hja ha with q | ⟨q, _⟩
    · exact pre j q
    · exact absurd ⟨hk, h2⟩ q
  have behind : ∀ (j : Nat) (aj : AOper), i < j → as[j]? = some aj → kindA aj.op = 2 → ¬ S j := fun j aj hj hja h2 hSj => by
    rcases d.pair i j ao aj hj ha hja with q | ⟨q, _⟩
    · rw [suc j aj hja hSj] at q; cases q
    · exact q ⟨h2, by omega⟩
  have quiet : ∀ (m : Nat) (am : AOper), p ≤ m → m < i → as[m]? = some am → kindA am.op ≠ 2 := fun m am h1 h2 hm h3 =>
    iv.loud2 m am h1 hm h3 (ahead m am h2 hm (by omega))
  have hsub : ∀ g ob, (H i).get g = some ob → HS.get g = some ob := fun g ob hob => by
    have hw := d.walk (S := S) (g := g) hpi (by omega) (fun m am h1 h2 hm => ⟨fun hk2 => absurd hk2 (quiet m am h1 h2 hm), fun hk3 hSm _ _ => hSm (ahead m am h2 hm (by omega))⟩)
    rcases hw with ⟨j, ob', hj, q1, q2⟩ | ⟨q1, q2⟩
    · rcases iv.pend g with ⟨j', ob2, r1, r2⟩ | ⟨r1, _⟩
      · obtain ⟨_, e2⟩ := d.pd_fun q1 r1
        rw [r2, ← e2, ← q2, hob]
      · exact absurd q1 (r1 j ob')
    · rcases iv.pend g with ⟨j', ob2, r1, r2⟩ | ⟨_, r2⟩
      · rcases Nat.lt_or_ge j' i with z | z
        · exact absurd r1 (q1 j' ob2 z)
        · obtain ⟨_, _, am, f, z3, z4, _, _, z5⟩ := r1
          have := d.unlaid z3 z4 z
          rw [z5, hob] at this
          cases this
      · rw [r2, ← q2, hob]
  have hn : HS.n = (H i).n := iv.hn.trans (d.n_eq hpi (by omega) quiet).symm
  have hdfs : (FR i).dfs = (FR p).dfs := d.dfs hpi (by omega) quiet
  have hrd := d.round (j := i) (by omega)
  have hb : Nat.beq (kindA ao.op) 3 = false := by rw [hk]; rfl
  unfold aoperC at hs
  rw [hb] at hs
  simp only [cond_false] at hs
  obtain ⟨v, ds, hf, hq⟩ := loud_at hs
  have hrun := hq tS (FR p).dfs (names_step d iv ha hS pre suc)
  rw [hrd] at hrun
  have hrel : HRel P B σ { H i with mark := (H i).n, wr := [] } w := iv.evo.rel.sub hsub hn.symm
  obtain ⟨σ', w', a', e1, F1, _, st⟩ := aoper_sound hex hcall ho (d.op i o ao ho ha) hrel iv.rel hrun
  obtain ⟨HS1, x1, x2⟩ := exists_lay (fun j g ob => Pd as FR G (fun j => S j ∨ j = i) (i + 1) j g ob)
    (fun j g ob g' ob' h1 h2 => ⟨by obtain ⟨_, _, _, _, _, _, _, _, e⟩ := h1; obtain ⟨_, _, _, _, _, _, _, _, e'⟩ := h2; exact e.symm.trans e', by
      obtain ⟨y1, y2, ym, yf, y3, y4, y5, y6, y7⟩ := h1
      obtain ⟨z1, z2, zm, zf, z3, z4, z5, z6, z7⟩ := h2
      rw [y3] at z3; cases z3
      rw [y6] at z6; cases z6; rfl⟩) (H (i + 1)) ops.size
  have hevo : Evo P B σ HS w σ' HS1 w' := by
    refine frame_evo (Hi := { H i with mark := (H i).n, wr := [] }) iv.evo.rel hsub hn e1 (aoper_grow d.grow hs) x1 fun g ob hg => ?_
    rcases x2 g with ⟨j, ob', _, q1, q2⟩ | ⟨_, q2⟩
    · right
      rw [hg] at q2; cases q2
      obtain ⟨z1, z2, am, f, z3, z4, z5, z6, z7⟩ := q1
      have z1 : S j := z1.resolve_right (by omega)
      have hpd : Pd as FR G S p j g ob := ⟨z1, by omega, am, f, z3, z4, z5, z6, z7⟩
      refine ⟨?_, madeA_own z6, by rw [← z7]; exact d.unlaid z3 z4 (k := i) (by omega)⟩
      rcases iv.pend g with ⟨j', ob2, r1, r2⟩ | ⟨r1, _⟩
      · obtain ⟨_, e2⟩ := d.pd_fun hpd r1
        rw [r2, e2]
      · exact absurd hpd (r1 j ob)
    · left
      rw [← q2]; exact hg
  refine ⟨i + 1, _, HS1, σ', w', a', ⟨by omega, slots_step d iv ha hS suc hf (ds ++ (FR p).dfs) (FR 0).round, fun j am h1 h2 h3 => ?_, fun j am h1 h2 h3 => ?_, x1, fun g => ?_, fun j am h1 h2 h3 => ?_, ?_, iv.evo.trans hevo⟩, st⟩
  · rcases Nat.lt_or_ge j i with q | q
    · exact .inl (ahead j am q h2 h3)
    · exact .inr (by omega)
  · rintro (q | q)
    · exact behind j am (by omega) h2 h3 q
    · omega
  · rcases x2 g with ⟨j, ob, _, q1, q2⟩ | ⟨q1, q2⟩
    · exact .inl ⟨j, ob, q1, q2⟩
    · refine .inr ⟨fun j ob hpd => ?_, q2⟩
      have hpd' := hpd
      obtain ⟨_, _, am, f, z3, _⟩ := hpd'
      exact q1 j ob (d.lt z3) hpd
  · have hlt : G j < HS.n := by
      rw [iv.hn]
      have := (d.below h1 h2).2
      have := d.n_le (i := 0) (j := p) (by omega) iv.pn
      omega
    rw [hevo.old.2 _ hlt]
    exact iv.free j am h1 h2 fun q => h3 (.inl q)
  · have : (⟨(val ao.dst ⟨tS, ds ++ (FR p).dfs, (FR 0).round⟩ v).tm, (FR (i + 1)).dfs, (FR 0).round⟩ : AFr) = val ao.dst ⟨tS, ds ++ (FR p).dfs, (FR 0).round⟩ v := by
      rw [hf, val_dfs, hdfs]
      cases ao.dst <;> rfl
    rw [this]
    exact F1

end
end Go.Am
