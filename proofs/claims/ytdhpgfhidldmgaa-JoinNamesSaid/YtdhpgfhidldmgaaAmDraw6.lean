/-
  The abstract machine: regions that draw their order (6): the state in between.
-/
import Derived.Test.YtdhpgfhidldmgaaAmDraw5
namespace Go.Am
open Go.RowKit

/-- An object that is laid ahead of its time: by operation j, done, from p on. -/
def Pd (as : List AOper) (FR : Nat → AFr) (G : Nat → Nat) (S : Nat → Prop) (p j g : Nat) (ob : AObj) : Prop :=
  S j ∧ p ≤ j ∧ ∃ ao f, as[j]? = some ao ∧ kindA ao.op = 3 ∧ wantedA (FR j).tm ao.guard = true ∧ madeA (FR j).tm ao.op = some (ob, f) ∧ G j = g

structure Inv (P : Program) (B : Nat) (nt : Nat) (ops : Array Oper) (as : List AOper) (FR : Nat → AFr) (H : Nat → AHeap) (G : Nat → Nat) (σ0 : Nat → Option Pl) (h0 : AHeap) (w0 : World) (b : Frame)
    (S : Nat → Prop) (p : Nat) (tS : Trie Value) (HS : AHeap) (σ : Nat → Option Pl) (w : World) (a : Act) : Prop where
  pn : p ≤ ops.size
  slots : ∀ (s m : Nat), m ≤ ops.size → (∀ (j : Nat) (ao : AOper), j < m → as[j]? = some ao → ao.dst = some s → S j) → (∀ (j : Nat) (ao : AOper), m ≤ j → as[j]? = some ao → ao.dst = some s → ¬ S j) → tmGet tS s = tmGet (FR m).tm s
  loud1 : ∀ (j : Nat) (ao : AOper), j < p → as[j]? = some ao → 2 ≤ kindA ao.op → S j
  loud2 : ∀ (j : Nat) (ao : AOper), p ≤ j → as[j]? = some ao → kindA ao.op = 2 → ¬ S j
  hn : HS.n = (H p).n
  pend : ∀ g, (∃ j ob, Pd as FR G S p j g ob ∧ HS.get g = some ob) ∨ ((∀ j ob, ¬ Pd as FR G S p j g ob) ∧ HS.get g = (H p).get g)
  free : ∀ (j : Nat) (ao : AOper), as[j]? = some ao → kindA ao.op = 3 → ¬ S j → σ (G j) = none
  rel : FRel P σ nt ⟨tS, (FR p).dfs, (FR 0).round⟩ a b
  evo : Evo P B σ0 h0 w0 σ HS w

section
variable {P : Program} {ih : Ex} {nt : Nat} {ops : Array Oper} {as : List AOper} {l : List (AOper × List Nat)} {FR : Nat → AFr} {H : Nat → AHeap} {G : Nat → Nat} {S : Nat → Prop}

theorem kind_le (op : AOp) : kindA op ≤ 3 := by cases op <;> simp [kindA]

theorem Dr.pd_fun (d : Dr P ih nt ops as l FR H G) {p p' j j' g : Nat} {S' : Nat → Prop} {ob ob' : AObj} (h1 : Pd as FR G S p j g ob) (h2 : Pd as FR G S' p' j' g ob') : j = j' ∧ ob = ob' := by
  obtain ⟨_, _, ao, f, a1, a2, _, a3, a4⟩ := h1
  obtain ⟨_, _, ao', f', b1, b2, _, b3, b4⟩ := h2
  have hj := d.lt a1
  have hj' := d.lt b1
  have e : j = j' := by
    rcases Nat.lt_trichotomy j j' with q | q | q
    · have := d.apart q (by omega) a1 a2; omega
    · exact q
    · have := d.apart q (by omega) b1 b2; omega
  subst e
  rw [a1] at b1; cases b1
  rw [a3] at b3; cases b3
  exact ⟨rfl, rfl⟩

/-- From p up to i: what lies at g, if nothing on the way gets in its way. -/
theorem Dr.walk (d : Dr P ih nt ops as l FR H G) {p g : Nat} : ∀ {i}, p ≤ i → i ≤ ops.size →
    (∀ (m : Nat) (ao : AOper), p ≤ m → m < i → as[m]? = some ao → (kindA ao.op = 2 → (H (m + 1)).get g = (H m).get g) ∧ (kindA ao.op = 3 → ¬ S m → wantedA (FR m).tm ao.guard = true → g ≠ G m)) →
    (∃ j ob, j < i ∧ Pd as FR G S p j g ob ∧ (H i).get g = some ob) ∨ ((∀ j ob, j < i → ¬ Pd as FR G S p j g ob) ∧ (H i).get g = (H p).get g) := by
  intro i
  induction i with
  | zero => intro h _ _; have : p = 0 := by omega
            subst this; exact .inr ⟨fun j ob hj => by omega, rfl⟩
  | succ i ihi =>
    intro h hi hm
    rcases Nat.lt_or_ge p (i + 1) with q | q
    · have h1 := ihi (by omega) (by omega) (fun m ao a b => hm m ao a (by omega))
      obtain ⟨o, ao, un, _, h3, _⟩ := d.get (k := i) (by omega)
      obtain ⟨m1, m2⟩ := hm i ao (by omega) (by omega) h3
      obtain ⟨v, ds, _, _, k0, k3⟩ := aoperC_spec (d.step h3)
      have same : (H (i + 1)).get g = (H i).get g → (∀ ob, ¬ Pd as FR G S p i g ob) →
          (∃ j ob, j < i + 1 ∧ Pd as FR G S p j g ob ∧ (H (i + 1)).get g = some ob) ∨ ((∀ j ob, j < i + 1 → ¬ Pd as FR G S p j g ob) ∧ (H (i + 1)).get g = (H p).get g) := by
        intro e hno
        rcases h1 with ⟨j, ob, a1, a2, a3⟩ | ⟨a1, a2⟩
        · exact .inl ⟨j, ob, by omega, a2, e.trans a3⟩
        · refine .inr ⟨fun j ob hj => ?_, e.trans a2⟩
          rcases Nat.lt_or_ge j i with q2 | q2
          · exact a1 j ob q2
          · have : j = i := by omega
            subst this
            exact hno ob
      have nk : kindA ao.op ≠ 3 → ∀ ob, ¬ Pd as FR G S p i g ob := by
        rintro hk ob ⟨_, _, ao', f, b1, b2, _⟩
        rw [h3] at b1; cases b1
        exact hk b2
      have hle := kind_le ao.op
      rcases (by omega : kindA ao.op = 0 ∨ kindA ao.op = 1 ∨ kindA ao.op = 2 ∨ kindA ao.op = 3) with hk | hk | hk | hk
      · exact same (by rw [k0 (.inl hk)]; rfl) (nk (by omega))
      · exact same (by rw [k0 (.inr hk)]; rfl) (nk (by omega))
      · exact same (m1 hk) (nk (by omega))
      · rcases k3 hk with ⟨kw, ke⟩ | ⟨ob, f, kw, km, ke, _⟩
        · refine same (by rw [ke]; rfl) ?_
          rintro ob ⟨_, _, ao', f, b1, b2, b3, _⟩
          rw [h3] at b1; cases b1
          rw [kw] at b3; cases b3
        · by_cases hg : g = G i
          · by_cases hS : S i
            · exact .inl ⟨i, ob, by omega, ⟨hS, by omega, ao, f, h3, hk, kw, km, hg.symm⟩, by rw [ke, get_lay, if_pos hg]⟩
            · exact absurd hg (m2 hk hS kw)
          · refine same (by rw [ke, get_lay, if_neg hg]; rfl) ?_
            rintro ob' ⟨_, _, ao', f', b1, b2, b3, b4, b5⟩
            exact hg b5.symm
    · have : p = i + 1 := by omega
      subst this
      exact .inr ⟨fun j ob hj ⟨_, h2, _⟩ => by omega, rfl⟩

/-- From i on up to p: what is live at g stays. -/
theorem Dr.stays (d : Dr P ih nt ops as l FR H G) {i g : Nat} {ob : AObj} (hl : (H i).get g = some ob) : ∀ {p}, i ≤ p → p ≤ ops.size →
    (∀ (m : Nat) (ao : AOper), i ≤ m → m < p → as[m]? = some ao → kindA ao.op = 2 → (H (m + 1)).get g = (H m).get g) → (H p).get g = some ob := by
  intro p
  induction p with
  | zero => intro h _ _; have : i = 0 := by omega
            subst this; exact hl
  | succ p ihp =>
    intro h hp hm
    rcases Nat.lt_or_ge i (p + 1) with q | q
    · have h1 := ihp (by omega) (by omega) (fun m ao a b => hm m ao a (by omega))
      obtain ⟨o, ao, un, _, h3, _⟩ := d.get (k := p) (by omega)
      obtain ⟨v, ds, _, _, k0, k3⟩ := aoperC_spec (d.step h3)
      have hle := kind_le ao.op
      rcases (by omega : kindA ao.op = 0 ∨ kindA ao.op = 1 ∨ kindA ao.op = 2 ∨ kindA ao.op = 3) with hk | hk | hk | hk
      · rw [k0 (.inl hk)]; exact h1
      · rw [k0 (.inr hk)]; exact h1
      · rw [hm p ao (by omega) (by omega) h3 hk]; exact h1
      · rcases k3 hk with ⟨kw, ke⟩ | ⟨ob', f, kw, km, ke, _⟩
        · rw [ke]; exact h1
        · rw [ke, get_lay, if_neg (fun e => by
            have := d.unlaid h3 hk (Nat.le_refl p)
            rw [← e, h1] at this
            cases this)]
          exact h1
    · have : i = p + 1 := by omega
      subst this; exact hl
end
end Go.Am
