/-
  The abstract machine: regions that draw their order (5): facts of the run in the text's order.
-/
import Derived.Test.YtdhpgfhidldmgaaAmDraw4
namespace Go.Am
open Go.RowKit

section
variable {P : Program} {ih : Ex}

theorem aoperC_spec {g : Nat} {o : AOper} {fr fr' : AFr} {h h' : AHeap} (hx : aoperC P ih g o fr h = some (fr', h')) :
    ∃ v ds, fr' = val o.dst { fr with dfs := ds ++ fr.dfs } v ∧ (kindA o.op ≠ 2 → ds = []) ∧ (kindA o.op = 0 ∨ kindA o.op = 1 → h' = h) ∧
      (kindA o.op = 3 → (wantedA fr.tm o.guard = false ∧ h' = h) ∨ ∃ ob f, wantedA fr.tm o.guard = true ∧ madeA fr.tm o.op = some (ob, f) ∧ h' = h.lay g ob ∧ v = f g) := by
  unfold aoperC at hx
  cases hk : Nat.beq (kindA o.op) 3 with
  | true =>
    have hk3 := Nat.eq_of_beq_eq_true hk
    simp only [hk, cond_true] at hx
    cases hw : wantedA fr.tm o.guard with
    | false =>
      simp only [hw, cond_false, Option.some.injEq, Prod.mk.injEq] at hx
      obtain ⟨rfl, rfl⟩ := hx
      exact ⟨undef, [], rfl, fun _ => rfl, fun _ => rfl, fun _ => .inl ⟨rfl, rfl⟩⟩
    | true =>
      simp only [hw, cond_true] at hx
      cases hv : madeA fr.tm o.op with
      | none => simp [hv] at hx
      | some p =>
        obtain ⟨ob, f⟩ := p
        simp only [hv, Option.some.injEq, Prod.mk.injEq] at hx
        obtain ⟨rfl, rfl⟩ := hx
        exact ⟨f g, [], rfl, fun _ => rfl, fun e => by omega, fun _ => .inr ⟨ob, f, rfl, rfl, rfl, rfl⟩⟩
  | false =>
    have hk3 : kindA o.op ≠ 3 := fun e => by rw [e] at hk; cases hk
    simp only [hk, cond_false] at hx
    unfold aoper at hx
    cases hw : wantedA fr.tm o.guard with
    | false =>
      simp only [hw, cond_false, Option.some.injEq, Prod.mk.injEq] at hx
      obtain ⟨rfl, rfl⟩ := hx
      exact ⟨undef, [], rfl, fun _ => rfl, fun _ => rfl, fun e => absurd e hk3⟩
    | true =>
      simp only [hw, cond_true] at hx
      cases hv : aoperV P ih fr.tm fr.round h o.op with
      | none => simp [hv] at hx
      | some p =>
        obtain ⟨v, ds, h1⟩ := p
        simp only [hv, Option.some.injEq, Prod.mk.injEq] at hx
        obtain ⟨rfl, rfl⟩ := hx
        have hds : kindA o.op ≠ 2 → ds = [] ∧ aop P ih fr.tm h o.op = some (v, h1) := by
          intro hk2
          unfold aoperV at hv
          split at hv
          · rename_i e; rw [e] at hk2; exact absurd rfl hk2
          · rename_i e; rw [e] at hk2; exact absurd rfl hk2
          · cases ha : aop P ih fr.tm h o.op with
            | none => simp [ha] at hv
            | some q =>
              obtain ⟨v0, h0⟩ := q
              simp only [ha, Option.some.injEq, Prod.mk.injEq] at hv
              obtain ⟨rfl, rfl, rfl⟩ := hv
              exact ⟨rfl, rfl⟩
        exact ⟨v, ds, rfl, fun e => (hds e).1, fun e => (aop_heap e (hds (by omega)).2).1, fun e => absurd e hk3⟩

/-- A region that draws its order, with its run in the text's order. -/
structure Dr (P : Program) (ih : Ex) (nt : Nat) (ops : Array Oper) (as : List AOper) (l : List (AOper × List Nat)) (FR : Nat → AFr) (H : Nat → AHeap) (G : Nat → Nat) : Prop where
  len : as.length = ops.size
  llen : l.length = as.length
  op : ∀ (i : Nat) (o : Oper) (ao : AOper), ops[i]? = some o → as[i]? = some ao → cOper P nt ops o = some ao
  lg : ∀ (k : Nat) (ao : AOper), as[k]? = some ao → ∃ un, l[k]? = some (ao, un) ∧ ∀ (k2 : Nat) (ao2 : AOper), k2 < k → as[k2]? = some ao2 → Bf (befs ops.toList []) k k2 = false → ((kindA ao2.op = 1 ∧ kindA ao.op = 2) ∨ (2 ≤ kindA ao2.op ∧ kindA ao.op = 1)) → k2 ∈ un
  pair : ∀ (i j : Nat) (ai aj : AOper), i < j → as[i]? = some ai → as[j]? = some aj → Bf (befs ops.toList []) j i = true ∨
    (¬ (kindA aj.op = 2 ∧ 2 ≤ kindA ai.op) ∧ (∀ d, ai.dst = some d → d ∉ namesOf aj ∧ aj.dst ≠ some d) ∧ ∀ d, aj.dst = some d → d ∉ namesOf ai)
  tr : Tr P ih l 0 FR H G
  grow : ExGrow ih
  room : G 0 + cnt l ≤ (H 0).n
  free : ∀ g, G 0 ≤ g → (H 0).get g = none

section
variable {nt : Nat} {ops : Array Oper} {as : List AOper} {l : List (AOper × List Nat)} {FR : Nat → AFr} {H : Nat → AHeap} {G : Nat → Nat}

theorem Dr.get (d : Dr P ih nt ops as l FR H G) {k : Nat} (hk : k < ops.size) : ∃ o ao un, ops[k]? = some o ∧ as[k]? = some ao ∧ l[k]? = some (ao, un) := by
  have h1 : k < as.length := by rw [d.len]; exact hk
  obtain ⟨un, h2, _⟩ := d.lg k as[k] (List.getElem?_eq_getElem h1)
  exact ⟨ops[k], as[k], un, Array.getElem?_eq_getElem hk, List.getElem?_eq_getElem h1, h2⟩

theorem Dr.lt (d : Dr P ih nt ops as l FR H G) {k : Nat} {ao : AOper} (ha : as[k]? = some ao) : k < ops.size := by
  rw [← d.len]; exact (List.getElem?_eq_some_iff.1 ha).1

theorem Dr.step (d : Dr P ih nt ops as l FR H G) {k : Nat} {ao : AOper} (ha : as[k]? = some ao) : aoperC P ih (G k) ao (FR k) { H k with mark := (H k).n, wr := [] } = some (FR (k + 1), H (k + 1)) := by
  obtain ⟨un, h2, _⟩ := d.lg k ao ha
  exact d.tr.step k _ h2

theorem Dr.next (d : Dr P ih nt ops as l FR H G) {k : Nat} {ao : AOper} (ha : as[k]? = some ao) : G (k + 1) = bif Nat.beq (kindA ao.op) 3 then G k + 1 else G k := by
  obtain ⟨un, h2, _⟩ := d.lg k ao ha
  exact d.tr.next k _ h2

theorem Dr.mono (d : Dr P ih nt ops as l FR H G) {i : Nat} : ∀ {j}, i ≤ j → j ≤ ops.size → G i ≤ G j := by
  intro j
  induction j with
  | zero => intro h _; have : i = 0 := by omega
            subst this; exact Nat.le_refl _
  | succ j ihj =>
    intro h hj
    rcases Nat.lt_or_ge i (j + 1) with q | q
    · have h1 := ihj (by omega) (by omega)
      obtain ⟨o, ao, un, _, h3, _⟩ := d.get (k := j) (by omega)
      have := d.next h3
      cases hb : Nat.beq (kindA ao.op) 3 <;> rw [hb] at this <;> simp at this <;> omega
    · have : i = j + 1 := by omega
      subst this; exact Nat.le_refl _

theorem Dr.apart (d : Dr P ih nt ops as l FR H G) {i j : Nat} {ao : AOper} (hij : i < j) (hj : j ≤ ops.size) (ha : as[i]? = some ao) (hk : kindA ao.op = 3) : G i < G j := by
  have h1 := d.next ha
  have hb : Nat.beq 3 3 = true := rfl
  rw [hk, hb] at h1
  simp only [cond_true] at h1
  have := d.mono (i := i + 1) (j := j) (by omega) hj
  omega

theorem Dr.below (d : Dr P ih nt ops as l FR H G) {k : Nat} {ao : AOper} (ha : as[k]? = some ao) (hk : kindA ao.op = 3) : G 0 ≤ G k ∧ G k < (H 0).n := by
  obtain ⟨un, h2, _⟩ := d.lg k ao ha
  have := d.tr.below h2 hk
  have := d.room
  omega

theorem Dr.n_le (d : Dr P ih nt ops as l FR H G) {i : Nat} : ∀ {j}, i ≤ j → j ≤ ops.size → (H i).n ≤ (H j).n := by
  intro j
  induction j with
  | zero => intro h _; have : i = 0 := by omega
            subst this; exact Nat.le_refl _
  | succ j ihj =>
    intro h hj
    rcases Nat.lt_or_ge i (j + 1) with q | q
    · have h1 := ihj (by omega) (by omega)
      have h2 : (H j).n ≤ (H (j + 1)).n := ((d.tr.grow d.grow (m := G 0) (Nat.le_refl _) d.room j).2 (by rw [d.llen, d.len]; omega)).n
      omega
    · have : i = j + 1 := by omega
      subst this; exact Nat.le_refl _

/-- A group set aside is not laid ahead of its operation. -/
theorem Dr.unlaid (d : Dr P ih nt ops as l FR H G) {j : Nat} {ao : AOper} (ha : as[j]? = some ao) (hk : kindA ao.op = 3) : ∀ {k}, k ≤ j → (H k).get (G j) = none := by
  have hj := d.lt ha
  obtain ⟨hb1, hb2⟩ := d.below ha hk
  intro k
  induction k with
  | zero => intro _; exact d.free _ hb1
  | succ k ihk =>
    intro hkj
    have h1 := ihk (by omega)
    obtain ⟨o, ao', un, _, h3, _⟩ := d.get (k := k) (by omega)
    have hs := d.step h3
    have hn := d.n_le (i := 0) (j := k) (by omega) (by omega)
    by_cases h3k : kindA ao'.op = 3
    · obtain ⟨v, ds, _, _, _, q⟩ := aoperC_spec hs
      rcases q h3k with ⟨_, q⟩ | ⟨ob, f, _, _, q, _⟩
      · rw [q]; exact h1
      · rw [q, get_lay, if_neg (fun e => by have := d.apart (i := k) (j := j) (by omega) (by omega) h3 h3k; omega)]
        exact h1
    · have hb : Nat.beq (kindA ao'.op) 3 = false := by
        cases hq : Nat.beq (kindA ao'.op) 3 with
        | false => rfl
        | true => exact absurd (Nat.eq_of_beq_eq_true hq) h3k
      unfold aoperC at hs
      rw [hb] at hs
      simp only [cond_false] at hs
      exact (aoper_grow d.grow hs).gone _ (by show G j < (H k).n; omega) h1

/-- Slots between: those that no operation writes stay. -/
theorem Dr.slot (d : Dr P ih nt ops as l FR H G) {s i : Nat} : ∀ {j}, i ≤ j → j ≤ ops.size → (∀ (m : Nat) (ao : AOper), i ≤ m → m < j → as[m]? = some ao → ao.dst ≠ some s) → tmGet (FR j).tm s = tmGet (FR i).tm s := by
  intro j
  induction j with
  | zero => intro h _ _; have : i = 0 := by omega
            subst this; rfl
  | succ j ihj =>
    intro h hj hn
    rcases Nat.lt_or_ge i (j + 1) with q | q
    · rw [← ihj (by omega) (by omega) (fun m ao a b => hn m ao a (by omega))]
      obtain ⟨o, ao, un, _, h3, _⟩ := d.get (k := j) (by omega)
      obtain ⟨v, ds, hf, _⟩ := aoperC_spec (d.step h3)
      rw [hf]
      cases hd : ao.dst with
      | none => rfl
      | some e =>
        have hne := hn j ao (by omega) (by omega) h3
        rw [hd] at hne
        show tmGet ((FR j).tm.set e v) s = _
        rw [tmGet_set, if_neg (fun q => hne (by rw [q]))]
    · have : i = j + 1 := by omega
      subst this; rfl

theorem val_round (d : Option Nat) (fr : AFr) (v : Value) : (val d fr v).round = fr.round := by cases d <;> rfl
theorem val_dfs (d : Option Nat) (fr : AFr) (v : Value) : (val d fr v).dfs = fr.dfs := by cases d <;> rfl

theorem Dr.round (d : Dr P ih nt ops as l FR H G) : ∀ {j}, j ≤ ops.size → (FR j).round = (FR 0).round := by
  intro j
  induction j with
  | zero => intro _; rfl
  | succ j ihj =>
    intro hj
    obtain ⟨o, ao, un, _, h3, _⟩ := d.get (k := j) (by omega)
    obtain ⟨v, ds, hf, _⟩ := aoperC_spec (d.step h3)
    rw [hf, val_round]
    exact ihj (by omega)

theorem Dr.dfs (d : Dr P ih nt ops as l FR H G) {i : Nat} : ∀ {j}, i ≤ j → j ≤ ops.size → (∀ (m : Nat) (ao : AOper), i ≤ m → m < j → as[m]? = some ao → kindA ao.op ≠ 2) → (FR j).dfs = (FR i).dfs := by
  intro j
  induction j with
  | zero => intro h _ _; have : i = 0 := by omega
            subst this; rfl
  | succ j ihj =>
    intro h hj hn
    rcases Nat.lt_or_ge i (j + 1) with q | q
    · rw [← ihj (by omega) (by omega) (fun m ao a b => hn m ao a (by omega))]
      obtain ⟨o, ao, un, _, h3, _⟩ := d.get (k := j) (by omega)
      obtain ⟨v, ds, hf, hds, _⟩ := aoperC_spec (d.step h3)
      rw [hf, val_dfs, hds (hn j ao (by omega) (by omega) h3)]
      rfl
    · have : i = j + 1 := by omega
      subst this; rfl
end
end
end Go.Am
