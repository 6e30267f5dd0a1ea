/-
  The abstract machine by itself: regions that draw their order, one step after the other; growth of all runs.
-/
import Derived.Test.YtdhpgfhidldmgaaAmGrow
namespace Go.Am

theorem cond_some {α : Type} {b : Bool} {x : Option α} {y : α} (h : (bif b then x else none) = some y) : b = true ∧ x = some y := by
  cases b with
  | false => cases h
  | true => exact ⟨rfl, h⟩

section
variable {P : Program} {ih : Ex}

theorem aoperV_grow (hi : ExGrow ih) {t : Trie Value} {rd : Option Nat} {h h' : AHeap} {op : AOp} {v : Value} {ds : List Deferred} (hx : aoperV P ih t rd h op = some (v, ds, h')) : Grow h.n h h' := by
  unfold aoperV at hx
  split at hx
  · split at hx
    · cases hx; exact Grow.refl _ _
    · cases hx
  · split at hx
    · cases hx; exact Grow.refl _ _
    · cases hx
  · cases ha : aop P ih t h op with
    | none => simp [ha] at hx
    | some p =>
      obtain ⟨v0, h0⟩ := p
      simp only [ha, Option.some.injEq, Prod.mk.injEq] at hx
      obtain ⟨rfl, rfl, rfl⟩ := hx
      exact aop_grow hi ha

theorem aoper_grow (hi : ExGrow ih) {o : AOper} {fr fr' : AFr} {h h' : AHeap} (hx : aoper P ih o fr h = some (fr', h')) : Grow h.n h h' := by
  unfold aoper at hx
  cases hw : wantedA fr.tm o.guard with
  | false =>
    simp only [hw, cond_false, Option.some.injEq, Prod.mk.injEq] at hx
    obtain ⟨_, rfl⟩ := hx
    exact Grow.refl _ _
  | true =>
    simp only [hw, cond_true] at hx
    cases hv : aoperV P ih fr.tm fr.round h o.op with
    | none => simp [hv] at hx
    | some p =>
      obtain ⟨v, ds, h1⟩ := p
      simp only [hv, Option.some.injEq, Prod.mk.injEq] at hx
      obtain ⟨_, rfl⟩ := hx
      exact aoperV_grow hi hv

theorem aopers_grow (hi : ExGrow ih) : ∀ {l : List AOper} {fr fr' : AFr} {h h' : AHeap}, aopers P ih l fr h = some (fr', h') → Grow h.n h h' := by
  intro l
  induction l with
  | nil => intro fr fr' h h' hx; simp only [aopers, Option.some.injEq, Prod.mk.injEq] at hx; obtain ⟨_, rfl⟩ := hx; exact Grow.refl _ _
  | cons o l ihl =>
    intro fr fr' h h' hx
    simp only [aopers] at hx
    cases ho : aoper P ih o fr h with
    | none => simp [ho] at hx
    | some p =>
      obtain ⟨fr1, h1⟩ := p
      simp only [ho] at hx
      exact (aoper_grow hi ho).on (ihl hx)

theorem madeA_own {t : Trie Value} {op : AOp} {o : AObj} {f : Nat → Value} (hx : madeA t op = some (o, f)) : ownO o = true := by
  unfold madeA at hx
  simp only [Bool.cond_eq_ite] at hx
  repeat' split at hx
  all_goals first
    | (cases hx; done)
    | (cases hx; rfl)
    | (simp only [Option.map_eq_some_iff, Prod.mk.injEq] at hx; obtain ⟨_, _, rfl, _⟩ := hx; rfl)

theorem aoperC_grow (hi : ExGrow ih) {g m : Nat} {o : AOper} {fr fr' : AFr} {h h' : AHeap} (hm : m ≤ h.n) (hg : kindA o.op = 3 → m ≤ g ∧ g < h.n) (hx : aoperC P ih g o fr h = some (fr', h')) : Grow m h h' := by
  unfold aoperC at hx
  cases hk : Nat.beq (kindA o.op) 3 with
  | false =>
    simp only [hk, cond_false] at hx
    exact (aoper_grow hi hx).le hm
  | true =>
    simp only [hk, cond_true] at hx
    obtain ⟨h1, h2⟩ := hg (Nat.eq_of_beq_eq_true hk)
    cases hw : wantedA fr.tm o.guard with
    | false =>
      simp only [hw, cond_false, Option.some.injEq, Prod.mk.injEq] at hx
      obtain ⟨_, rfl⟩ := hx
      exact Grow.refl _ _
    | true =>
      simp only [hw, cond_true] at hx
      cases hv : madeA fr.tm o.op with
      | none => simp [hv] at hx
      | some p =>
        obtain ⟨ob, f⟩ := p
        simp only [hv, Option.some.injEq, Prod.mk.injEq] at hx
        obtain ⟨_, rfl⟩ := hx
        exact grow_lay h h1 h2 (madeA_own hv)

/-- A region that draws its order, in the text's order: the frames, the heaps, the groups set aside. -/
structure Tr (P : Program) (ih : Ex) (l : List (AOper × List Nat)) (i : Nat) (FR : Nat → AFr) (H : Nat → AHeap) (G : Nat → Nat) : Prop where
  step : ∀ k x, l[k]? = some x → aoperC P ih (G k) x.1 (FR k) { H k with mark := (H k).n, wr := [] } = some (FR (k + 1), H (k + 1))
  next : ∀ k x, l[k]? = some x → G (k + 1) = bif Nat.beq (kindA x.1.op) 3 then G k + 1 else G k
  read : ∀ k x g k2, l[k]? = some x → readsA (FR k).tm x.1 = some g → k2 < k → (i + k2) ∈ x.2 → g < (H k2).n ∧ g ∉ (H (k2 + 1)).wr
  write : ∀ k x k2 x2 g, l[k]? = some x → k2 < k → l[k2]? = some x2 → readsA (FR k2).tm x2.1 = some g → (i + k2) ∈ x.2 → g ∉ (H (k + 1)).wr

theorem trace : ∀ {l : List (AOper × List Nat)} {i g : Nat} {ws rs bs ws' : List (Nat × Nat)} {fr fr' : AFr} {h h' : AHeap}, aopersC P ih l i g ws rs bs fr h = some (fr', h', ws') →
    ∃ FR H G, FR 0 = fr ∧ H 0 = h ∧ G 0 = g ∧ FR l.length = fr' ∧ H l.length = h' ∧ Tr P ih l i FR H G ∧
      (∀ k x g, l[k]? = some x → readsA (FR k).tm x.1 = some g → (∀ j g', (j, g') ∈ ws → j ∈ x.2 → g ≠ g') ∧ ∀ j n, (j, n) ∈ bs → j ∈ x.2 → g < n) ∧
      (∀ k x j g, l[k]? = some x → (j, g) ∈ rs → j ∈ x.2 → g ∉ (H (k + 1)).wr) ∧
      (∀ e, e ∈ ws → e ∈ ws') ∧ ∀ k, k < l.length → ∀ g, g ∈ (H (k + 1)).wr → ∃ j, (j, g) ∈ ws' := by
  intro l
  induction l with
  | nil =>
    intro i g ws rs bs ws' fr fr' h h' hx
    simp only [aopersC, Option.some.injEq, Prod.mk.injEq] at hx
    obtain ⟨rfl, rfl, rfl⟩ := hx
    exact ⟨fun _ => fr, fun _ => h, fun _ => g, rfl, rfl, rfl, rfl, rfl, ⟨fun k x e => by simp at e, fun k x e => by simp at e, fun k x g k2 e => by simp at e, fun k x k2 x2 g e => by simp at e⟩,
      fun k x g e => by simp at e, fun k x j g e => by simp at e, fun e x => x, fun k hk => by simp at hk⟩
  | cons y l ihl =>
    intro i g ws rs bs ws' fr fr' h h' hx
    obtain ⟨o, un⟩ := y
    simp only [aopersC] at hx
    cases ho : aoperC P ih g o fr { h with mark := h.n, wr := [] } with
    | none => simp [ho] at hx
    | some p =>
    obtain ⟨fr1, h1⟩ := p
    simp only [ho] at hx
    obtain ⟨hok, hx⟩ := cond_some hx
    rw [Bool.and_eq_true] at hok
    obtain ⟨hok1, hok2⟩ := hok
    obtain ⟨FR, H, G, f0, f1, f2, f3, f4, tr, f5, f6, f7, f8⟩ := ihl hx
    have hread0 : ∀ g0, readsA fr.tm o = some g0 → (∀ j g', (j, g') ∈ ws → j ∈ un → g0 ≠ g') ∧ ∀ j n, (j, n) ∈ bs → j ∈ un → g0 < n := by
      intro g0 hr0
      rw [hr0] at hok1
      simp only [Bool.and_eq_true, List.all_eq_true] at hok1
      refine ⟨fun j g' hm hj e => ?_, fun j n hm hj => ?_⟩
      · have := hok1.1 _ hm
        subst e
        simp [hj] at this
      · have := hok1.2 _ hm
        simp [hj] at this
        omega
    have hwr0 : ∀ j g0, (j, g0) ∈ rs → j ∈ un → g0 ∉ h1.wr := by
      intro j g0 hm hj hw
      have := List.all_eq_true.1 hok2 _ hm
      simp [hj, hw] at this
    refine ⟨fun k => match k with | 0 => fr | k + 1 => FR k, fun k => match k with | 0 => h | k + 1 => H k, fun k => match k with | 0 => g | k + 1 => G k, rfl, rfl, rfl, f3, f4, ⟨?_, ?_, ?_, ?_⟩, ?_, ?_, ?_, ?_⟩
    · intro k x e
      cases k with
      | zero =>
        simp only [List.getElem?_cons_zero, Option.some.injEq] at e
        subst e
        simp only [f0, f1]
        exact ho
      | succ k => exact tr.step k x (by simpa using e)
    · intro k x e
      cases k with
      | zero =>
        simp only [List.getElem?_cons_zero, Option.some.injEq] at e
        subst e
        simp only [f2, Bool.cond_eq_ite]
      | succ k => exact tr.next k x (by simpa using e)
    · intro k x g0 k2 e hr0 hlt hj
      cases k with
      | zero => omega
      | succ k =>
        have e' : l[k]? = some x := by simpa using e
        cases k2 with
        | zero =>
          have hq := f5 k x g0 e' hr0
          refine ⟨hq.2 i h.n (List.mem_cons_self ..) (by simpa using hj), fun hw => ?_⟩
          simp only [f1] at hw
          exact hq.1 i g0 (List.mem_append_left _ (List.mem_map.2 ⟨g0, hw, rfl⟩)) (by simpa using hj) rfl
        | succ k2 => exact tr.read k x g0 k2 e' hr0 (by omega) (by rw [show i + 1 + k2 = i + (k2 + 1) by omega]; exact hj)
    · intro k x k2 x2 g0 e hlt e2 hr0 hj
      cases k with
      | zero => omega
      | succ k =>
        have e' : l[k]? = some x := by simpa using e
        cases k2 with
        | zero =>
          simp only [List.getElem?_cons_zero, Option.some.injEq] at e2
          subst e2
          simp only at hr0
          refine f6 k x i g0 e' ?_ (by simpa using hj)
          rw [hr0]
          exact List.mem_cons_self ..
        | succ k2 => exact tr.write k x k2 x2 g0 e' (by omega) (by simpa using e2) hr0 (by rw [show i + 1 + k2 = i + (k2 + 1) by omega]; exact hj)
    · intro k x g0 e hr0
      cases k with
      | zero =>
        simp only [List.getElem?_cons_zero, Option.some.injEq] at e
        subst e
        exact hread0 g0 hr0
      | succ k =>
        have hq := f5 k x g0 (by simpa using e) hr0
        exact ⟨fun j g' hm => hq.1 j g' (List.mem_append_right _ hm), fun j n hm => hq.2 j n (List.mem_cons_of_mem _ hm)⟩
    · intro k x j g0 e hm hj
      cases k with
      | zero =>
        simp only [List.getElem?_cons_zero, Option.some.injEq] at e
        subst e
        simp only [f1]
        exact hwr0 j g0 hm hj
      | succ k =>
        refine f6 k x j g0 (by simpa using e) ?_ hj
        split
        · exact List.mem_cons_of_mem _ hm
        · exact hm
    · intro e he
      exact f7 e (List.mem_append_right _ he)
    · intro k hk g0 hw
      cases k with
      | zero =>
        simp only [f1] at hw
        exact ⟨i, f7 _ (List.mem_append_left _ (List.mem_map.2 ⟨g0, hw, rfl⟩))⟩
      | succ k => exact f8 k (by simpa using hk) g0 hw

end
end Go.Am
