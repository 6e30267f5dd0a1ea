/-
  The abstract machine: regions that draw their order (1): what an operation looks at.
-/
import Derived.Test.YtdhpgfhidldmgaaAmGrow3
namespace Go.Am

section
variable {P : Program} {ih : Ex}

theorem optA_congr {t t2 : Trie Value} {o : Option Operand} (hx : ∀ x ∈ listO o, ev t x = ev t2 x) : optA t o = optA t2 o := by
  cases o with
  | none => rfl
  | some x => simp only [optA, hx x (by simp [listO])]

theorem map_congr {t t2 : Trie Value} {l : List Operand} (hx : ∀ x ∈ l, ev t x = ev t2 x) : l.map (ev t) = l.map (ev t2) := List.map_congr_left hx
theorem parts_congr {t t2 : Trie Value} {l : List (Nat × Nat × Operand)} (hx : ∀ x ∈ l.map (·.2.2), ev t x = ev t2 x) : evParts t l = evParts t2 l := by
  unfold evParts
  refine List.map_congr_left fun p hp => ?_
  obtain ⟨a, b, x⟩ := p
  simp only [hx x (List.mem_map.2 ⟨_, hp, rfl⟩)]

theorem aop_congr {t t2 : Trie Value} {h : AHeap} {op : AOp} (hx : ∀ x ∈ opsA op, ev t x = ev t2 x) : aop P ih t h op = aop P ih t2 h op := by
  cases op with
  | build z ps => simp only [aop, parts_congr hx]
  | buildSlice l c z ps => simp only [aop, parts_congr hx]
  | slice c x lo hi mx =>
    simp only [opsA, List.mem_cons, List.mem_append] at hx
    simp only [aop, hx x (.inl rfl), optA_congr (o := lo) fun y hy => hx y (.inr (.inl (.inl hy))), optA_congr (o := hi) fun y hy => hx y (.inr (.inl (.inr hy))), optA_congr (o := mx) fun y hy => hx y (.inr (.inr hy))]
  | sliceArr n c x lo hi mx =>
    simp only [opsA, List.mem_cons, List.mem_append] at hx
    simp only [aop, hx x (.inl rfl), optA_congr (o := lo) fun y hy => hx y (.inr (.inl (.inl hy))), optA_congr (o := hi) fun y hy => hx y (.inr (.inl (.inr hy)))]
  | sliceStr x lo hi =>
    simp only [opsA, List.mem_cons, List.mem_append] at hx
    simp only [aop, hx x (.inl rfl), optA_congr (o := lo) fun y hy => hx y (.inr (.inl hy)), optA_congr (o := hi) fun y hy => hx y (.inr (.inr hy))]
  | maxmin m xs =>
    cases xs with
    | nil => rfl
    | cons x r => simp only [aop, hx x (List.mem_cons_self ..), map_congr fun y hy => hx y (List.mem_cons_of_mem _ hy)]
  | mkFunc fn a b => simp only [aop, map_congr (l := a) fun y hy => hx y (List.mem_append_left _ hy), map_congr (l := b) fun y hy => hx y (List.mem_append_right _ hy)]
  | call f args => simp only [aop, hx f (List.mem_cons_self ..), map_congr fun y hy => hx y (List.mem_cons_of_mem _ hy)]
  | dfr f args => rfl
  | dfrClear _ _ _ _ => rfl
  | _ =>
    simp only [opsA, List.mem_cons, List.not_mem_nil, or_false, forall_eq_or_imp, forall_eq] at hx
    simp only [aop, hx]

theorem aoperV_congr {t t2 : Trie Value} {rd : Option Nat} {h : AHeap} {op : AOp} (hx : ∀ x ∈ opsA op, ev t x = ev t2 x) : aoperV P ih t rd h op = aoperV P ih t2 rd h op := by
  cases op with
  | dfr f args => simp only [aoperV, hx f (List.mem_cons_self ..), map_congr fun y hy => hx y (List.mem_cons_of_mem _ hy)]
  | dfrClear ty tp cs m => simp only [aoperV, hx m (List.mem_cons_self ..)]
  | _ => simp only [aoperV, aop_congr hx]

theorem madeA_congr {t t2 : Trie Value} {op : AOp} (hx : ∀ x ∈ opsA op, ev t x = ev t2 x) : madeA t op = madeA t2 op := by
  cases op with
  | buildSlice l c z ps => simp only [madeA, parts_congr hx]
  | box x => simp only [madeA, hx x (List.mem_cons_self ..)]
  | mkSlice c z l cp =>
    simp only [opsA, List.mem_cons, List.not_mem_nil, or_false, forall_eq_or_imp, forall_eq] at hx
    simp only [madeA, hx]
  | _ => rfl

theorem names_ev {t t2 : Trie Value} {o : AOper} (hx : ∀ s ∈ namesOf o, tmGet t s = tmGet t2 s) : ∀ x ∈ opsA o.op, ev t x = ev t2 x := by
  intro x hxm
  cases x with
  | tmp s =>
    refine hx s (List.mem_append_left _ ?_)
    exact List.mem_filterMap.2 ⟨.tmp s, hxm, rfl⟩
  | _ => rfl

theorem names_wanted {t t2 : Trie Value} {o : AOper} (hx : ∀ s ∈ namesOf o, tmGet t s = tmGet t2 s) : wantedA t o.guard = wantedA t2 o.guard := by
  cases hg : o.guard with
  | none => rfl
  | some p =>
    obtain ⟨j, want⟩ := p
    simp only [wantedA, hx j (by simp [namesOf, hg])]

/-! ### The heap -/
/-- The group that an operation reads. -/
def readsO (t : Trie Value) : AOp → Option Nat
  | .load _ _ x | .sliceArr _ _ x _ _ _ => (match ev t x with
    | .pointer (some a) => some a.block
    | _ => none)
  | .lookup _ _ m _ | .lenMap m => (match ev t m with
    | .map (some g) => some g
    | _ => none)
  | _ => none

theorem readsA_eq (t : Trie Value) (o : AOper) (hw : wantedA t o.guard = true) : readsA t o = readsO t o.op := by
  unfold readsA
  rw [hw]
  cases o.op <;> rfl

theorem rowOf_congr {h h2 : AHeap} {g : Nat} (e : h2.get g = h.get g) : rowOf h2 g = rowOf h g := by unfold rowOf; rw [e]
theorem rowOf_live {h : AHeap} {g : Nat} {c : List Value} (e : rowOf h g = some c) : h.get g ≠ none := by
  unfold rowOf at e
  intro e'
  rw [e'] at e
  cases e

theorem quietF {α : Type} {f : α → Value} {x : Option α} {h h' : AHeap} {v : Value} (e : (x.map fun a => (f a, h)) = some (v, h')) : h' = h ∧ ∃ a, x = some a ∧ f a = v := by
  simp only [Option.map_eq_some_iff, Prod.mk.injEq] at e
  obtain ⟨a, e0, e1, e2⟩ := e
  exact ⟨e2.symm, a, e0, e1⟩

theorem aop_quiet0 {t : Trie Value} {h h' : AHeap} {op : AOp} {v : Value} (hk : kindA op = 0) (hx : aop P ih t h op = some (v, h')) : h' = h ∧ ∀ h2 : AHeap, aop P ih t h2 op = some (v, h2) := by
  have plain : ∀ {x : Option Value}, (x.map fun a => (a, h)) = some (v, h') → h' = h ∧ ∀ h2 : AHeap, (x.map fun a => (a, h2)) = some (v, h2) := fun {x} e => by
    obtain ⟨e1, a, e2, e3⟩ := quietF e
    refine ⟨e1, fun h2 => ?_⟩
    rw [e2, ← e3]; rfl
  cases op with
  | mov x => simp only [aop] at hx ⊢; cases hx; exact ⟨rfl, fun _ => rfl⟩
  | lenC n => simp only [aop] at hx ⊢; cases hx; exact ⟨rfl, fun _ => rfl⟩
  | pick c a b =>
    simp only [aop] at hx ⊢
    cases hc : ev t c with
    | bool c => simp only [hc] at hx; cases hx; exact ⟨rfl, fun _ => rfl⟩
    | _ => simp [hc] at hx
  | bin op x y => exact plain hx
  | un op x => exact plain hx
  | maxmin m xs =>
    cases xs with
    | nil => cases hx
    | cons x r => exact plain hx
  | slice c x lo hi mx =>
    simp only [aop] at hx ⊢
    cases h1 : optA t lo with
    | none => simp [h1] at hx
    | some lo' =>
    cases h2 : optA t hi with
    | none => simp [h1, h2] at hx
    | some hi' =>
    cases h3 : optA t mx with
    | none => simp [h1, h2, h3] at hx
    | some mx' =>
    simp only [h1, h2, h3] at hx
    exact plain hx
  | isNil k n x =>
    simp only [aop] at hx ⊢
    obtain ⟨e1, a, e2, e3⟩ := quietF (f := fun b => Value.bool (if n then !b else b)) hx
    exact ⟨e1, fun h2 => by rw [e2, ← e3]; rfl⟩
  | build z ps =>
    simp only [aop] at hx ⊢
    obtain ⟨e1, a, e2, e3⟩ := quietF (f := fun cells : List Value => Value.agg cells.toArray) hx
    exact ⟨e1, fun h2 => by rw [e2, ← e3]; rfl⟩
  | len x =>
    simp only [aop] at hx ⊢
    cases hl : lenA (ev t x) with
    | none => rw [hl] at hx; cases hx
    | some n =>
      rw [hl] at hx
      cases hx
      exact ⟨rfl, fun h2 => rfl⟩
  | part agg off n x =>
    simp only [aop] at hx ⊢
    cases hv : ev t x with
    | agg cs => simp only [hv] at hx; exact plain hx
    | _ => simp [hv] at hx
  | elem len agg n x i =>
    simp only [aop] at hx ⊢
    cases hv : ev t x with
    | agg cs =>
      cases hi : asN (ev t i) with
      | none => simp [hv, hi] at hx
      | some i' =>
        simp only [hv, hi] at hx
        obtain ⟨hc, hx⟩ := cond_some hx
        simp only [hc, cond_true]
        exact plain hx
    | _ => simp [hv] at hx
  | binB neg x y =>
    simp only [aop] at hx ⊢
    cases hv : ev t x with
    | bool a =>
      cases hw : ev t y with
      | bool b => simp only [hv, hw] at hx; cases hx; exact ⟨rfl, fun _ => rfl⟩
      | _ => simp [hv, hw] at hx
    | _ => simp [hv] at hx
  | binP op ty x y =>
    simp only [aop] at hx ⊢
    obtain ⟨hc, hx⟩ := cond_some hx
    split at hx
    · rename_i v0 hp
      obtain ⟨hc2, hx⟩ := cond_some hx
      cases hx
      exact ⟨rfl, fun h2 => by simp only [hc, hp, hc2, cond_true]⟩
    · cases hx
  | convP s d x =>
    simp only [aop] at hx ⊢
    obtain ⟨hc, hx⟩ := cond_some hx
    split at hx
    · rename_i v0 hp
      obtain ⟨hc2, hx⟩ := cond_some hx
      cases hx
      exact ⟨rfl, fun h2 => by simp only [hc, hp, hc2, cond_true]⟩
    · cases hx
  | conv k x =>
    simp only [aop] at hx ⊢
    cases hv : ev t x with
    | int k' n => simp only [hv] at hx; cases hx; exact ⟨rfl, fun _ => rfl⟩
    | _ => simp [hv] at hx
  | idx c x i =>
    simp only [aop] at hx ⊢
    split at hx
    · rename_i a len k i' q1 q2
      obtain ⟨hc, hx⟩ := cond_some hx
      cases hx
      exact ⟨rfl, fun h2 => by simp only [q1, q2, hc, cond_true]⟩
    · cases hx
  | idxArr len c x i =>
    simp only [aop] at hx ⊢
    split at hx
    · rename_i a i' q1 q2
      obtain ⟨hc, hx⟩ := cond_some hx
      cases hx
      exact ⟨rfl, fun h2 => by simp only [q1, q2, hc, cond_true]⟩
    · cases hx
  | fld off x =>
    simp only [aop] at hx ⊢
    split at hx
    · rename_i a q1
      obtain ⟨hc, hx⟩ := cond_some hx
      cases hx
      exact ⟨rfl, fun h2 => by simp only [q1, hc, cond_true]⟩
    · cases hx
  | elemStr x i =>
    simp only [aop] at hx ⊢
    split at hx
    · rename_i s i' q1 q2
      split at hx
      · rename_i b q3
        cases hx
        exact ⟨rfl, fun h2 => by simp only [q1, q2, q3]⟩
      · cases hx
    · cases hx
  | sliceStr x lo hi =>
    simp only [aop] at hx ⊢
    split at hx
    · rename_i s lo' hi' q1 q2 q3
      obtain ⟨hc, hx⟩ := cond_some hx
      cases hx
      exact ⟨rfl, fun h2 => by simp only [q1, q2, q3, hc, cond_true]⟩
    · cases hx
  | lenStr x =>
    simp only [aop] at hx ⊢
    split at hx
    · rename_i s q1
      cases hx
      exact ⟨rfl, fun h2 => by simp only [q1]⟩
    · cases hx
  | mkFunc fn a b =>
    simp only [aop] at hx ⊢
    split at hx
    · cases hx; exact ⟨rfl, fun _ => rfl⟩
    · cases hx
  | extract x i =>
    simp only [aop] at hx ⊢
    split at hx
    · rename_i vs q1
      split at hx
      · rename_i v0 q2
        cases hx
        exact ⟨rfl, fun h2 => by simp only [q1, q2]⟩
      · cases hx
    · cases hx
  | nilCheck x =>
    simp only [aop] at hx ⊢
    split at hx
    · rename_i a q1
      cases hx
      exact ⟨rfl, fun h2 => by simp only [q1]⟩
    · rename_i f a b q1
      cases hx
      exact ⟨rfl, fun h2 => by simp only [q1]⟩
    · rename_i f a b q1
      cases hx
      exact ⟨rfl, fun h2 => by simp only [q1]⟩
    · cases hx
  | _ => cases hk

/-- What reads no heap, or but one group, does the same in all heaps that are alike there. -/
theorem aop_heap {t : Trie Value} {h h' : AHeap} {op : AOp} {v : Value} (hk : kindA op = 0 ∨ kindA op = 1) (hx : aop P ih t h op = some (v, h')) :
    h' = h ∧ (∀ g, readsO t op = some g → h.get g ≠ none) ∧ ∀ h2 : AHeap, (∀ g, readsO t op = some g → h2.get g = h.get g) → aop P ih t h2 op = some (v, h2) := by
  have quiet : ∀ {x : Option Value}, (x.map fun v => (v, h)) = some (v, h') → h' = h ∧ x = some v := fun {x} e => by
    simp only [Option.map_eq_some_iff, Prod.mk.injEq] at e
    obtain ⟨v0, e0, rfl, rfl⟩ := e
    exact ⟨rfl, e0⟩
  cases op with
  | load agg n x =>
    simp only [aop] at hx
    simp only [readsO, aop]
    split at hx
    · rename_i a ha
      simp only [ha]
      cases hs : a.spot.isNone with
      | false => simp [hs] at hx
      | true =>
      simp only [hs, cond_true] at hx ⊢
      obtain ⟨e1, e2⟩ := quiet hx
      refine ⟨e1, fun g hg => ?_, fun h2 hh => ?_⟩
      · cases hg
        cases hr : rowOf h a.block with
        | none => simp [hr] at e2
        | some c => exact rowOf_live hr
      · rw [rowOf_congr (hh _ rfl), e2]; rfl
    · cases hx
  | sliceArr n c x lo hi mx =>
    simp only [aop] at hx
    simp only [readsO, aop]
    split at hx
    · rename_i a ha
      simp only [ha]
      split at hx
      · rename_i lo' hi' cells q1 q2 q4
        obtain ⟨hc, hx⟩ := cond_some hx
        cases hx
        refine ⟨rfl, fun g hg => ?_, fun h2 hh => ?_⟩
        · cases hg; exact rowOf_live q4
        · rw [rowOf_congr (hh _ rfl)]
          simp only [q1, q2, q4, hc, cond_true]
      · cases hx
    · cases hx
  | lenMap m =>
    simp only [aop] at hx
    simp only [readsO, aop]
    split at hx
    · rename_i hm
      simp only [hm]
      cases hx
      exact ⟨rfl, (fun g hg => by cases hg), fun h2 _ => rfl⟩
    · rename_i g hm
      simp only [hm]
      split at hx
      · rename_i es cl hg
        cases hx
        refine ⟨rfl, (fun g' hg' => by cases hg'; rw [hg]; simp), fun h2 hh => ?_⟩
        rw [hh _ rfl, hg]
      · cases hx
    · cases hx
  | lookup ok z m k =>
    simp only [aop] at hx
    simp only [readsO, aop]
    have look : ∀ (h1 : AHeap) (es : Option (List MapEntry)), (match es with
        | none => none
        | some es => match ev t k with
          | .int kk n => (match findA (.int kk n) es 0 with
            | some (some (_, v)) => some (if ok then Value.tuple #[v, .bool true] else v, h1)
            | some none => some (if ok then .tuple #[z, .bool false] else z, h1)
            | none => none)
          | _ => none) = ((es.bind fun es => match ev t k with
          | .int kk n => (match findA (.int kk n) es 0 with
            | some (some (_, v)) => some (if ok then Value.tuple #[v, .bool true] else v)
            | some none => some (if ok then .tuple #[z, .bool false] else z)
            | none => none)
          | _ => none).map fun v => (v, h1)) := by
      intro h1 es
      cases es with
      | none => rfl
      | some es =>
        simp only [Option.bind_some]
        cases hk' : ev t k with
        | int kk n =>
          simp only
          cases hf : findA (.int kk n) es 0 with
          | none => rfl
          | some r => cases r with
            | none => rfl
            | some q => rfl
        | _ => rfl
    have hx := (look h _).symm.trans hx
    obtain ⟨e1, e2⟩ := quiet hx
    refine ⟨e1, fun g hg => ?_, fun h2 hh => ?_⟩
    · intro hn
      split at hg
      · rename_i g' hm
        cases hg
        simp only [hm, hn, Option.bind_none] at e2
        cases e2
      · cases hg
    · refine (look h2 _).trans ?_
      cases hm : ev t m with
      | map r =>
        cases r with
        | none =>
          rw [hm] at e2
          exact congrArg (Option.map fun v => (v, h2)) e2
        | some g =>
          rw [hm] at e2
          simp only [hm] at hh
          simp only [hh g rfl]
          exact congrArg (Option.map fun v => (v, h2)) e2
      | _ => rw [hm] at e2; simp at e2
  | alloc _ => rcases hk with e | e <;> cases e
  | box _ => rcases hk with e | e <;> cases e
  | buildSlice _ _ _ _ => rcases hk with e | e <;> cases e
  | mkSlice _ _ _ _ => rcases hk with e | e <;> cases e
  | mkMap => rcases hk with e | e <;> cases e
  | stuck => rcases hk with e | e <;> cases e
  | store _ _ _ => rcases hk with e | e <;> cases e
  | append _ _ _ => rcases hk with e | e <;> cases e
  | copy _ _ _ => rcases hk with e | e <;> cases e
  | update _ _ _ => rcases hk with e | e <;> cases e
  | delete _ _ => rcases hk with e | e <;> cases e
  | clear _ => rcases hk with e | e <;> cases e
  | call _ _ => rcases hk with e | e <;> cases e
  | dfr _ _ => rcases hk with e | e <;> cases e
  | dfrClear _ _ _ _ => rcases hk with e | e <;> cases e
  | _ =>
    have q := aop_quiet0 (by rcases hk with e | e <;> first | exact e | cases e) hx
    exact ⟨q.1, (fun g hg => by cases hg), fun h2 _ => q.2 h2⟩

end
end Go.Am
