/-
  The abstract machine by itself: growth of all runs.
-/
import Derived.Test.YtdhpgfhidldmgaaAmGrow2
namespace Go.Am

section
variable {P : Program} {ih : Ex}

def cnt (l : List (AOper × List Nat)) : Nat := (l.filter fun x => Nat.beq (kindA x.1.op) 3).length

theorem cnt_take_le (l : List (AOper × List Nat)) (k : Nat) : cnt (l.take k) ≤ cnt l := ((List.take_sublist k l).filter _).length_le

theorem Tr.count {l : List (AOper × List Nat)} {i : Nat} {FR : Nat → AFr} {H : Nat → AHeap} {G : Nat → Nat} (tr : Tr P ih l i FR H G) : ∀ k, k ≤ l.length → G k = G 0 + cnt (l.take k) := by
  intro k
  induction k with
  | zero => intro _; simp [cnt]
  | succ k ihk =>
    intro hk
    have hlt : k < l.length := hk
    have e : l[k]? = some l[k] := List.getElem?_eq_getElem hlt
    rw [tr.next k _ e, List.take_add_one, e]
    simp only [Option.toList_some, cnt, List.filter_append, List.length_append]
    rw [ihk (by omega)]
    simp only [cnt]
    cases hb : Nat.beq (kindA l[k].1.op) 3 with
    | false => simp [List.filter_cons, hb]
    | true => simp [List.filter_cons, hb]; omega

theorem Tr.below {l : List (AOper × List Nat)} {i : Nat} {FR : Nat → AFr} {H : Nat → AHeap} {G : Nat → Nat} (tr : Tr P ih l i FR H G) {k : Nat} {x : AOper × List Nat} (e : l[k]? = some x) (h3 : kindA x.1.op = 3) : G 0 ≤ G k ∧ G k < G 0 + cnt l := by
  have hk : k < l.length := (List.getElem?_eq_some_iff.1 e).1
  have h1 := tr.count k (by omega)
  have h2 := tr.count (k + 1) hk
  have h4 := tr.next k x e
  rw [h3] at h4
  have hb : Nat.beq 3 3 = true := rfl
  simp only [hb, cond_true] at h4
  have := cnt_take_le l (k + 1)
  omega

theorem Tr.grow {l : List (AOper × List Nat)} {i : Nat} {FR : Nat → AFr} {H : Nat → AHeap} {G : Nat → Nat} (tr : Tr P ih l i FR H G) (hi : ExGrow ih) {m : Nat} (hm : m ≤ G 0) (hg : G 0 + cnt l ≤ (H 0).n) :
    ∀ k, (k ≤ l.length → (H 0).n ≤ (H k).n) ∧ (k < l.length → Grow m { H k with mark := (H k).n, wr := [] } (H (k + 1))) := by
  have step : ∀ k, k < l.length → (H 0).n ≤ (H k).n → Grow m { H k with mark := (H k).n, wr := [] } (H (k + 1)) := fun k hk hn => by
    have e : l[k]? = some l[k] := List.getElem?_eq_getElem hk
    refine aoperC_grow hi (by show m ≤ (H k).n; omega) (fun h3 => ?_) (tr.step k _ e)
    have := tr.below e h3
    exact ⟨by omega, by show G k < (H k).n; omega⟩
  intro k
  induction k with
  | zero => exact ⟨fun _ => Nat.le_refl _, fun hk => step 0 hk (Nat.le_refl _)⟩
  | succ k ihk =>
    have hn : k + 1 ≤ l.length → (H 0).n ≤ (H (k + 1)).n := fun hk => by
      have h1 := ihk.1 (by omega)
      have h2 : (H k).n ≤ (H (k + 1)).n := (ihk.2 hk).n
      omega
    exact ⟨hn, fun hk => step _ hk (hn (by omega))⟩

theorem regionA_grow (hi : ExGrow ih) {l : List (AOper × List Nat)} {fr fr' : AFr} {h h' : AHeap} (hx : regionA P ih l fr h = some (fr', h')) : Grow h.n h h' := by
  unfold regionA at hx
  cases hc : aopersC P ih l 0 h.n [] [] [] fr { h with n := h.n + (l.filter fun x => Nat.beq (kindA x.1.op) 3).length } with
  | none => simp [hc] at hx
  | some p =>
  obtain ⟨fr1, h1, ws⟩ := p
  simp only [hc, Option.some.injEq, Prod.mk.injEq] at hx
  obtain ⟨_, rfl⟩ := hx
  obtain ⟨FR, H, G, f0, f1, f2, f3, f4, tr, _, _, _, f8⟩ := trace hc
  have hgr := tr.grow hi (m := h.n) (by omega) (by rw [f1, f2]; exact Nat.le_refl _)
  have hget : ∀ (k g : Nat), ({ H k with mark := (H k).n, wr := [] } : AHeap).get g = (H k).get g := fun _ _ => rfl
  have h0 : ∀ g, (H 0).get g = h.get g := fun g => by rw [f1]; rfl
  have hn0 : h.n ≤ (H 0).n := by rw [f1]; exact Nat.le_add_right _ _
  subst f4
  refine ⟨?_, fun g hg e => ?_, rfl, fun g hg => List.mem_append_right _ hg, fun g h1 h2 h3 => ?_, fun g o e q => ?_, fun e g hg => ?_⟩
  · have := (hgr l.length).1 (Nat.le_refl _)
    show h.n ≤ (H l.length).n
    omega
  · have : ∀ k, k ≤ l.length → (H k).get g = none := by
      intro k
      induction k with
      | zero => intro _; rw [h0]; exact e
      | succ k ihk => intro hk; exact ((hgr k).2 hk).gone g hg (ihk (by omega))
    exact this l.length (Nat.le_refl _)
  · have hno : ∀ k, k < l.length → g ∉ (H (k + 1)).wr := fun k hk hw => by
      obtain ⟨j, hj⟩ := f8 k hk g hw
      apply h3
      refine List.mem_append_left _ (List.mem_filter.2 ⟨List.mem_map.2 ⟨_, hj, rfl⟩, ?_⟩)
      have : Nat.ble h.mark g = false := by
        cases hb : Nat.ble h.mark g with
        | false => rfl
        | true => have := Nat.le_of_ble_eq_true hb; omega
      simp [this]
    have : ∀ k, k ≤ l.length → (H k).get g = h.get g := by
      intro k
      induction k with
      | zero => intro _; exact h0 g
      | succ k ihk =>
        intro hk
        rw [← ihk (by omega)]
        refine ((hgr k).2 hk).log g ?_ h2 (hno k hk)
        have := (hgr k).1 (by omega)
        show g < (H k).n
        omega
    exact this l.length (Nat.le_refl _)
  · have : ∀ k, k ≤ l.length → (H k).get g = some o → h.get g = some o := by
      intro k
      induction k with
      | zero => intro _ e; rw [← h0]; exact e
      | succ k ihk => intro hk e; exact ihk (by omega) (((hgr k).2 hk).notown g o e q)
    exact this l.length (Nat.le_refl _) e
  · have : ∀ k, k ≤ l.length → ∀ g, (H k).n ≤ g → (H k).get g = none := by
      intro k
      induction k with
      | zero =>
        intro _ g hg
        rw [h0]
        exact e g (by omega)
      | succ k ihk => intro hk; exact ((hgr k).2 hk).wf (ihk (by omega))
    exact this l.length (Nat.le_refl _) g hg

theorem scopeA_grow (hi : ExGrow ih) : ∀ (n : Nat) {b c : ACode} {fr fr' : AFr} {h h' : AHeap} {e : AExit}, scopeA ih n b c fr h = some (e, fr', h') → Grow h.n h h' := by
  intro n
  induction n with
  | zero => intro b c fr fr' h h' e hx; simp [scopeA] at hx
  | succ n ihn =>
    intro b c fr fr' h h' e hx
    simp only [scopeA] at hx
    cases he : ih.exec c fr h with
    | none => simp [he] at hx
    | some p =>
      obtain ⟨e0, fr0, h0⟩ := p
      have g0 := hi.1 _ _ _ _ _ _ he
      rw [he] at hx
      cases e0 with
      | goto l =>
        simp only at hx
        cases hf : findLabelA b l with
        | none => simp only [hf, Option.some.injEq, Prod.mk.injEq] at hx; obtain ⟨_, _, rfl⟩ := hx; exact g0
        | some rest => simp only [hf] at hx; exact g0.on (ihn hx)
      | _ => simp only [Option.some.injEq, Prod.mk.injEq] at hx; obtain ⟨_, _, rfl⟩ := hx; exact g0

theorem rangeB_grow (hi : ExGrow ih) {f : Value} {ps : List Nat} {a b : ACode} {fr fr' : AFr} {d : Nat} {mark : List Deferred} {h h' : AHeap} {e : AExit} (hx : rangeB ih f ps a b fr d mark h = some (e, fr', h')) : Grow h.n h h' := by
  unfold rangeB at hx
  split at hx
  · cases hx
  · rename_i v0 h2 hcv
    have g1 := grow_push h (o := .loop { state := .ready, pending := none, fn := 0, tm := fr.tm, params := ps, assign := a, body := b, defers := d }) rfl
    have g2 := callV_grow hi hcv
    split at hx
    · rename_i r hl
      have g3 := grow_set h2 (o := .loop { r with state := .exhausted }) hl rfl h2.n
      have g4 := (g1.on g2).on g3
      repeat' split at hx
      all_goals first
        | (cases hx; done)
        | (simp only [Option.some.injEq, Prod.mk.injEq] at hx; obtain ⟨_, _, rfl⟩ := hx; exact g4)
    · cases hx

theorem rangeA_grow (hi : ExGrow ih) {f : Value} {ps : List Nat} {a b : ACode} {fr fr' : AFr} {h h' : AHeap} {e : AExit} (hx : rangeA ih f ps a b fr h = some (e, fr', h')) : Grow h.n h h' := by
  unfold rangeA at hx
  split at hx
  · exact (grow_push h rfl).on (rangeB_grow hi hx)
  · split at hx
    · exact rangeB_grow hi hx
    · cases hx

theorem execA_grow (hi : ExGrow ih) {c : ACode} {fr fr' : AFr} {h h' : AHeap} {e : AExit} (hx : execA P ih c fr h = some (e, fr', h')) : Grow h.n h h' := by
  cases c with
  | region ops =>
    simp only [execA, Option.map_eq_some_iff, Prod.mk.injEq] at hx
    obtain ⟨⟨fr1, h1⟩, hx, _, _, rfl⟩ := hx
    exact aopers_grow hi hx
  | regionC ops =>
    simp only [execA, Option.map_eq_some_iff, Prod.mk.injEq] at hx
    obtain ⟨⟨fr1, h1⟩, hx, _, _, rfl⟩ := hx
    exact regionA_grow hi hx
  | seq a b =>
    simp only [execA] at hx
    cases he : ih.exec a fr h with
    | none => simp [he] at hx
    | some p =>
      obtain ⟨e0, fr0, h0⟩ := p
      have g0 := hi.1 _ _ _ _ _ _ he
      rw [he] at hx
      cases e0 with
      | normal => exact g0.on (hi.1 _ _ _ _ _ _ hx)
      | _ => simp only [Option.some.injEq, Prod.mk.injEq] at hx; obtain ⟨_, _, rfl⟩ := hx; exact g0
  | cond t a b =>
    simp only [execA] at hx
    repeat' split at hx
    all_goals first
      | (cases hx; done)
      | exact hi.1 _ _ _ _ _ _ hx
  | block id b =>
    simp only [execA] at hx
    cases he : ih.exec b fr h with
    | none => simp [he] at hx
    | some p =>
      obtain ⟨e0, fr0, h0⟩ := p
      have g0 := hi.1 _ _ _ _ _ _ he
      rw [he] at hx
      cases e0 with
      | exit id' =>
        simp only at hx
        split at hx <;> (simp only [Option.some.injEq, Prod.mk.injEq] at hx; obtain ⟨_, _, rfl⟩ := hx; exact g0)
      | _ => simp only [Option.some.injEq, Prod.mk.injEq] at hx; obtain ⟨_, _, rfl⟩ := hx; exact g0
  | loop b =>
    simp only [execA] at hx
    cases he : ih.exec b fr h with
    | none => simp [he] at hx
    | some p =>
      obtain ⟨e0, fr0, h0⟩ := p
      have g0 := hi.1 _ _ _ _ _ _ he
      rw [he] at hx
      cases e0 with
      | normal => exact g0.on (hi.1 _ _ _ _ _ _ hx)
      | _ => simp only [Option.some.injEq, Prod.mk.injEq] at hx; obtain ⟨_, _, rfl⟩ := hx; exact g0
  | rangeFunc f ps a b => exact rangeA_grow hi hx
  | scope b => exact scopeA_grow hi 64 hx
  | _ => simp only [execA, Option.some.injEq, Prod.mk.injEq] at hx; obtain ⟨_, _, rfl⟩ := hx; exact Grow.refl _ _

theorem defersA_grow (hi : ExGrow ih) : ∀ {ds : List Deferred} {h h' : AHeap}, defersA ih ds h = some h' → Grow h.n h h' := by
  intro ds
  induction ds with
  | nil => intro h h' hx; simp only [defersA, Option.some.injEq] at hx; subst hx; exact Grow.refl _ _
  | cons d ds ihd =>
    intro h h' hx
    simp only [defersA] at hx
    split at hx
    · split at hx
      · rename_i hc
        exact (hi.2 _ _ _ _ _ hc).on (ihd hx)
      · cases hx
    · split at hx
      · split at hx
        · rename_i hg
          exact (grow_set h hg rfl h.n).on (ihd hx)
        · cases hx
      · cases hx
    · split at hx
      · rename_i hg
        exact (grow_set h hg rfl h.n).on (ihd hx)
      · cases hx
    · cases hx

theorem callA_grow (hi : ExGrow ih) {tab : FuncId → Option AFunc} {f : FuncId} {args : List Value} {h h' : AHeap} {v : Value} (hx : callA P tab ih f args h = some (v, h')) : Grow h.n h h' := by
  unfold callA at hx
  split at hx
  · cases hx
  · split at hx
    · rename_i e fr1 h1 he
      obtain ⟨_, hx⟩ := cond_some hx
      split at hx
      · cases hx
      · rename_i h2 hd
        split at hx
        · cases hx
        · simp only [Option.some.injEq, Prod.mk.injEq] at hx
          obtain ⟨_, rfl⟩ := hx
          exact (hi.1 _ _ _ _ _ _ he).on (defersA_grow hi hd)
    · cases hx

theorem aex_grow {tab : FuncId → Option AFunc} : ∀ n, ExGrow (aex P tab n) := by
  intro n
  induction n with
  | zero => exact ⟨(fun c fr h e fr' h' hx => by cases hx), (fun f args h v h' hx => by cases hx)⟩
  | succ n ihn => exact ⟨fun c fr h e fr' h' hx => execA_grow ihn hx, fun f args h v h' hx => callA_grow (P := P) ihn hx⟩

end
end Go.Am
