/- A part of the abstract machine for the model's programs and of the proof that what it yields the model's call yields (definitions, operations, runs, regions that draw their order); no statement of the seat is proved in this text. -/
import Derived.Test.YtndffgfnndoifaaGreatDoorAmD
import Derived.Test.YtndffgfnndoifaaGreatDoorAmE

set_option linter.unusedVariables false
set_option linter.unusedSimpArgs false

/-
  The abstract machine: calls that have been worked out once, by what their arguments read as, are known as a whole.
-/
namespace Go.Am
open Go.RowKit

/-- What cells read as: closed cells; slices of cells; structs and arrays. -/
inductive TL where
  | nil
  | cl (v : Value) (rest : TL)
  | sl (c n : Nat) (sub rest : TL)
  | ag (sub rest : TL)

def sameC : Value → Value → Bool
  | .int k a, .int k' b => decide (k = k') && a == b
  | .bool a, .bool b => a == b
  | .string s, .string t => s.data.toList == t.data.toList
  | .slice none 0 0, .slice none 0 0 => true
  | .pointer none, .pointer none => true
  | .map none, .map none => true
  | .nilFunc, .nilFunc => true
  | .nilIface, .nilIface => true
  | _, _ => false
theorem sameC_ok {a b : Value} (h : sameC a b = true) : b = a ∧ closedV a = true := by
  unfold sameC at h
  split at h
  · simp only [Bool.and_eq_true, decide_eq_true_eq, beq_iff_eq] at h
    rw [h.1, h.2]; exact ⟨rfl, rfl⟩
  · simp only [beq_iff_eq] at h
    rw [h]; exact ⟨rfl, rfl⟩
  · rename_i s t
    simp only [beq_iff_eq] at h
    obtain ⟨⟨l⟩⟩ := s
    obtain ⟨⟨m⟩⟩ := t
    simp only at h
    subst h; exact ⟨rfl, rfl⟩
  · exact ⟨rfl, rfl⟩
  · exact ⟨rfl, rfl⟩
  · exact ⟨rfl, rfl⟩
  · exact ⟨rfl, rfl⟩
  · exact ⟨rfl, rfl⟩
  · cases h

/-- Do cells read so? -/
def mt (h : AHeap) : TL → List Value → Bool
  | .nil, [] => true
  | .cl v r, x :: xs => sameC v x && mt h r xs
  | .sl c n s r, .slice (some a) len k :: xs =>
    (Nat.beq k c && Nat.beq len n && (match (bif Nat.beq n 0 then some [] else (rowOf h a.block).bind fun cells => cut cells a.off (n * c)) with
      | some vs => mt h s vs
      | none => false)) && mt h r xs
  | .ag s r, .agg cs :: xs => mt h s cs.toList && mt h r xs
  | _, _ => false

def AHeap.skip (h : AHeap) : AHeap := { h with n := h.n + 1 }
/-- Such cells, in memory that is not ours. -/
def lay : TL → AHeap → List Value × AHeap
  | .nil, h => ([], h)
  | .cl v r, h => (v :: (lay r h).1, (lay r h).2)
  | .sl c n s r, h => (.slice (some ⟨(lay s h).2.n, 0, none⟩) n c :: (lay r (bif Nat.beq n 0 then (lay s h).2.skip else (lay s h).2.push (.row (lay s h).1 false 0))).1,
      (lay r (bif Nat.beq n 0 then (lay s h).2.skip else (lay s h).2.push (.row (lay s h).1 false 0))).2)
  | .ag s r, h => (.agg (lay s h).1.toArray :: (lay r (lay s h).2).1, (lay r (lay s h).2).2)

/-- Do cells read so, in rows of ours, each one's own? -/
def mo (h : AHeap) : TL → List Value → List Nat → Option (List Nat)
  | .nil, [], s => some s
  | .cl v r, x :: xs, s => bif sameC v x then mo h r xs s else none
  | .sl c n sub r, .slice (some a) len k :: xs, s =>
    bif Nat.beq k c && Nat.beq len n && Nat.beq a.off 0 && a.spot.isNone then (match h.get a.block with
      | some (.row cells true lo) => bif Nat.beq lo 0 && Nat.beq cells.length (n * c) then (match mo h sub cells s with
          | some s1 => bif s1.contains a.block then none else mo h r xs (a.block :: s1)
          | none => none) else none
      | _ => none) else none
  | .ag sub r, .agg cs :: xs, s => (match mo h sub cs.toList s with
      | some s1 => mo h r xs s1
      | none => none)
  | _, _, _ => none
/-- Such cells, in memory of ours. -/
def layO : TL → AHeap → List Value × AHeap
  | .nil, h => ([], h)
  | .cl v r, h => (v :: (layO r h).1, (layO r h).2)
  | .sl c n s r, h => (.slice (some ⟨(layO s h).2.n, 0, none⟩) n c :: (layO r ((layO s h).2.push (.row (layO s h).1 true 0))).1, (layO r ((layO s h).2.push (.row (layO s h).1 true 0))).2)
  | .ag s r, h => (.agg (layO s h).1.toArray :: (layO r (layO s h).2).1, (layO r (layO s h).2).2)

theorem layO_grow : ∀ (T : TL) (h : AHeap), Grow h.n h (layO T h).2
  | .nil, h => Grow.refl _ _
  | .cl v r, h => layO_grow r h
  | .sl c n s r, h => ((layO_grow s h).on (grow_push _ rfl)).on (layO_grow r _)
  | .ag s r, h => (layO_grow s h).on (layO_grow r _)

theorem layO_n : ∀ (T : TL) (h : AHeap), h.n ≤ (layO T h).2.n
  | .nil, h => Nat.le_refl _
  | .cl v r, h => layO_n r h
  | .sl c n s r, h => Nat.le_trans (Nat.le_trans (layO_n s h) (Nat.le_succ _)) (layO_n r ((layO s h).2.push (.row (layO s h).1 true 0)))
  | .ag s r, h => Nat.le_trans (layO_n s h) (layO_n r _)
theorem layO_get : ∀ (T : TL) (h : AHeap) (g : Nat), g < h.n → (layO T h).2.get g = h.get g
  | .nil, h, g, hg => rfl
  | .cl v r, h, g, hg => layO_get r h g hg
  | .sl c n s r, h, g, hg => by
    have h1 := layO_n s h
    show (layO r ((layO s h).2.push _)).2.get g = _
    rw [layO_get r _ g (Nat.lt_succ_of_lt (Nat.lt_of_lt_of_le hg h1)), get_push, if_neg (by omega), layO_get s h g hg]
  | .ag s r, h, g, hg => by
    show (layO r (layO s h).2).2.get g = _
    rw [layO_get r _ g (Nat.lt_of_lt_of_le hg (layO_n s h)), layO_get s h g hg]

section
variable {P : Program} {w : World} {B : Nat}

theorem orow {σ : Nat → Option Pl} {pl : Pl} {cells : List Value} {own : Bool} {lo : Nat} (h : ORel P σ pl (.row cells own lo) w) :
    ∃ c elem fr, w.heap[pl.b]? = some (.cells c elem fr) ∧ c.size = pl.n ∧ pl.base + cells.length ≤ pl.n ∧ LRel σ cells ((c.toList.drop pl.base).take cells.length) ∧ (own = true → fr = (0, 0)) := by
  obtain ⟨c, elem, fr, h1, h2, h3, h4, h5⟩ := h
  refine ⟨c, elem, fr, h1, h2, h3, ⟨by simp; omega, fun i x y hx hy => ?_⟩, h5⟩
  obtain ⟨y', a, b⟩ := h4 i x hx
  have hi : i < cells.length := (List.getElem?_eq_some_iff.1 hx).1
  rw [List.getElem?_take, if_pos hi, List.getElem?_drop] at hy
  have : c[pl.base + i]? = some y := by simpa using hy
  rw [a] at this; cases this; exact b
theorem orow' {σ : Nat → Option Pl} {pl : Pl} {cells : List Value} {own : Bool} {lo m : Nat} {c : Array Value} {elem : TypeId} {fr : Nat × Nat} (h1 : w.heap[pl.b]? = some (.cells c elem fr)) (h2 : c.size = pl.n) (h3 : pl.base + m ≤ pl.n)
    (h4 : LRel σ cells ((c.toList.drop pl.base).take m)) (h5 : own = true → fr = (0, 0)) : ORel P σ pl (.row cells own lo) w := by
  have hlen : cells.length = m := by rw [h4.1]; simp; omega
  refine ⟨c, elem, fr, h1, h2, by omega, fun i x hx => ?_, h5⟩
  obtain ⟨y, a, b⟩ := h4.get hx
  have hi : i < m := by rw [← hlen]; exact (List.getElem?_eq_some_iff.1 hx).1
  rw [List.getElem?_take, if_pos hi, List.getElem?_drop] at a
  exact ⟨y, by simpa using a, b⟩

theorem lrel_nil {σ : Nat → Option Pl} {l : List Value} (h : LRel σ [] l) : l = [] := List.length_eq_zero_iff.1 h.1.symm
theorem lrel_cons {σ : Nat → Option Pl} {x : Value} {xs l : List Value} (h : LRel σ (x :: xs) l) : ∃ y ys, l = y :: ys ∧ VRel σ x y ∧ LRel σ xs ys := by
  cases l with
  | nil => exact absurd h.1 (by simp)
  | cons y ys => exact ⟨y, ys, rfl, h.2 0 _ _ rfl rfl, by simpa using h.1, fun i a b ha hb => h.2 (i + 1) a b (by simpa using ha) (by simpa using hb)⟩

theorem came_skip {σ : Nat → Option Pl} {h : AHeap} (hc : Came P B σ h w) : Came P B σ h.skip w :=
  ⟨⟨hc.rel.globals, fun g pl hg => ⟨Nat.lt_succ_of_lt (hc.rel.lt g pl hg).1, (hc.rel.lt g pl hg).2⟩, hc.rel.live, hc.rel.apart, hc.rel.le⟩, hc.rows, fun g hg => hc.wf g (Nat.le_of_succ_le hg)⟩
theorem came_more {σ : Nat → Option Pl} {h : AHeap} (hc : Came P B σ h w) {pl : Pl} (hb : pl.b < w.heap.size) : Came P B (more σ h.n pl) h.skip w := by
  have hle := more_le hc.rel pl
  have hrel : HRel P B σ h w := hc.rel
  have key : ∀ g o, h.get g = some o → g ≠ h.n := fun g o hg e => by
    subst e
    rw [hc.wf _ (Nat.le_refl _)] at hg; cases hg
  refine ⟨⟨fun g hg => ?_, fun g p hg => ?_, fun g o hg => ?_, fun g o g' o' p p' hg hg' hne hp hp' => ?_, hrel.le⟩, hc.rows, (came_skip hc).wf⟩
  · obtain ⟨p, h1, h2⟩ := hrel.globals g hg
    exact ⟨p, hle _ _ h1, h2⟩
  · unfold more at hg
    split at hg
    · cases hg; rename_i e; subst e; exact ⟨Nat.lt_succ_self _, hb⟩
    · exact ⟨Nat.lt_succ_of_lt (hrel.lt g p hg).1, (hrel.lt g p hg).2⟩
  · obtain ⟨p, h1, h2, h3⟩ := hrel.live g o hg
    exact ⟨p, hle _ _ h1, h2.keep hle rfl, h3⟩
  · have e1 := key g o hg
    have e2 := key g' o' hg'
    unfold more at hp hp'
    rw [if_neg e1] at hp
    rw [if_neg e2] at hp'
    exact hrel.apart g o g' o' p p' hg hg' hne hp hp'

theorem lay_ok {σ : Nat → Option Pl} {h : AHeap} {B1 : Nat} (hr : HRel P B σ h w) : ∀ (T : TL) (avs cvs : List Value), mt h T avs = true → LRel σ avs cvs → ∀ σ1 h1, Came P B1 σ1 h1 w →
    ∃ σ2, Came P B1 σ2 (lay T h1).2 w ∧ Le σ1 σ2 ∧ LRel σ2 (lay T h1).1 cvs := by
  intro T
  induction T with
  | nil =>
    intro avs cvs hm hl σ1 h1 hc
    cases avs with
    | cons x xs => cases hm
    | nil => obtain rfl := lrel_nil hl; exact ⟨σ1, hc, .refl _, LRel.nil _⟩
  | cl v r ih =>
    intro avs cvs hm hl σ1 h1 hc
    cases avs with
    | nil => cases hm
    | cons x xs =>
      simp only [mt, Bool.and_eq_true] at hm
      obtain ⟨rfl, hcl⟩ := sameC_ok hm.1
      obtain ⟨y, ys, rfl, h2, h3⟩ := lrel_cons hl
      obtain ⟨σ2, k1, k2, k3⟩ := ih xs ys hm.2 h3 σ1 h1 hc
      obtain rfl := h2.closed_eq hcl
      exact ⟨σ2, k1, k2, .cons (VRel.closed _ hcl) k3⟩
  | ag s r ihs ihr =>
    intro avs cvs hm hl σ1 h1 hc
    cases avs with
    | nil => cases hm
    | cons x xs =>
    cases x with
    | agg cs =>
      simp only [mt, Bool.and_eq_true] at hm
      obtain ⟨y, ys, rfl, h2, h3⟩ := lrel_cons hl
      cases h2 with
      | @agg _ cs' ha ra =>
      have hcs : LRel σ cs.toList cs'.toList := ⟨by simpa using ha, fun i x y hx hy => ra i x y (by simpa using hx) (by simpa using hy)⟩
      obtain ⟨σ2, k1, k2, k3⟩ := ihs _ _ hm.1 hcs σ1 h1 hc
      obtain ⟨σ3, l1, l2, l3⟩ := ihr xs ys hm.2 h3 σ2 _ k1
      refine ⟨σ3, l1, k2.trans l2, .cons ?_ l3⟩
      have := VRel.agg' (k3.mono l2)
      simpa using this
    | _ => cases hm
  | sl c n s r ihs ihr =>
    intro avs cvs hm hl σ1 h1 hc
    cases avs with
    | nil => cases hm
    | cons x xs =>
    cases x with
    | slice a len k =>
      cases a with
      | none => cases hm
      | some a =>
      simp only [mt, Bool.and_eq_true] at hm
      obtain ⟨⟨⟨m1, m2⟩, m3⟩, m4⟩ := hm
      obtain rfl := Nat.eq_of_beq_eq_true m1
      obtain rfl := Nat.eq_of_beq_eq_true m2
      obtain ⟨y, ys, rfl, h2, h3⟩ := lrel_cons hl
      by_cases h0 : len = 0
      · subst h0
        simp only [Nat.beq_refl, cond_true] at m3
        obtain ⟨σ2, k1, k2, k3⟩ := ihs [] [] m3 (LRel.nil _) σ1 h1 hc
        cases h2 with
        | @slice g off _ _ cap pl hp hcc hlc hn =>
          obtain ⟨σ3, l1, l2, l3⟩ := ihr xs ys m4 h3 _ _ (came_more k1 (pl := ⟨pl.b, pl.base + off, pl.n⟩) (hr.lt _ _ hp).2)
          refine ⟨σ3, l1, (k2.trans (more_le k1.rel _)).trans l2, .cons ?_ l3⟩
          have := VRel.slice (σ := σ3) (g := (lay s h1).2.n) (off := 0) (len := 0) (c := k) (cap := cap) (pl := ⟨pl.b, pl.base + off, pl.n⟩) (l2 _ _ (more_same _ _ _)) hcc hlc hn
          exact this
        | szero a x c =>
          obtain ⟨σ3, l1, l2, l3⟩ := ihr xs ys m4 h3 _ _ (came_skip k1)
          exact ⟨σ3, l1, k2.trans l2, .cons (.szero _ _ _) l3⟩
      · have hb : Nat.beq len 0 = false := by
          cases hq : Nat.beq len 0 with
          | false => rfl
          | true => exact absurd (Nat.eq_of_beq_eq_true hq) h0
        simp only [hb, cond_false] at m3
        cases h2 with
        | szero a x c => exact absurd rfl h0
        | @slice g off _ _ cap pl hp hcc hlc hn =>
        split at m3
        case h_2 => cases m3
        rename_i vs hv
        obtain ⟨cells, hv1, hv2⟩ := Option.bind_eq_some_iff.1 hv
        unfold rowOf at hv1
        split at hv1
        case h_2 => cases hv1
        rename_i cells' own lo hg
        cases hv1
        unfold cut at hv2
        cases hble : Nat.ble (off + len * k) cells.length with
        | false => simp [hble] at hv2
        | true =>
        simp only [hble, cond_true, Option.some.injEq] at hv2
        subst hv2
        have hbl := Nat.le_of_ble_eq_true hble
        obtain ⟨pl', p1, p2, _⟩ := hr.live _ _ hg
        rw [hp] at p1; cases p1
        obtain ⟨carr, elem, fr, q1, q2, q3, q4, q5⟩ := orow p2
        have hsub : LRel σ ((cells.drop off).take (len * k)) ((carr.toList.drop (pl.base + off)).take (len * k)) := by
          have := (q4.drop off).take (len * k)
          rw [List.drop_take, List.take_take, List.drop_drop, Nat.min_eq_left (by omega)] at this
          exact this
        obtain ⟨σ2, k1, k2, k3⟩ := ihs _ _ m3 hsub σ1 h1 hc
        have hor : ORel P σ2 ⟨pl.b, pl.base + off, pl.n⟩ (.row (lay s h1).1 false 0) w :=
          orow' (pl := ⟨pl.b, pl.base + off, pl.n⟩) (m := len * k) q1 q2 (by simp only; omega) k3 (fun x => by cases x)
        obtain ⟨r1, _, r3, r4⟩ := import_row k1.rel k1.no k1.rows (cells := (lay s h1).1) (pl := ⟨pl.b, pl.base + off, pl.n⟩) (hr.lt _ _ hp).2 hor
        obtain ⟨σ3, l1, l2, l3⟩ := ihr xs ys m4 h3 _ _ ⟨r1, r3, (ext_push _ _).wf k1.wf⟩
        have hE : lay (.sl k len s r) h1 = (.slice (some ⟨(lay s h1).2.n, 0, none⟩) len k :: (lay r ((lay s h1).2.push (.row (lay s h1).1 false 0))).1, (lay r ((lay s h1).2.push (.row (lay s h1).1 false 0))).2) := by
          simp only [lay, hb, cond_false]
        rw [hE]
        refine ⟨σ3, l1, (k2.trans r4).trans l2, .cons ?_ l3⟩
        have := VRel.slice (σ := σ3) (g := (lay s h1).2.n) (off := 0) (len := len) (c := k) (cap := cap) (pl := ⟨pl.b, pl.base + off, pl.n⟩) (l2 _ _ (more_same _ _ _)) hcc hlc hn
        exact this
    | _ => cases hm

/-- A row of ours more, in a block in which no other group lies. -/
theorem HRel.own {σ : Nat → Option Pl} {h : AHeap} {o : AObj} {pl : Pl} (hr : HRel P B σ h w) (hb : pl.b < w.heap.size) (hB : B ≤ pl.b) (ho : ORel P (more σ h.n pl) pl o w)
    (hap : ∀ g p, σ g = some p → p.b = pl.b → False) : HRel P B (more σ h.n pl) (h.push o) w := by
  have hle := more_le hr pl
  have hsame : ∀ g p, more σ h.n pl g = some p → g = h.n ∧ p = pl ∨ g ≠ h.n ∧ σ g = some p := fun g p hg => by
    unfold more at hg
    split at hg
    · exact .inl ⟨by assumption, (Option.some.inj hg).symm⟩
    · exact .inr ⟨by assumption, hg⟩
  refine ⟨fun g hg => ?_, fun g p hg => ?_, fun g o' hg => ?_, fun g o1 g' o2 p p' h1 h2 hne h3 h4 hbb => ?_, hr.le⟩
  · obtain ⟨p, h1, h2⟩ := hr.globals g hg
    exact ⟨p, hle _ _ h1, h2⟩
  · rcases hsame g p hg with ⟨rfl, rfl⟩ | ⟨_, h1⟩
    · exact ⟨Nat.lt_succ_self _, hb⟩
    · exact ⟨Nat.lt_succ_of_lt (hr.lt g p h1).1, (hr.lt g p h1).2⟩
  · rw [get_push] at hg
    split at hg
    · rename_i e; subst e; cases hg
      exact ⟨pl, more_same _ _ _, ho, fun _ => hB⟩
    · obtain ⟨p, h1, h2, h3⟩ := hr.live g o' hg
      exact ⟨p, hle _ _ h1, h2.keep hle rfl, h3⟩
  · rw [get_push] at h1 h2
    rcases hsame g p h3 with ⟨e, rfl⟩ | ⟨e, h3'⟩ <;> rcases hsame g' p' h4 with ⟨e', rfl⟩ | ⟨e', h4'⟩
    · exact absurd (e.trans e'.symm) hne
    · exact (hap _ _ h4' hbb.symm).elim
    · exact (hap _ _ h3' hbb).elim
    · rw [if_neg e] at h1
      rw [if_neg e'] at h2
      exact hr.apart g o1 g' o2 p p' h1 h2 hne h3' h4' hbb

/-- What a heap has become, by the rows that came over. -/
structure Over (P : Program) (B W : Nat) (σ : Nat → Option Pl) (h : AHeap) (σ' : Nat → Option Pl) (h0 : AHeap) (w : World) (τ : Nat → Option Pl) (H : AHeap) (s : List Nat) : Prop where
  rel : HRel P B τ H w
  old : ∀ g, g < h.n → τ g = σ g
  n : h.n ≤ H.n
  new : ∀ g pl, h.n ≤ g → τ g = some pl → ∃ k ∈ s, σ' k = some pl
  rows : ∀ k ∈ s, ∃ cells lo, h0.get k = some (.row cells true lo)

theorem layO_ok {W : Nat} {σ σ' : Nat → Option Pl} {h h0 : AHeap} (hB : B ≤ W) (hW : ∀ g pl, σ g = some pl → pl.b < W) (hs : HRel P W σ' h0 w) : ∀ (T : TL) (vs cvs : List Value) (s s' : List Nat), mo h0 T vs s = some s' → LRel σ' vs cvs →
    ∀ τ H, Over P B W σ h σ' h0 w τ H s → ∃ τ', Over P B W σ h σ' h0 w τ' (layO T H).2 s' ∧ Le τ τ' ∧ LRel τ' (layO T H).1 cvs := by
  intro T
  induction T with
  | nil =>
    intro vs cvs s s' hm hl τ H ho
    cases vs with
    | cons x xs => cases hm
    | nil => obtain rfl := lrel_nil hl; cases hm; exact ⟨τ, ho, .refl _, LRel.nil _⟩
  | cl v r ih =>
    intro vs cvs s s' hm hl τ H ho
    cases vs with
    | nil => cases hm
    | cons x xs =>
      simp only [mo] at hm
      cases hsc : sameC v x with
      | false => simp [hsc] at hm
      | true =>
      simp only [hsc, cond_true] at hm
      obtain ⟨rfl, hcl⟩ := sameC_ok hsc
      obtain ⟨y, ys, rfl, h2, h3⟩ := lrel_cons hl
      obtain ⟨τ', k1, k2, k3⟩ := ih xs ys s s' hm h3 τ H ho
      obtain rfl := h2.closed_eq hcl
      exact ⟨τ', k1, k2, .cons (VRel.closed _ hcl) k3⟩
  | ag sub r ihs ihr =>
    intro vs cvs s s' hm hl τ H ho
    cases vs with
    | nil => cases hm
    | cons x xs =>
    cases x with
    | agg cs =>
      simp only [mo] at hm
      split at hm
      case h_2 => cases hm
      rename_i s1 hs1
      obtain ⟨y, ys, rfl, h2, h3⟩ := lrel_cons hl
      cases h2 with
      | @agg _ cs' ha ra =>
      have hcs : LRel σ' cs.toList cs'.toList := ⟨by simpa using ha, fun i x y hx hy => ra i x y (by simpa using hx) (by simpa using hy)⟩
      obtain ⟨τ1, k1, k2, k3⟩ := ihs _ _ s s1 hs1 hcs τ H ho
      obtain ⟨τ2, l1, l2, l3⟩ := ihr xs ys s1 s' hm h3 τ1 _ k1
      refine ⟨τ2, l1, k2.trans l2, .cons ?_ l3⟩
      have := VRel.agg' (k3.mono l2)
      simpa using this
    | _ => cases hm
  | sl c n sub r ihs ihr =>
    intro vs cvs s s' hm hl τ H ho
    cases vs with
    | nil => cases hm
    | cons x xs =>
    cases x with
    | slice a len k =>
      cases a with
      | none => cases hm
      | some a =>
      simp only [mo] at hm
      cases hcd : (Nat.beq k c && Nat.beq len n && Nat.beq a.off 0 && a.spot.isNone) with
      | false => simp [hcd] at hm
      | true =>
      simp only [hcd, cond_true] at hm
      simp only [Bool.and_eq_true] at hcd
      obtain ⟨⟨⟨m1, m2⟩, m3⟩, m4⟩ := hcd
      obtain rfl := Nat.eq_of_beq_eq_true m1
      obtain rfl := Nat.eq_of_beq_eq_true m2
      have hoff := Nat.eq_of_beq_eq_true m3
      split at hm
      case h_2 => cases hm
      rename_i cells lo hg
      cases hq : (Nat.beq lo 0 && Nat.beq cells.length (len * k)) with
      | false => simp [hq] at hm
      | true =>
      simp only [hq, cond_true] at hm
      rw [Bool.and_eq_true] at hq
      have hlen := Nat.eq_of_beq_eq_true hq.2
      split at hm
      case h_2 => cases hm
      rename_i s1 hs1
      cases hct : s1.contains a.block with
      | true => rw [hct] at hm; cases hm
      | false =>
      rw [hct] at hm
      simp only [cond_false] at hm
      obtain ⟨y, ys, rfl, h2, h3⟩ := lrel_cons hl
      obtain ⟨pl, p1, p2, p3⟩ := hs.live _ _ hg
      have hWp : W ≤ pl.b := p3 rfl
      obtain ⟨carr, elem, fr, q1, q2, q3, q4, q5⟩ := orow p2
      obtain ⟨τ1, k1, k2, k3⟩ := ihs _ _ s s1 hs1 q4 τ H ho
      have hor : ORel P (more τ1 (layO sub H).2.n pl) pl (.row (layO sub H).1 true 0) w :=
        orow' (m := cells.length) q1 q2 q3 (k3.mono (more_le k1.rel _)) q5
      have hap : ∀ g p, τ1 g = some p → p.b = pl.b → False := fun g p hp hb => by
        by_cases hgn : g < h.n
        · rw [k1.old g hgn] at hp
          have := hW _ _ hp
          omega
        · obtain ⟨kk, hk, hkp⟩ := k1.new g p (by omega) hp
          obtain ⟨cells2, lo2, hg2⟩ := k1.rows kk hk
          have hne : kk ≠ a.block := fun e => by
            subst e
            have : s1.contains a.block = true := by simpa using hk
            rw [this] at hct; cases hct
          have := hs.apart _ _ _ _ _ _ hg2 hg hne hkp p1 hb
          exact this.1 ⟨rfl, rfl⟩
      have hrel := k1.rel.own (o := .row (layO sub H).1 true 0) (hs.lt _ _ p1).2 (Nat.le_trans hB hWp) hor hap
      obtain ⟨τ2, l1, l2, l3⟩ := ihr xs ys (a.block :: s1) s' hm h3 (more τ1 (layO sub H).2.n pl) ((layO sub H).2.push (.row (layO sub H).1 true 0))
        ⟨hrel, fun g hgn => by
            have := k1.n
            unfold more; rw [if_neg (by omega)]; exact k1.old g hgn,
          Nat.le_succ_of_le k1.n, fun g p hgn hp => by
            unfold more at hp
            split at hp
            · cases hp; exact ⟨a.block, by simp, p1⟩
            · obtain ⟨kk, hk, hkp⟩ := k1.new g p hgn hp
              exact ⟨kk, by simp [hk], hkp⟩,
          fun kk hk => by
            rcases List.mem_cons.1 hk with rfl | hk
            · exact ⟨_, _, hg⟩
            · exact k1.rows kk hk⟩
      refine ⟨τ2, l1, (k2.trans (more_le k1.rel _)).trans l2, .cons ?_ l3⟩
      have hgm : τ2 (layO sub H).2.n = some pl := l2 _ _ (more_same _ _ _)
      cases h2 with
      | @slice g off _ _ cap pl2 hp hcc hlc hn =>
        simp only at hoff
        subst hoff
        simp only at p1
        rw [hp] at p1; cases p1
        exact VRel.slice (σ := τ2) (g := (layO sub H).2.n) (off := 0) hgm hcc hlc hn
      | szero a x c => exact .szero _ _ _
    | _ => cases hm

/-- The values that a call yields. -/
def vals : Value → List Value
  | .tuple vs => vs.toList
  | v => [v]
def okRes (h : AHeap) (T : TL) (v : Value) : Bool :=
  (match v with | .tuple vs => !Nat.beq vs.size 1 | _ => true) && (mo h T (vals v) []).isSome
theorem one_vals {h : AHeap} {T : TL} {v : Value} (hk : okRes h T v = true) : one (vals v) = v := by
  unfold okRes at hk
  cases v with
  | tuple vs =>
    simp only [Bool.and_eq_true, Bool.not_eq_true'] at hk
    obtain ⟨l⟩ := vs
    match l, hk.1 with
    | [], _ => rfl
    | [x], h => exact absurd h (by simp)
    | x :: y :: l, _ => rfl
  | _ => rfl
theorem one_relM {σ : Nat → Option Pl} {l l' : List Value} (h : LRel σ l l') : VRel σ (one l) (one l') := by
  match l, l', h with
  | [], [], _ => exact .tuple rfl fun i x y hx => by simp at hx
  | [x], [y], h => exact h.2 0 _ _ rfl rfl
  | x :: y :: l, x' :: y' :: l', h =>
    exact .tuple (by simpa using h.1) fun i a b ha hb => h.2 i a b (by simpa using ha) (by simpa using hb)
  | [], _ :: _, h => exact absurd h.1 (by simp)
  | _ :: _, [], h => exact absurd h.1 (by simp)
  | [_], _ :: _ :: _, h => exact absurd h.1 (by simp)
  | _ :: _ :: _, [_], h => exact absurd h.1 (by simp)

def findT (h : AHeap) (args : List Value) : List (TL × TL) → Option TL
  | [] => none
  | p :: l => bif mt h p.1 args then some p.2 else findT h args l
theorem findT_some {h : AHeap} {args : List Value} {T : TL} : ∀ {l : List (TL × TL)}, findT h args l = some T → ∃ p ∈ l, mt h p.1 args = true ∧ p.2 = T
  | [], hx => by cases hx
  | p :: l, hx => by
    unfold findT at hx
    cases hm : mt h p.1 args with
    | true => rw [hm] at hx; exact ⟨p, by simp, hm, Option.some.inj hx⟩
    | false =>
      rw [hm] at hx
      obtain ⟨q, a, b⟩ := findT_some (l := l) hx
      exact ⟨q, by simp [a], b⟩

/-- Known to yield what the list says, where the variables stand as they are laid. -/
def memo (lv : List (Nat × List Value)) (l : List (TL × TL)) : List Value → AHeap → Option (Value × AHeap) :=
  fun args h => bif laidIn h lv then (match findT h args l with
    | some T => some (one (layO T h).1, (layO T h).2)
    | none => none) else none
theorem memo_some {lv : List (Nat × List Value)} {l : List (TL × TL)} {args : List Value} {h h' : AHeap} {v : Value} (hx : memo lv l args h = some (v, h')) :
    laidIn h lv = true ∧ ∃ p ∈ l, mt h p.1 args = true ∧ v = one (layO p.2 h).1 ∧ h' = (layO p.2 h).2 := by
  unfold memo at hx
  cases hl : laidIn h lv with
  | false => simp [hl] at hx
  | true =>
  simp only [hl, cond_true] at hx
  split at hx
  case h_2 => cases hx
  rename_i T hT
  obtain ⟨p, h1, h2, rfl⟩ := findT_some hT
  cases hx
  exact ⟨rfl, p, h1, h2, rfl, rfl⟩
theorem memo_grow {lv : List (Nat × List Value)} {l : List (TL × TL)} (args : List Value) (h : AHeap) (v : Value) (h' : AHeap) (hx : memo lv l args h = some (v, h')) : Grow h.n h h' := by
  obtain ⟨_, p, _, _, _, rfl⟩ := memo_some hx
  exact layO_grow _ _

/-- The variables alone, with the arguments. -/
def laid0 (n : Nat) (lv : List (Nat × List Value)) (T : TL) : List Value × AHeap := lay T (heapL n lv)

theorem came_heapL {σ : Nat → Option Pl} {h : AHeap} (hg : P.globals.size ≤ w.heap.size) (hr : HRel P B σ h w) (l : List (Nat × List Value)) (hl : ∀ x ∈ l, x.1 < P.globals.size ∧ closedL x.2 = true)
    (hh : laidIn h l = true) : Came P w.heap.size (s0 P w) (heapL P.globals.size l) w := by
  refine ⟨hrelL hg hr l hl hh, fun g o hx => ?_, fun g hn => ?_⟩
  · obtain ⟨c, a, rfl⟩ := get_heapL _ l g o hx; exact ⟨_, _, rfl⟩
  · cases hq : (heapL P.globals.size l).get g with
    | none => rfl
    | some o =>
      obtain ⟨c, a, rfl⟩ := get_heapL _ l g o hq
      rw [n_heapL] at hn
      have := (hl _ a).1
      simp only at this; omega

theorem memo_sound {tab : Tab} (hmix : P.follows .mixedOrders = true) (htab : tab.Ok P) {f n : Nat} {lv : List (Nat × List Value)} {l : List (TL × TL)} (hl : ∀ x ∈ lv, x.1 < P.globals.size ∧ closedL x.2 = true)
    (hx : ∀ p ∈ l, ∃ v h', (aex P tab n).call f (laid0 P.globals.size lv p.1).1 (laid0 P.globals.size lv p.1).2 = some (v, h') ∧ okRes h' p.2 v = true) : StubSound P f (memo lv l) := by
  intro e g args h v' h' hk
  have hkk : (if g = f then memo lv l args h else none) = some (v', h') := hk
  clear hk
  split at hkk
  case isFalse => cases hkk
  rename_i hgf
  subst hgf
  obtain ⟨hlaid, p, hp, hmt, rfl, rfl⟩ := memo_some hkk
  obtain ⟨v1, h1, hrun, hok⟩ := hx p hp
  obtain ⟨s1, s2⟩ := (sound hmix htab n).2 g _ _ _ _ hrun
  have hlay0 : (laid0 P.globals.size lv p.1).1 = (lay p.1 (heapL P.globals.size lv)).1 := rfl
  refine ⟨fun as w => s1 as w, fun B σ w hr as hl' kind hk' => ?_⟩
  have hgs : P.globals.size ≤ w.heap.size := by
    by_cases h0 : P.globals.size = 0
    · omega
    · obtain ⟨pl, a, b, _⟩ := hr.globals (P.globals.size - 1) (by omega)
      have := (hr.lt _ _ a).2
      omega
  obtain ⟨σ2, c2, _, c4⟩ := lay_ok hr p.1 args as.toList hmt hl' _ _ (came_heapL hgs hr lv hl hlaid)
  obtain ⟨σ', w', cv, ev, d2, d3⟩ := s2 w.heap.size σ2 w c2.rel as c4 kind hk'
  have bel := ev.below c2.rel
  have keep : ∀ b, b < w.heap.size → w'.heap[b]? = w.heap[b]? := bel.block
  have hr' : HRel P B σ h w' := by
    refine ⟨hr.globals, fun g pl hg => ⟨(hr.lt g pl hg).1, Nat.lt_of_lt_of_le (hr.lt g pl hg).2 bel.size⟩, fun g o hg => ?_, hr.apart, Nat.le_trans hr.le bel.size⟩
    obtain ⟨pl, a1, a2, a3⟩ := hr.live g o hg
    exact ⟨pl, a1, a2.keep (.refl _) (keep _ (hr.lt _ _ a1).2), a3⟩
  have hov : Over P B w.heap.size σ h σ' h1 w' σ h [] :=
    ⟨hr', fun _ _ => rfl, Nat.le_refl _, fun g pl hgn hp => by have := (hr.lt g pl hp).1; omega, fun k hk => by cases hk⟩
  have hvals : ∃ cvs, LRel σ' (vals v1) cvs ∧ one cvs = cv := by
    have hone := one_vals hok
    cases v1 with
    | tuple vs =>
      cases d2 with
      | @tuple _ vs' ha ra =>
      refine ⟨vs'.toList, ⟨by simpa [vals] using ha, fun i x y hx hy => ra i x y (by simpa [vals] using hx) (by simpa using hy)⟩, ?_⟩
      unfold okRes at hok
      simp only [Bool.and_eq_true, Bool.not_eq_true'] at hok
      rw [ha] at hok
      obtain ⟨l⟩ := vs'
      match l, hok.1 with
      | [], _ => rfl
      | [x], h => exact absurd h (by simp)
      | x :: y :: l, _ => rfl
    | _ => exact ⟨[cv], .cons d2 (.nil _), rfl⟩
  obtain ⟨cvs, hcv, hone⟩ := hvals
  have hmo : ∃ s', mo h1 p.2 (vals v1) [] = some s' := by
    unfold okRes at hok
    rw [Bool.and_eq_true] at hok
    exact Option.isSome_iff_exists.1 hok.2
  obtain ⟨s', hmo⟩ := hmo
  obtain ⟨τ, o1, o2, o3⟩ := layO_ok (B := B) (σ := σ) (h := h) hr.le (fun g pl hp => (hr.lt g pl hp).2) ev.rel p.2 _ cvs [] s' hmo hcv σ h hov
  have hgr := layO_grow p.2 h
  refine ⟨τ, w', cv, ⟨o2, o1.rel, ev.os, ev.tape, ev.output, ev.size, fun b hb _ => keep b hb, fun b ⟨g, o, pl, x1, x2, x3, x4⟩ => ?_, o1.n, o1.old⟩, ?_, d3⟩
  · by_cases hgn : g < h.n
    · right
      rw [o1.old g hgn] at x3
      refine ⟨g, o, pl, ?_, x2, x3, x4⟩
      exact layO_get p.2 h g hgn ▸ x1
    · left
      obtain ⟨k, hk, hkp⟩ := o1.new g pl (by omega) x3
      obtain ⟨cells, lo, hgk⟩ := o1.rows k hk
      obtain ⟨pl2, y1, _, y3⟩ := ev.rel.live _ _ hgk
      rw [hkp] at y1; cases y1
      have := y3 rfl
      omega
  · rw [← hone]
    exact one_relM o3
end
end Go.Am

/-
  The abstract machine: calls worked out by the kernel, and put into the table of what is known.
-/
namespace Go.Am
open Go.RowKit

section
variable {P : Program}

/-- A call, worked out by the kernel: it yields what reads so. -/
noncomputable def evM (P : Program) (tab : Tab) (n : Nat) (f : FuncId) (lv : List (Nat × List Value)) (p : TL × TL) : Option Value :=
  (aexK P tab n).call f (laid0 P.globals.size lv p.1).1 (laid0 P.globals.size lv p.1).2 (fun v h => bifK (okRes h p.2 v) (some (.bool true)) none)
theorem evM_ok {tab : Tab} {n : Nat} {f : FuncId} {lv : List (Nat × List Value)} {p : TL × TL} (hx : evM P tab n f lv p = some (.bool true)) :
    ∃ v h', (aex P tab n).call f (laid0 P.globals.size lv p.1).1 (laid0 P.globals.size lv p.1).2 = some (v, h') ∧ okRes h' p.2 v = true := by
  unfold evM at hx
  rw [(aexK_ok P tab n).call] at hx
  cases hc : (aex P tab n).call f (laid0 P.globals.size lv p.1).1 (laid0 P.globals.size lv p.1).2 with
  | none => rw [hc] at hx; cases hx
  | some q =>
    rw [hc] at hx
    obtain ⟨v, h'⟩ := q
    refine ⟨v, h', rfl, ?_⟩
    have hx : bifK (okRes h' p.2 v) (some (Value.bool true)) none = some (.bool true) := hx
    rw [bifK_eq] at hx
    cases hk : okRes h' p.2 v with
    | true => rfl
    | false => rw [hk] at hx; cases hx

/-- A table in which one function more is known. -/
def Tab.know (tab : Tab) (f : FuncId) (s : List Value → AHeap → Option (Value × AHeap)) : Tab := ⟨tab.code, fun g => bif Nat.beq g f then some s else tab.stub g⟩
theorem Tab.Ok.know {tab : Tab} (ht : tab.Ok P) (hmix : P.follows .mixedOrders = true) {f n : Nat} {lv : List (Nat × List Value)} {l : List (TL × TL)} (hl : (lv.all fun x => Nat.ble (x.1 + 1) P.globals.size && closedL x.2) = true)
    (hx : ∀ p ∈ l, evM P tab n f lv p = some (.bool true)) : (tab.know f (memo lv l)).Ok P := by
  have hl' : ∀ x ∈ lv, x.1 < P.globals.size ∧ closedL x.2 = true := fun x hx => by
    have h1 := List.all_eq_true.1 hl x hx
    rw [Bool.and_eq_true] at h1
    exact ⟨Nat.le_of_ble_eq_true h1.1, h1.2⟩
  refine ⟨ht.code, fun g s hs => ?_, fun g s hs => ?_⟩
  · have hss : (bif Nat.beq g f then some (memo lv l) else tab.stub g) = some s := hs
    clear hs
    cases hb : Nat.beq g f with
    | true =>
      rw [hb] at hss
      obtain rfl := Nat.eq_of_beq_eq_true hb
      obtain rfl := Option.some.inj hss
      exact memo_sound hmix ht hl' fun p hp => evM_ok (hx p hp)
    | false => rw [hb] at hss; exact ht.stub g s hss
  · have hss : (bif Nat.beq g f then some (memo lv l) else tab.stub g) = some s := hs
    clear hs
    cases hb : Nat.beq g f with
    | true =>
      rw [hb] at hss
      obtain rfl := Option.some.inj hss
      exact memo_grow
    | false => rw [hb] at hss; exact ht.grow g s hss
end
end Go.Am
