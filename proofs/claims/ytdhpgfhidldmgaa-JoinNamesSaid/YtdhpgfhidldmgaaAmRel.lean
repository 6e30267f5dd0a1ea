/-
  The abstract machine: what it has to do with the model's machine: values, heaps, frames; and how both go on together.
-/
import Derived.Test.YtdhpgfhidldmgaaAmComp
namespace Go.Am

theorem trie_get_put {α : Type} (v : Option α) : ∀ (f k : Nat) (t : Trie α) (j : Nat), k < f → (Trie.put v f k t).get j = if j = k then v else t.get j := by
  intro f
  induction f with
  | zero => intro k t j h; omega
  | succ f ih =>
    intro k t j h
    have hb : ∀ a b : Nat, Nat.beq a b = decide (a = b) := fun a b => by
      rw [Bool.eq_iff_iff]; simp
    cases t with
    | leaf =>
      simp only [Trie.put, hb]
      by_cases hk : k = 0
      · subst hk
        simp only [Trie.get]
        by_cases hj : j = 0 <;> simp [hj, Trie.get, hb]
      · by_cases ho : k % 2 = 1
        · simp only [hk, ho, decide_true, decide_false, cond_true, cond_false, Trie.get, hb]
          rw [ih (k / 2) .leaf (j / 2) (by omega)]
          by_cases hj : j = 0
          · have : ¬ j = k := by omega
            simp [hj, Trie.get]; intro h; omega
          · by_cases hj1 : j % 2 = 1
            · have : (j / 2 = k / 2) ↔ j = k := by omega
              simp [hj, hj1, Trie.get, this]
            · have : ¬ j = k := by omega
              simp [hj, hj1, Trie.get, this]
        · simp only [hk, ho, decide_false, cond_false, Trie.get, hb]
          rw [ih (k / 2 - 1) .leaf (j / 2 - 1) (by omega)]
          by_cases hj : j = 0
          · simp [hj, Trie.get]; intro h; omega
          · by_cases hj1 : j % 2 = 1
            · have : ¬ j = k := by omega
              simp [hj, hj1, Trie.get, this]
            · have : (j / 2 - 1 = k / 2 - 1) ↔ j = k := by omega
              simp [hj, hj1, Trie.get, this]
    | node u l r =>
      simp only [Trie.put, hb]
      by_cases hk : k = 0
      · subst hk
        simp only [decide_true, cond_true, Trie.get, hb]
        by_cases hj : j = 0 <;> simp [hj]
      · by_cases ho : k % 2 = 1
        · simp only [hk, ho, decide_true, decide_false, cond_true, cond_false, Trie.get, hb]
          rw [ih (k / 2) l (j / 2) (by omega)]
          by_cases hj : j = 0
          · simp [hj]; intro h; omega
          · by_cases hj1 : j % 2 = 1
            · have : (j / 2 = k / 2) ↔ j = k := by omega
              simp [hj, hj1, this]
            · have : ¬ j = k := by omega
              simp [hj, hj1, this]
        · simp only [hk, ho, decide_false, cond_false, Trie.get, hb]
          rw [ih (k / 2 - 1) r (j / 2 - 1) (by omega)]
          by_cases hj : j = 0
          · simp [hj]; intro h; omega
          · by_cases hj1 : j % 2 = 1
            · have : ¬ j = k := by omega
              simp [hj, hj1, this]
            · have : (j / 2 - 1 = k / 2 - 1) ↔ j = k := by omega
              simp [hj, hj1, this]

theorem trie_get_set {α : Type} (t : Trie α) (k : Nat) (v : α) (j : Nat) : (t.set k v).get j = if j = k then some v else t.get j :=
  trie_get_put _ _ _ _ _ (by omega)
theorem trie_get_erase {α : Type} (t : Trie α) (k j : Nat) : (t.erase k).get j = if j = k then none else t.get j :=
  trie_get_put _ _ _ _ _ (by omega)
theorem tmGet_set (t : Trie Value) (k : Nat) (v : Value) (j : Nat) : tmGet (t.set k v) j = if j = k then v else tmGet t j := by
  unfold tmGet; rw [trie_get_set]; split <;> rfl

theorem get_push (h : AHeap) (o : AObj) (g : Nat) : (h.push o).get g = if g = h.n then some o else h.get g := trie_get_set _ _ _ _
theorem get_set (h : AHeap) (k : Nat) (o : AObj) (g : Nat) : (h.set k o).get g = if g = k then some o else h.get g := trie_get_set _ _ _ _
theorem get_kill (h : AHeap) (k g : Nat) : (h.kill k).get g = if g = k then none else h.get g := trie_get_erase _ _ _

/-! ### Placements and values -/
/-- Where a group lies: in a block, from a cell on; the block's cells are so many. -/
structure Pl where
  b : Nat
  base : Nat
  n : Nat

inductive VRel (σ : Nat → Option Pl) : Value → Value → Prop
  | bool (b : Bool) : VRel σ (.bool b) (.bool b)
  | int (k : IntKind) (n : Int) : VRel σ (.int k n) (.int k n)
  | float (k : FloatKind) (n : Nat) : VRel σ (.float k n) (.float k n)
  | complex (k : FloatKind) (a b : Nat) : VRel σ (.complex k a b) (.complex k a b)
  | string (s : ByteArray) : VRel σ (.string s) (.string s)
  | pnil : VRel σ (.pointer none) (.pointer none)
  | ptr {g off : Nat} {pl : Pl} (h : σ g = some pl) : VRel σ (.pointer (some ⟨g, off, none⟩)) (.pointer (some ⟨pl.b, pl.base + off, none⟩))
  | snil : VRel σ (.slice none 0 0) (.slice none 0 0)
  | slice {g off len c cap : Nat} {pl : Pl} (h : σ g = some pl) (hc : 0 < c) (hl : len ≤ cap) (hn : pl.base + off + cap * c ≤ pl.n) :
      VRel σ (.slice (some ⟨g, off, none⟩) len c) (.slice (some ⟨pl.b, pl.base + off, none⟩) len cap)
  | szero (a x : Addr) (c : Nat) : VRel σ (.slice (some a) 0 c) (.slice (some x) 0 0)
  | mnil : VRel σ (.map none) (.map none)
  | map {g : Nat} {pl : Pl} (h : σ g = some pl) : VRel σ (.map (some g)) (.map (some pl.b))
  | nilFunc : VRel σ .nilFunc .nilFunc
  | func (f : FuncId) {a a' c c' : Array Value} (ha : a.size = a'.size) (hc : c.size = c'.size)
      (ra : ∀ (i : Nat) (x y : Value), a[i]? = some x → a'[i]? = some y → VRel σ x y) (rc : ∀ (i : Nat) (x y : Value), c[i]? = some x → c'[i]? = some y → VRel σ x y) :
      VRel σ (.func (.func f) a c) (.func (.func f) a' c')
  | yield {l : Nat} {pl : Pl} (h : σ l = some pl) : VRel σ (.func (.yield l) #[] #[]) (.func (.yield pl.b) #[] #[])
  | nilIface : VRel σ .nilIface .nilIface
  | iface (t : TypeId) {v v' : Value} (h : VRel σ v v') : VRel σ (.iface t v) (.iface t v')
  | agg {a a' : Array Value} (ha : a.size = a'.size) (ra : ∀ (i : Nat) (x y : Value), a[i]? = some x → a'[i]? = some y → VRel σ x y) : VRel σ (.agg a) (.agg a')
  | tuple {a a' : Array Value} (ha : a.size = a'.size) (ra : ∀ (i : Nat) (x y : Value), a[i]? = some x → a'[i]? = some y → VRel σ x y) : VRel σ (.tuple a) (.tuple a')

def Le (σ σ' : Nat → Option Pl) : Prop := ∀ g pl, σ g = some pl → σ' g = some pl
theorem Le.refl (σ : Nat → Option Pl) : Le σ σ := fun _ _ h => h
theorem Le.trans {a b c : Nat → Option Pl} (h : Le a b) (k : Le b c) : Le a c := fun _ _ x => k _ _ (h _ _ x)

theorem VRel.mono {σ σ' : Nat → Option Pl} (hs : Le σ σ') {v v' : Value} (h : VRel σ v v') : VRel σ' v v' := by
  induction h with
  | bool b => exact .bool b
  | int k n => exact .int k n
  | float k n => exact .float k n
  | complex k a b => exact .complex k a b
  | string s => exact .string s
  | pnil => exact .pnil
  | ptr h => exact .ptr (hs _ _ h)
  | snil => exact .snil
  | slice h hc hl hn => exact .slice (hs _ _ h) hc hl hn
  | szero a x c => exact .szero a x c
  | mnil => exact .mnil
  | map h => exact .map (hs _ _ h)
  | nilFunc => exact .nilFunc
  | func f ha hc _ _ ia ic => exact .func f ha hc ia ic
  | yield h => exact .yield (hs _ _ h)
  | nilIface => exact .nilIface
  | iface t _ ih => exact .iface t ih
  | agg ha _ ia => exact .agg ha ia
  | tuple ha _ ia => exact .tuple ha ia

theorem VRel.undef (σ : Nat → Option Pl) : VRel σ undef undef := .tuple rfl (fun i x y h => by simp at h)

theorem VRel.closed (σ : Nat → Option Pl) : ∀ {v : Value}, closedV v = true → VRel σ v v
  | .bool b, _ => .bool b
  | .int k n, _ => .int k n
  | .float k n, _ => .float k n
  | .complex k a b, _ => .complex k a b
  | .string s, _ => .string s
  | .pointer none, _ => .pnil
  | .slice none 0 0, _ => .snil
  | .map none, _ => .mnil
  | .nilFunc, _ => .nilFunc
  | .nilIface, _ => .nilIface

theorem VRel.closed_eq {σ : Nat → Option Pl} {v v' : Value} (h : VRel σ v v') (hc : closedV v = true) : v' = v := by
  cases h <;> simp_all [closedV]

/-- Lists of values, one by one. -/
def LRel (σ : Nat → Option Pl) (l l' : List Value) : Prop := l.length = l'.length ∧ ∀ (i : Nat) (x y : Value), l[i]? = some x → l'[i]? = some y → VRel σ x y
theorem LRel.mono {σ σ' : Nat → Option Pl} (hs : Le σ σ') {l l' : List Value} (h : LRel σ l l') : LRel σ' l l' := ⟨h.1, fun i x y a b => (h.2 i x y a b).mono hs⟩
theorem LRel.nil (σ : Nat → Option Pl) : LRel σ [] [] := ⟨rfl, fun i x y h => by simp at h⟩
theorem LRel.cons {σ : Nat → Option Pl} {x y : Value} {l l' : List Value} (h : VRel σ x y) (hl : LRel σ l l') : LRel σ (x :: l) (y :: l') :=
  ⟨by simp [hl.1], fun i a b ha hb => by
    cases i with
    | zero => simp at ha hb; subst ha hb; exact h
    | succ i => simp at ha hb; exact hl.2 i a b ha hb⟩
theorem LRel.append {σ : Nat → Option Pl} {a a' b b' : List Value} (h : LRel σ a a') (k : LRel σ b b') : LRel σ (a ++ b) (a' ++ b') :=
  ⟨by simp [h.1, k.1], fun i x y hx hy => by
    by_cases hi : i < a.length
    · rw [List.getElem?_append_left hi] at hx
      rw [List.getElem?_append_left (by rw [← h.1]; exact hi)] at hy
      exact h.2 i x y hx hy
    · rw [List.getElem?_append_right (by omega)] at hx
      rw [List.getElem?_append_right (by rw [← h.1]; omega)] at hy
      rw [← h.1] at hy
      exact k.2 _ x y hx hy⟩
theorem LRel.drop {σ : Nat → Option Pl} {a a' : List Value} (h : LRel σ a a') (n : Nat) : LRel σ (a.drop n) (a'.drop n) :=
  ⟨by simp [h.1], fun i x y hx hy => by rw [List.getElem?_drop] at hx hy; exact h.2 _ x y hx hy⟩
theorem LRel.take {σ : Nat → Option Pl} {a a' : List Value} (h : LRel σ a a') (n : Nat) : LRel σ (a.take n) (a'.take n) :=
  ⟨by simp [h.1], fun i x y hx hy => by
    rw [List.getElem?_take] at hx hy
    split at hx <;> simp_all
    exact h.2 _ x y hx hy⟩
theorem LRel.closed (σ : Nat → Option Pl) {l : List Value} (h : closedL l = true) : LRel σ l l :=
  ⟨rfl, fun i x y hx hy => by
    have : x = y := by rw [hx] at hy; exact Option.some.inj hy
    subst this
    exact VRel.closed σ (List.all_eq_true.1 h x (List.mem_of_getElem? hx))⟩
theorem LRel.get {σ : Nat → Option Pl} {l l' : List Value} (h : LRel σ l l') {i : Nat} {x : Value} (hx : l[i]? = some x) : ∃ y, l'[i]? = some y ∧ VRel σ x y := by
  have hi : i < l.length := (List.getElem?_eq_some_iff.1 hx).1
  have hy : l'[i]? = some (l'[i]'(by rw [← h.1]; exact hi)) := List.getElem?_eq_getElem _
  exact ⟨_, hy, h.2 i _ _ hx hy⟩
theorem VRel.cells {σ : Nat → Option Pl} {v v' : Value} (h : VRel σ v v') : LRel σ v.cells.toList v'.cells.toList := by
  cases h with
  | agg ha ra => exact ⟨by simpa [Value.cells] using ha, fun i x y hx hy => ra i x y (by simpa [Value.cells] using hx) (by simpa [Value.cells] using hy)⟩
  | bool b => exact .cons (.bool b) (.nil _)
  | int k n => exact .cons (.int k n) (.nil _)
  | float k n => exact .cons (.float k n) (.nil _)
  | complex k a b => exact .cons (.complex k a b) (.nil _)
  | string s => exact .cons (.string s) (.nil _)
  | pnil => exact .cons .pnil (.nil _)
  | ptr h => exact .cons (.ptr h) (.nil _)
  | snil => exact .cons .snil (.nil _)
  | slice h hc hl hn => exact .cons (.slice h hc hl hn) (.nil _)
  | szero a x c => exact .cons (.szero a x c) (.nil _)
  | mnil => exact .cons .mnil (.nil _)
  | map h => exact .cons (.map h) (.nil _)
  | nilFunc => exact .cons .nilFunc (.nil _)
  | func f ha hc ra rc => exact .cons (.func f ha hc ra rc) (.nil _)
  | yield h => exact .cons (.yield h) (.nil _)
  | nilIface => exact .cons .nilIface (.nil _)
  | iface t h => exact .cons (.iface t h) (.nil _)
  | tuple ha ra => exact .cons (.tuple ha ra) (.nil _)
theorem VRel.agg' {σ : Nat → Option Pl} {l l' : List Value} (h : LRel σ l l') : VRel σ (.agg l.toArray) (.agg l'.toArray) :=
  .agg (by simpa using h.1) (fun i x y hx hy => h.2 i x y (by simpa using hx) (by simpa using hy))

/-! ### Objects and heaps -/
def CodeRel (P : Program) (nt : Nat) (c : Code) (a : ACode) : Prop := cCode P nt c = some a

def PendRel : Option ACode → Option Code → Prop
  | none, none => True
  | some .ret, some .ret => True
  | some (.exit i), some (.exit j) => i = j
  | some (.goto i), some (.goto j) => i = j
  | _, _ => False

structure LoopRel (P : Program) (σ : Nat → Option Pl) (r : ALoop) (r' : Loop) : Prop where
  state : r'.state = r.state
  pending : PendRel r.pending r'.pending
  tm : ∀ k, VRel σ (tmGet r.tm k) (r'.tmps.getD k Go.undef)
  params : r'.params.toList = r.params
  code : ∃ nt, nt ≤ r'.tmps.size ∧ (∀ p ∈ r.params, p < nt) ∧ CodeRel P nt r'.assign r.assign ∧ CodeRel P nt r'.body r.body
  defers : ∃ pl, σ r.defers = some pl ∧ r'.defers = pl.b

def ERel (σ : Nat → Option Pl) (es es' : List MapEntry) : Prop :=
  es.length = es'.length ∧ ∀ (i : Nat) (e e' : MapEntry), es[i]? = some e → es'[i]? = some e' → e'.key = e.key ∧ e'.born = e.born ∧ VRel σ e.val e'.val

def ORel (P : Program) (σ : Nat → Option Pl) (pl : Pl) (o : AObj) (w : World) : Prop :=
  match o with
  | .row cells own _ => ∃ c elem fr, w.heap[pl.b]? = some (.cells c elem fr) ∧ c.size = pl.n ∧ pl.base + cells.length ≤ pl.n ∧
      (∀ i x, cells[i]? = some x → ∃ y, c[pl.base + i]? = some y ∧ VRel σ x y) ∧ (own = true → fr = (0, 0))
  | .map es clock => ∃ es', w.heap[pl.b]? = some (.map es' clock) ∧ ERel σ es es'.toList
  | .loop r => ∃ r', w.heap[pl.b]? = some (.loop r') ∧ LoopRel P σ r r'
  | .deferred none => w.heap[pl.b]? = some (.deferred none)
  | .deferred (some ds) => ds = [] ∧ w.heap[pl.b]? = some (.deferred (some []))

def ownO : AObj → Bool
  | .row _ own _ => own
  | _ => true

def Apart (pl : Pl) (o : AObj) (pl' : Pl) (o' : AObj) : Prop :=
  match o, o' with
  | .row cells own lo, .row cells' own' lo' => ¬ (own = true ∧ own' = true) ∧ (own = true → pl'.base + cells'.length ≤ pl.base + lo) ∧ (own' = true → pl.base + cells.length ≤ pl'.base + lo')
  | _, _ => False

structure HRel (P : Program) (B : Nat) (σ : Nat → Option Pl) (h : AHeap) (w : World) : Prop where
  globals : ∀ g, g < P.globals.size → ∃ pl, σ g = some pl ∧ pl.b = g ∧ pl.base = 0
  lt : ∀ g pl, σ g = some pl → g < h.n ∧ pl.b < w.heap.size
  live : ∀ g o, h.get g = some o → ∃ pl, σ g = some pl ∧ ORel P σ pl o w ∧ (ownO o = true → B ≤ pl.b)
  apart : ∀ g o g' o' pl pl', h.get g = some o → h.get g' = some o' → g ≠ g' → σ g = some pl → σ g' = some pl' → pl.b = pl'.b → Apart pl o pl' o'
  le : B ≤ w.heap.size

/-- Is a block one that the abstract heap owns? -/
def Owns (σ : Nat → Option Pl) (h : AHeap) (b : Nat) : Prop := ∃ g o pl, h.get g = some o ∧ ownO o = true ∧ σ g = some pl ∧ pl.b = b

/-- The machine goes on, the abstract one beside it: what neither of them owned has not turned. -/
structure Evo (P : Program) (B : Nat) (σ : Nat → Option Pl) (h : AHeap) (w : World) (σ' : Nat → Option Pl) (h' : AHeap) (w' : World) : Prop where
  le : Le σ σ'
  rel : HRel P B σ' h' w'
  os : w'.os = w.os
  tape : w'.tape = w.tape
  output : w'.output = w.output
  size : w.heap.size ≤ w'.heap.size
  kept : ∀ b, b < w.heap.size → ¬ Owns σ h b → w'.heap[b]? = w.heap[b]?
  from_ : ∀ b, Owns σ' h' b → w.heap.size ≤ b ∨ Owns σ h b
  old : h.n ≤ h'.n ∧ ∀ g, g < h.n → σ' g = σ g

theorem Evo.refl {P : Program} {B : Nat} {σ : Nat → Option Pl} {h : AHeap} {w : World} (hr : HRel P B σ h w) : Evo P B σ h w σ h w :=
  ⟨.refl _, hr, rfl, rfl, rfl, Nat.le_refl _, fun _ _ _ => rfl, fun _ h => .inr h, Nat.le_refl _, fun _ _ => rfl⟩
theorem Evo.trans {P : Program} {B : Nat} {σ σ' σ'' : Nat → Option Pl} {h h' h'' : AHeap} {w w' w'' : World} (e : Evo P B σ h w σ' h' w') (f : Evo P B σ' h' w' σ'' h'' w'') :
    Evo P B σ h w σ'' h'' w'' where
  le := e.le.trans f.le
  rel := f.rel
  os := f.os.trans e.os
  tape := f.tape.trans e.tape
  output := f.output.trans e.output
  size := Nat.le_trans e.size f.size
  kept := fun b hb ho => (f.kept b (Nat.lt_of_lt_of_le hb e.size) (fun ho' => (e.from_ b ho').elim (fun h => by omega) ho)).trans (e.kept b hb ho)
  from_ := fun b ho => (f.from_ b ho).elim (fun h => .inl (Nat.le_trans e.size h)) (e.from_ b)
  old := ⟨Nat.le_trans e.old.1 f.old.1, fun g hg => (f.old.2 g (Nat.lt_of_lt_of_le hg e.old.1)).trans (e.old.2 g hg)⟩

theorem HRel.drew {P : Program} {B : Nat} {σ : Nat → Option Pl} {h : AHeap} {w : World} (n : Nat) (hr : HRel P B σ h w) : HRel P B σ h { w with drawn := n } := by
  refine ⟨hr.globals, hr.lt, fun g o hg => ?_, hr.apart, hr.le⟩
  obtain ⟨pl, h1, h2, h3⟩ := hr.live g o hg
  exact ⟨pl, h1, by cases o with
    | deferred ds => cases ds <;> exact h2
    | _ => exact h2, h3⟩
theorem Evo.drew {P : Program} {B : Nat} {σ : Nat → Option Pl} {h : AHeap} {w : World} (n : Nat) (hr : HRel P B σ h w) : Evo P B σ h w σ h { w with drawn := n } :=
  ⟨.refl _, hr.drew n, rfl, rfl, rfl, Nat.le_refl _, fun _ _ _ => rfl, fun _ h => .inr h, Nat.le_refl _, fun _ _ => rfl⟩

theorem Evo.below {P : Program} {B : Nat} {σ σ' : Nat → Option Pl} {h h' : AHeap} {w w' : World} (hr : HRel P B σ h w) (e : Evo P B σ h w σ' h' w') : RowKit.Below B w w' :=
  ⟨e.os, e.tape, e.output, e.size, fun b hb => e.kept b (Nat.lt_of_lt_of_le hb hr.le) (fun ⟨g, o, pl, h1, h2, h3, h4⟩ => by
    obtain ⟨pl', h5, _, h7⟩ := hr.live g o h1
    rw [h3] at h5
    cases h5
    have := h7 h2
    omega)⟩

/-- An object whose block has not turned. -/
theorem ORel.keep {P : Program} {σ σ' : Nat → Option Pl} {pl : Pl} {o : AObj} {w w' : World} (hs : Le σ σ') (hb : w'.heap[pl.b]? = w.heap[pl.b]?) (h : ORel P σ pl o w) : ORel P σ' pl o w' := by
  cases o with
  | row cells own lo =>
    obtain ⟨c, elem, fr, h1, h2, h3, h4, h5⟩ := h
    exact ⟨c, elem, fr, hb.trans h1, h2, h3, fun i x hx => let ⟨y, a, b⟩ := h4 i x hx; ⟨y, a, b.mono hs⟩, h5⟩
  | map es clock =>
    obtain ⟨es', h1, h2⟩ := h
    exact ⟨es', hb.trans h1, h2.1, fun i e e' a b => let ⟨x, y, z⟩ := h2.2 i e e' a b; ⟨x, y, z.mono hs⟩⟩
  | loop r =>
    obtain ⟨r', h1, h2⟩ := h
    exact ⟨r', hb.trans h1, ⟨h2.state, h2.pending, fun k => (h2.tm k).mono hs, h2.params, h2.code, let ⟨pl, a, b⟩ := h2.defers; ⟨pl, hs _ _ a, b⟩⟩⟩
  | deferred ds =>
    cases ds with
    | none => exact hb.trans h
    | some ds => exact ⟨h.1, hb.trans h.2⟩

/-- Placements with one more. -/
def more (σ : Nat → Option Pl) (g : Nat) (pl : Pl) : Nat → Option Pl := fun k => if k = g then some pl else σ k
theorem more_le {P : Program} {B : Nat} {σ : Nat → Option Pl} {h : AHeap} {w : World} (hr : HRel P B σ h w) (pl : Pl) : Le σ (more σ h.n pl) := fun g p hg => by
  unfold more
  have := (hr.lt g p hg).1
  rw [if_neg (by omega)]
  exact hg
theorem more_same (σ : Nat → Option Pl) (g : Nat) (pl : Pl) : more σ g pl g = some pl := if_pos rfl

/-- A new object in a new block. -/
theorem HRel.push {P : Program} {B : Nat} {σ : Nat → Option Pl} {h : AHeap} {w w' : World} {O : Obj} {o : AObj} {n : Nat} (hr : HRel P B σ h w) (hh : w'.heap = w.heap.push O)
    (hd : w'.os = w.os ∧ w'.tape = w.tape ∧ w'.output = w.output)
    (ho : ORel P (more σ h.n ⟨w.heap.size, 0, n⟩) ⟨w.heap.size, 0, n⟩ o w') : Evo P B σ h w (more σ h.n ⟨w.heap.size, 0, n⟩) (h.push o) w' := by
  have hsz : w'.heap.size = w.heap.size + 1 := by rw [hh]; simp
  have hle := more_le hr ⟨w.heap.size, 0, n⟩
  have hkeep : ∀ b, b < w.heap.size → w'.heap[b]? = w.heap[b]? := fun b hb => by
    rw [hh, Array.getElem?_push_lt hb, Array.getElem?_eq_getElem hb]
  have hnone : h.get h.n = none := by
    cases hg : h.get h.n with
    | none => rfl
    | some o => obtain ⟨pl, h1, _⟩ := hr.live _ _ hg; have := (hr.lt _ _ h1).1; omega
  have hsame : ∀ g pl, more σ h.n ⟨w.heap.size, 0, n⟩ g = some pl → g = h.n ∧ pl = ⟨w.heap.size, 0, n⟩ ∨ g ≠ h.n ∧ σ g = some pl := fun g pl hg => by
    unfold more at hg
    split at hg
    · exact .inl ⟨by assumption, (Option.some.inj hg).symm⟩
    · exact .inr ⟨by assumption, hg⟩
  refine ⟨hle, ⟨fun g hg => ?_, fun g pl hg => ?_, fun g o' hg => ?_, ?_, by rw [hsz]; have := hr.le; omega⟩, hd.1, hd.2.1, hd.2.2, by omega, fun b hb _ => hkeep b hb, fun b ⟨g, o', pl, h1, h2, h3, h4⟩ => ?_, Nat.le_succ _, fun g hg => if_neg (Nat.ne_of_lt hg)⟩
  · obtain ⟨pl, h1, h2⟩ := hr.globals g hg
    exact ⟨pl, hle _ _ h1, h2⟩
  · rcases hsame g pl hg with ⟨rfl, rfl⟩ | ⟨_, h1⟩
    · exact ⟨by simp [AHeap.push], by simp [hsz]⟩
    · have := hr.lt g pl h1
      exact ⟨by simp [AHeap.push]; omega, by omega⟩
  · rw [get_push] at hg
    split at hg
    · rename_i e
      subst e
      cases hg
      exact ⟨_, more_same _ _ _, ho, fun _ => hr.le⟩
    · obtain ⟨pl, h1, h2, h3⟩ := hr.live g o' hg
      exact ⟨pl, hle _ _ h1, h2.keep hle (hkeep _ (hr.lt _ _ h1).2), h3⟩
  · intro g o1 g' o2 pl pl' h1 h2 hne h3 h4 hb
    rw [get_push] at h1 h2
    rcases hsame g pl h3 with ⟨e, rfl⟩ | ⟨e, h3'⟩ <;> rcases hsame g' pl' h4 with ⟨e', rfl⟩ | ⟨e', h4'⟩
    · exact absurd (e.trans e'.symm) hne
    · have := (hr.lt _ _ h4').2; simp at hb; omega
    · have := (hr.lt _ _ h3').2; simp at hb; omega
    · rw [if_neg e] at h1
      rw [if_neg e'] at h2
      exact hr.apart g o1 g' o2 pl pl' h1 h2 hne h3' h4' hb
  · rw [get_push] at h1
    rcases hsame g pl h3 with ⟨e, rfl⟩ | ⟨e, h3'⟩
    · left; rw [← h4]; exact Nat.le_refl _
    · rw [if_neg e] at h1
      exact .inr ⟨g, o', pl, h1, h2, h3', h4⟩

/-- An object of ours is written over. -/
theorem HRel.put {P : Program} {B : Nat} {σ : Nat → Option Pl} {h : AHeap} {w w' : World} {O' : Obj} {g : Nat} {o o' : AObj} {pl : Pl} (hr : HRel P B σ h w) (hg : h.get g = some o) (hown : ownO o = true)
    (hown' : ownO o' = true) (hp : σ g = some pl)
    (hh : w'.heap.size = w.heap.size ∧ w'.heap[pl.b]? = some O' ∧ ∀ b, b ≠ pl.b → w'.heap[b]? = w.heap[b]?) (hd : w'.os = w.os ∧ w'.tape = w.tape ∧ w'.output = w.output)
    (ho : ORel P σ pl o' w')
    (hother : ∀ g2 o2 pl2, h.get g2 = some o2 → g2 ≠ g → σ g2 = some pl2 → pl2.b = pl.b → Apart pl o pl2 o2 → ORel P σ pl2 o2 w → ORel P σ pl2 o2 w' ∧ Apart pl o' pl2 o2) :
    Evo P B σ h w σ (h.set g o') w' := by
  have sym : ∀ {pl o pl' o'}, Apart pl o pl' o' → Apart pl' o' pl o := fun {pl o pl' o'} h => by
    cases o <;> cases o' <;> first | exact h.elim | exact ⟨fun x => h.1 ⟨x.2, x.1⟩, h.2.2, h.2.1⟩
  refine ⟨.refl _, ⟨hr.globals, fun k p hk => ⟨(hr.lt k p hk).1, by rw [hh.1]; exact (hr.lt k p hk).2⟩, fun k o2 hk => ?_, ?_, by rw [hh.1]; exact hr.le⟩, hd.1, hd.2.1, hd.2.2, by omega, fun b hb hno => hh.2.2 b fun e => hno ⟨g, o, pl, hg, hown, hp, e.symm⟩, ?_, Nat.le_refl _, fun _ _ => rfl⟩
  · rw [get_set] at hk
    split at hk
    · rename_i e; subst e; cases hk
      obtain ⟨pl', h1, _, h3⟩ := hr.live k o hg
      rw [hp] at h1; cases h1
      exact ⟨pl, hp, ho, fun _ => h3 hown⟩
    · rename_i e
      obtain ⟨pl2, h1, h2, h3⟩ := hr.live k o2 hk
      refine ⟨pl2, h1, ?_, h3⟩
      by_cases hb : pl2.b = pl.b
      · exact (hother k o2 pl2 hk e h1 hb (hr.apart g o k o2 pl pl2 hg hk (fun x => e x.symm) hp h1 hb.symm) h2).1
      · exact h2.keep (.refl _) (hh.2.2 _ hb)
  · intro k o1 k' o2 p1 p2 h1 h2 hne h3 h4 hb
    rw [get_set] at h1 h2
    split at h1 <;> split at h2
    · rename_i e e'; exact absurd (e.trans e'.symm) hne
    · rename_i e e'
      subst e; cases h1
      rw [hp] at h3; cases h3
      obtain ⟨pl2, h5, h6, _⟩ := hr.live k' o2 h2
      rw [h4] at h5; cases h5
      exact (hother k' o2 p2 h2 e' h4 hb.symm (hr.apart k o k' o2 pl p2 hg h2 hne hp h4 hb) h6).2
    · rename_i e e'
      subst e'; cases h2
      rw [hp] at h4; cases h4
      obtain ⟨pl1, h5, h6, _⟩ := hr.live k o1 h1
      rw [h3] at h5; cases h5
      exact sym (hother k o1 p1 h1 e h3 hb (hr.apart k' o k o1 pl p1 hg h1 (fun x => hne x.symm) hp h3 hb.symm) h6).2
    · exact hr.apart k o1 k' o2 p1 p2 h1 h2 hne h3 h4 hb
  · rintro b ⟨k, o2, p, h1, h2, h3, h4⟩
    rw [get_set] at h1
    split at h1
    · rename_i e; subst e; exact .inr ⟨k, o, p, hg, hown, h3, h4⟩
    · exact .inr ⟨k, o2, p, h1, h2, h3, h4⟩

end Go.Am
