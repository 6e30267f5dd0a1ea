/-
  The abstract machine: each operation does what the model's does.
-/
import Derived.Test.YtdhpgfhidldmgaaAmRel
import Derived.Laws.AppendOwn
import Derived.Laws.MakeOwn
import Derived.Laws.CopyRow
import Derived.Laws.Rows
import Derived.Laws.NewBlocks
import Derived.Deep.MidRow
namespace Go.Am
open Go.RowKit

/-- What is shown of an operation: it yields, in a world behind, what its abstract twin yields. -/
def OpRes (P : Program) (B : Nat) (σ : Nat → Option Pl) (h : AHeap) (w : World) (s : Sem Next) (v : Value) (h' : AHeap) : Prop :=
  ∃ σ' w', ((∃ cv, s.run P w = .ok (.value cv) w' ∧ VRel σ' v cv) ∨ (s.run P w = .ok .skip w' ∧ v = Go.undef)) ∧ Evo P B σ h w σ' h' w'

section
variable {P : Program} {B : Nat} {σ : Nat → Option Pl} {h : AHeap} {w : World}

/-- A value in the same world. -/
theorem OpRes.same {s : Sem Value} {v cv : Value} (hr : HRel P B σ h w) (hs : s.run P w = .ok cv w) (hv : VRel σ v cv) :
    OpRes P B σ h w (do pure (.value (← s))) v h := ⟨σ, w, .inl ⟨cv, by simp [hs], hv⟩, Evo.refl hr⟩

theorem ev_rel (hr : HRel P B σ h w) {t : Trie Value} {a : Act} (ht : ∀ k, VRel σ (tmGet t k) (a.tmps.getD k Go.undef)) {x : Operand} (ho : opdOk P x = true) : VRel σ (ev t x) (a.eval x) := by
  cases x with
  | tmp k => exact ht k
  | const v => exact VRel.closed σ ho
  | global g =>
    have hg : g < P.globals.size := by simp [opdOk] at ho; omega
    obtain ⟨pl, h1, h2, h3⟩ := hr.globals g hg
    have := VRel.ptr (off := 0) h1
    rw [h2, h3] at this
    exact this
  | func f => exact .func f rfl rfl (fun i x y h => by simp at h) (fun i x y h => by simp at h)

/-! ### Numbers -/
theorem binV_rel {op : BinOp} {x y x' y' v : Value} (hx : VRel σ x x') (hy : VRel σ y y') (hv : binV op x y = some v) (ty : TypeId) :
    (binOp op ty x' y').run P w = .ok v w ∧ VRel σ v v := by
  have hc : closedV x = true ∧ closedV y = true ∧ closedV v = true := by
    unfold binV at hv
    split at hv <;> first
      | (cases hv; done)
      | (simp only [Option.ite_none_right_eq_some, Option.ite_none_left_eq_some, Option.some.injEq] at hv
         first | (obtain ⟨_, rfl⟩ := hv; exact ⟨rfl, rfl, rfl⟩) | (obtain ⟨_, _, rfl⟩ := hv; exact ⟨rfl, rfl, rfl⟩))
  obtain ⟨cx, cy, cv⟩ := hc
  have ex := hx.closed_eq cx
  have ey := hy.closed_eq cy
  subst ex ey
  refine ⟨?_, VRel.closed σ cv⟩
  unfold binV at hv
  split at hv <;> first
    | (cases hv; done)
    | (simp only [Option.ite_none_right_eq_some, Option.ite_none_left_eq_some, Option.some.injEq] at hv
       first
        | (obtain ⟨rfl, rfl⟩ := hv; simp [binOp, Op.intArith, Op.intBits, Op.intCmp]; done)
        | (obtain ⟨rfl, hb, rfl⟩ := hv; simp [binOp, Op.intDiv, hb]; done)
        | (obtain ⟨hb, rfl⟩ := hv; simp [binOp, Op.shift, hb]; done))

theorem unV_rel {op : UnOp} {x x' v : Value} (hx : VRel σ x x') (hv : unV op x = some v) : (Op.unary op x').run P w = .ok v w ∧ VRel σ v v := by
  unfold unV at hv
  split at hv <;> first | (cases hv; done) | skip
  · cases hx; simp only [Option.some.injEq] at hv; subst hv; exact ⟨rfl, .bool _⟩
  · cases hx; simp only [Option.some.injEq] at hv; subst hv; exact ⟨by simp [Op.unary, Op.intArith], .int _ _⟩

theorem pureRun_run {α : Type} (s : Sem α) {a : α} : pureRun P s = some a → s.run P w = .ok a w := by
  induction s with
  | pure b => intro h; simp [pureRun] at h; simp [h]
  | program k ih => intro h; simp only [pureRun] at h; simp only [Sem.run]; exact ih _ h
  | mark m k ih => intro h; simp only [pureRun] at h; simp only [Sem.run]; exact ih h
  | _ => intro h; simp [pureRun] at h

/-- A value against nil, either way round. -/
theorem nilV_rel {d : TypeDesc} {ty : TypeId} {k : Nat} {x x' c : Value} {z : Operand} {b : Bool} (hd : P.underlying ty = some d) (hk : nilKind d = some k) (hx : VRel σ x x') (hv : nilV k x = some b) (hc : isNilC k z = true) (hz : z = .const c) :
    ∀ (y : Operand) (neg : Bool),
      ((do eqGuard (if neg then .neq else .eql) ty y z x' c; binOp (if neg then .neq else .eql) ty x' c : Sem Value).run P w = .ok (.bool (if neg then !b else b)) w) ∧
      ((do eqGuard (if neg then .neq else .eql) ty z y c x'; binOp (if neg then .neq else .eql) ty c x' : Sem Value).run P w = .ok (.bool (if neg then !b else b)) w) := by
  have hE : ∀ {v u : Value} {r : Bool}, (∀ D, (Op.equalIn (D + 1) ty v u).run P w = .ok r w) → (Op.equal ty v u).run P w = .ok r w := fun h => h 9999
  subst hz
  intro y neg
  cases d with
  | slice e =>
    simp only [nilKind, Option.some.injEq] at hk; subst hk
    have hc' : c = .slice none 0 0 := by
      unfold isNilC at hc; split at hc <;> first | (cases hc; done) | skip
      all_goals (rename_i h; first | (cases h; rfl) | (rename_i h2; cases h2; rfl) | simp_all)
    subst hc'
    cases hx <;> simp only [nilV] at hv <;> first | (cases hv; done) | skip
    all_goals
      simp only [Option.some.injEq] at hv
      subst hv
      cases neg <;> simp only [eqGuard, binOp] <;> refine ⟨?_, ?_⟩ <;> (simp; rw [hE (fun D => by rw [Op.equalIn, Sem.run_bind, run_underlying hd]; rfl)]; rfl)
  | map e f =>
    simp only [nilKind, Option.some.injEq] at hk; subst hk
    have hc' : c = .map none := by
      unfold isNilC at hc; split at hc <;> first | (cases hc; done) | skip
      all_goals (rename_i h; first | (cases h; rfl) | (rename_i h2; cases h2; rfl) | simp_all)
    subst hc'
    cases hx <;> simp only [nilV] at hv <;> first | (cases hv; done) | skip
    all_goals
      simp only [Option.some.injEq] at hv
      subst hv
      cases neg <;> simp only [eqGuard, binOp] <;> refine ⟨?_, ?_⟩ <;> (simp; rw [hE (fun D => by rw [Op.equalIn, Sem.run_bind, run_underlying hd]; rfl)]; rfl)
  | func e f g =>
    simp only [nilKind, Option.some.injEq] at hk; subst hk
    have hc' : c = .nilFunc := by
      unfold isNilC at hc; split at hc <;> first | (cases hc; done) | skip
      all_goals (rename_i h; first | (cases h; rfl) | (rename_i h2; cases h2; rfl) | simp_all)
    subst hc'
    cases hx <;> simp only [nilV] at hv <;> first | (cases hv; done) | skip
    all_goals
      simp only [Option.some.injEq] at hv
      subst hv
      cases neg <;> simp only [eqGuard, binOp] <;> refine ⟨?_, ?_⟩ <;> (simp; rw [hE (fun D => by rw [Op.equalIn, Sem.run_bind, run_underlying hd]; rfl)]; rfl)
  | pointer e =>
    simp only [nilKind, Option.some.injEq] at hk; subst hk
    have hc' : c = .pointer none := by
      unfold isNilC at hc; split at hc <;> first | (cases hc; done) | skip
      all_goals (rename_i h; first | (cases h; rfl) | (rename_i h2; cases h2; rfl) | simp_all)
    subst hc'
    cases hx <;> simp only [nilV] at hv <;> first | (cases hv; done) | skip
    all_goals
      simp only [Option.some.injEq] at hv
      subst hv
      cases neg <;> simp only [eqGuard, binOp] <;> refine ⟨?_, ?_⟩ <;> (simp; rw [hE (fun D => by rw [Op.equalIn, Sem.run_bind, run_underlying hd]; rfl)]; rfl)
  | interface e =>
    simp only [nilKind, Option.some.injEq] at hk; subst hk
    have hc' : c = .nilIface := by
      unfold isNilC at hc; split at hc <;> first | (cases hc; done) | skip
      all_goals (rename_i h; first | (cases h; rfl) | (rename_i h2; cases h2; rfl) | simp_all)
    subst hc'
    cases hx <;> simp only [nilV] at hv <;> first | (cases hv; done) | skip
    all_goals
      simp only [Option.some.injEq] at hv
      subst hv
      cases neg <;> simp only [eqGuard, binOp] <;> refine ⟨?_, ?_⟩ <;> (simp; rw [hE (fun D => by rw [Op.equalIn, Sem.run_bind, run_underlying hd]; rfl)]; rfl)
  | _ => simp [nilKind] at hk

theorem VRel.closedD_eq {v v' : Value} (h : VRel σ v v') (hc : closedD v = true) : v' = v := by
  cases h with
  | agg ha ra =>
    rename_i a a'
    congr 1
    apply Array.ext ha.symm
    intro i h1 h2
    have hx : a[i]? = some a[i] := Array.getElem?_eq_getElem _
    have hy : a'[i]? = some a'[i] := Array.getElem?_eq_getElem _
    exact (ra i _ _ hx hy).closed_eq (List.all_eq_true.1 hc _ (by simp))
  | _ => simp_all [closedD, closedV]

/-! ### Reading -/
theorem cut_some {cells xs : List Value} {off n : Nat} (hc : cut cells off n = some xs) : off + n ≤ cells.length ∧ xs = (cells.drop off).take n ∧ xs.length = n := by
  unfold cut at hc
  cases hb : Nat.ble (off + n) cells.length with
  | false => simp [hb] at hc
  | true =>
    have : off + n ≤ cells.length := Nat.le_of_ble_eq_true hb
    simp [hb] at hc
    subst hc
    exact ⟨this, rfl, by simp; omega⟩

theorem ofCells_rel {agg : Bool} {xs ys : List Value} {v : Value} (hl : LRel σ xs ys) (hv : ofCells agg xs = some v) :
    ∃ cv, ofCells agg ys = some cv ∧ VRel σ v cv := by
  unfold ofCells at *
  cases agg with
  | true => simp at hv ⊢; subst hv; exact VRel.agg' hl
  | false =>
    simp only [cond_false] at *
    match xs, ys, hl with
    | [x], [y], hl => cases hv; exact ⟨y, rfl, hl.2 0 _ _ rfl rfl⟩
    | [x], [], hl => have := hl.1; simp at this
    | [x], _ :: _ :: _, hl => have := hl.1; simp at this
    | [], _, _ => cases hv
    | _ :: _ :: _, _, _ => cases hv

/-- A live row's cells, where they lie. -/
theorem row_cells (hr : HRel P B σ h w) {g : Nat} {cells : List Value} (hg : rowOf h g = some cells) :
    ∃ pl, σ g = some pl ∧ pl.base + cells.length ≤ pl.n ∧ ∀ i x, cells[i]? = some x → ∃ y, w.cell? ⟨pl.b, pl.base + i, none⟩ = some y ∧ VRel σ x y := by
  unfold rowOf at hg
  split at hg
  · rename_i c own lo hget
    cases hg
    obtain ⟨pl, h1, ⟨cc, elem, fr, h2, h3, h4, h5, _⟩, _⟩ := hr.live _ _ hget
    exact ⟨pl, h1, h4, fun i x hx => let ⟨y, a, b⟩ := h5 i x hx; ⟨y, by simp [World.cell?, h2, a], b⟩⟩
  · cases hg

theorem cut_cells (hr : HRel P B σ h w) {g off n : Nat} {cells xs : List Value} (hg : rowOf h g = some cells) (hc : cut cells off n = some xs) :
    ∃ pl ys, σ g = some pl ∧ LRel σ xs ys ∧ ys.length = n ∧ pl.base + off + n ≤ pl.n ∧ ∀ j v, ys[j]? = some v → w.cell? ⟨pl.b, pl.base + off + j, none⟩ = some v := by
  obtain ⟨pl, h1, h2, h3⟩ := row_cells hr hg
  obtain ⟨h4, h5, h6⟩ := cut_some hc
  have key : ∀ j, j < n → ∃ x y, xs[j]? = some x ∧ w.cell? ⟨pl.b, pl.base + off + j, none⟩ = some y ∧ VRel σ x y := fun j hj => by
    have hx : xs[j]? = cells[off + j]? := by rw [h5, List.getElem?_take, if_pos hj, List.getElem?_drop]
    have : cells[off + j]? = some (cells[off + j]'(by omega)) := List.getElem?_eq_getElem _
    obtain ⟨y, a, b⟩ := h3 (off + j) _ this
    exact ⟨_, y, hx.trans this, by rw [Nat.add_assoc]; exact a, b⟩
  refine ⟨pl, (List.range n).map fun j => (w.cell? ⟨pl.b, pl.base + off + j, none⟩).getD Go.undef, h1, ⟨by simp [h6], fun i x y hx hy => ?_⟩, by simp, by omega, fun j v hv => ?_⟩
  · have hi : i < n := by have := (List.getElem?_eq_some_iff.1 hx).1; omega
    obtain ⟨x', y', a, b, c⟩ := key i hi
    rw [a] at hx; cases hx
    simp [hi, b] at hy
    subst hy; exact c
  · have hj : j < n := by have := (List.getElem?_eq_some_iff.1 hv).1; simpa using this
    obtain ⟨x', y', a, b, c⟩ := key j hj
    simp [hj, b] at hv
    subst hv; exact b

theorem run_loadVar_of {t : TypeId} {agg : Bool} {n : Nat} {b o : Nat} {ys : List Value} {v : Value} (ha : tagg P t = some agg) (hn : tsize P t = some n) (hl : ys.length = n)
    (hc : ∀ j v, ys[j]? = some v → w.cell? ⟨b, o + j, none⟩ = some v) (hv : ofCells agg ys = some v) : (loadVar t ⟨b, o, none⟩).run P w = .ok v w := by
  unfold tagg at ha
  cases hu : P.underlying t with
  | none => simp [hu] at ha
  | some d =>
    have hsz : (P.info? t).map (·.size) = some ys.length := by rw [hl]; exact hn
    cases agg with
    | true =>
      have hd : d.isRow = true := by cases d <;> simp_all [TypeDesc.isRow]
      simp [ofCells] at hv
      subst hv
      exact run_loadVar_mid w b o t ys d hc hu hd hsz
    | false =>
      simp only [ofCells, cond_false] at hv
      have hy : ys = [v] := by
        match ys, hv with
        | [y], hv => cases hv; rfl
      subst hy
      have h0 := hc 0 v rfl
      have hagg : (isAgg t).run P w = .ok false w := by
        unfold isAgg
        rw [Sem.run_bind, run_underlying hu w]
        cases d <;> simp_all
      simp only [Nat.add_zero] at h0
      simp [loadVar, hagg, run_load, h0]

/-! ### Writing -/
theorem oneCells_rel {xs ys : List Value} (hl : LRel σ xs ys) (h1 : oneCells xs = true) : ∀ v ∈ ys, v.oneCell' = true := by
  intro v hv
  obtain ⟨i, hi⟩ := List.mem_iff_getElem?.1 hv
  have hlt : i < xs.length := by rw [hl.1]; exact (List.getElem?_eq_some_iff.1 hi).1
  obtain ⟨x, hx⟩ : ∃ x, xs[i]? = some x := ⟨_, List.getElem?_eq_getElem hlt⟩
  have hr := hl.2 i _ _ hx hi
  have := List.all_eq_true.1 h1 x (List.mem_of_getElem? hx)
  cases hr <;> simp_all [Value.oneCell']

theorem putAt_get (cells vs : List Value) (off i : Nat) (ho : off + vs.length ≤ cells.length) :
    (putAt cells off vs)[i]? = if i < off then cells[i]? else if i < off + vs.length then vs[i - off]? else cells[i]? := by
  unfold putAt
  have ht : (cells.take off).length = off := by simp; omega
  by_cases h1 : i < off
  · rw [if_pos h1, List.append_assoc, List.getElem?_append_left (by omega), List.getElem?_take, if_pos h1]
  · rw [if_neg h1]
    by_cases h2 : i < off + vs.length
    · rw [if_pos h2, List.append_assoc, List.getElem?_append_right (by omega), ht, List.getElem?_append_left (by omega)]
    · rw [if_neg h2, List.getElem?_append_right (by simp; omega), List.getElem?_drop]
      congr 1
      simp
      omega

theorem setRow_at (w : World) (b : Nat) (cs cur : Array Value) (t : TypeId) (fr : Nat × Nat) (hb : w.heap[b]? = some (.cells cur t fr)) :
    (w.setRow b cs).heap.size = w.heap.size ∧ (w.setRow b cs).heap[b]? = some (.cells cs t fr) ∧ ∀ k, k ≠ b → (w.setRow b cs).heap[k]? = w.heap[k]? := by
  refine ⟨by simp [World.setRow], by simp [World.setRow, Array.getElem?_modify, hb], fun k hk => ?_⟩
  simp only [World.setRow, Array.getElem?_modify]
  rw [if_neg (by omega)]

theorem storeA_rel (hr : HRel P B σ h w) {g off b o : Nat} {vs ys : List Value} {h' : AHeap} (hp : VRel σ (.pointer (some ⟨g, off, none⟩)) (.pointer (some ⟨b, o, none⟩))) (hl : LRel σ vs ys)
    (hs : storeA h ⟨g, off, none⟩ vs = some h') : ∃ w', (storeCells ⟨b, o, none⟩ ys).run P w = .ok () w' ∧ Evo P B σ h w σ h' w' := by
  unfold storeA at hs
  split at hs
  · rename_i cells lo hget
    cases hc : (Nat.ble (off + vs.length) cells.length && Nat.ble lo off && (none : Option Nat).isNone && oneCells vs) with
    | false => simp only [hc, cond_false] at hs; cases hs
    | true =>
      simp only [hc, cond_true, Option.some.injEq] at hs
      subst hs
      simp only [Bool.and_eq_true] at hc
      obtain ⟨⟨⟨c1, c2⟩, _⟩, c3⟩ := hc
      have c1 : off + vs.length ≤ cells.length := Nat.le_of_ble_eq_true c1
      have c2 : lo ≤ off := Nat.le_of_ble_eq_true c2
      obtain ⟨pl, h1, ⟨cc, elem, fr, h2, h3, h4, h5, h6⟩, h7⟩ := hr.live _ _ hget
      cases h6 rfl
      cases hp with
      | ptr hp =>
        rw [h1] at hp; cases hp
        have hrun := run_storeCells_at P pl.b (pl.base + off) elem ys 0 cc w h2 (by rw [← hl.1]; omega) (oneCells_rel hl c3)
        refine ⟨_, hrun, ?_⟩
        have hcs : (List.take (pl.base + off + 0) cc.toList ++ ys ++ List.drop (pl.base + off + 0 + ys.length) cc.toList) = putAt cc.toList (pl.base + off) ys := rfl
        rw [hcs]
        have hlen : (putAt cc.toList (pl.base + off) ys).length = pl.n := by
          unfold putAt; simp [← hl.1]; omega
        have hsr := setRow_at w pl.b (putAt cc.toList (pl.base + off) ys).toArray cc elem (0, 0) h2
        have hget' : ∀ i, (putAt cc.toList (pl.base + off) ys).toArray[i]? = if i < pl.base + off then cc[i]? else if i < pl.base + off + ys.length then ys[i - (pl.base + off)]? else cc[i]? := fun i => by
          have := putAt_get cc.toList ys (pl.base + off) i (by rw [← hl.1]; simp; omega)
          simpa using this
        refine hr.put hget rfl rfl h1 hsr ⟨rfl, rfl, rfl⟩ ⟨_, elem, (0, 0), hsr.2.1, by simpa using hlen, ?_, fun i x hx => ?_, fun _ => rfl⟩ ?_
        · simp [putAt]; omega
        · rw [putAt_get cells vs off i c1] at hx
          rw [hget']
          by_cases e1 : i < off
          · rw [if_pos e1] at hx
            rw [if_pos (by omega)]
            exact h5 i x hx
          · rw [if_neg e1] at hx
            rw [if_neg (by omega)]
            by_cases e2 : i < off + vs.length
            · rw [if_pos e2] at hx
              rw [if_pos (by rw [← hl.1]; omega)]
              obtain ⟨y, a, b⟩ := hl.get hx
              exact ⟨y, by rw [← a]; congr 1; omega, b⟩
            · rw [if_neg e2] at hx
              rw [if_neg (by rw [← hl.1]; omega)]
              exact h5 i x hx
        · intro g2 o2 pl2 k1 k2 k3 k4 k5 k6
          cases o2 with
          | row cells2 own2 lo2 =>
            obtain ⟨a1, a2, a3⟩ := k5
            have a2 := a2 rfl
            have hno : own2 = false := by cases own2 <;> simp_all
            subst hno
            obtain ⟨c2, e2, f2, b1, b2, b3, b4, b5⟩ := k6
            rw [k4, h2] at b1
            cases b1
            refine ⟨⟨_, elem, (0, 0), by rw [k4]; exact hsr.2.1, by rw [← b2]; simpa [h3] using hlen, b3, fun i x hx => ?_, fun h => by cases h⟩, ⟨a1, fun _ => a2, fun h => by cases h⟩⟩
            obtain ⟨y, d1, d2⟩ := b4 i x hx
            have hi : i < cells2.length := (List.getElem?_eq_some_iff.1 hx).1
            exact ⟨y, by rw [hget', if_pos (by omega)]; exact d1, d2⟩
          | _ => exact k5.elim
  · cases hs

/-! ### New memory -/
theorem push_row (hr : HRel P B σ h w) {xs ys : List Value} (hl : LRel σ xs ys) (extra : List Value) (elem : TypeId) (lo : Nat) :
    Evo P B σ h w (more σ h.n ⟨w.heap.size, 0, ys.length + extra.length⟩) (h.push (.row xs true lo)) (w.alloc (.cells (ys ++ extra).toArray elem)) := by
  refine hr.push rfl ⟨rfl, rfl, rfl⟩ ⟨(ys ++ extra).toArray, elem, (0, 0), by show (w.heap.push _)[w.heap.size]? = _; simp, by simp, by simp [hl.1], fun i x hx => ?_, fun _ => rfl⟩
  obtain ⟨y, a, b⟩ := hl.get hx
  refine ⟨y, ?_, b.mono (more_le hr _)⟩
  have hi : i < ys.length := (List.getElem?_eq_some_iff.1 a).1
  simp only [Nat.zero_add, List.getElem?_toArray]
  rw [List.getElem?_append_left hi]
  exact a

theorem HRel.grow (hr : HRel P B σ h w) {g off m lo : Nat} {pl : Pl} {cells xs ys ys' : List Value} {cc : Array Value} {elem : TypeId} (hg : h.get g = some (.row cells true lo)) (hp : σ g = some pl)
    (hx : cut cells off m = some xs) (hl : LRel σ ys ys') (hlo : lo ≤ off + m) (hb : w.heap[pl.b]? = some (.cells cc elem (0, 0))) (hn : pl.base + off + m + ys.length ≤ pl.n) :
    Evo P B σ h w (more σ h.n ⟨pl.b, pl.base + off, pl.n⟩) ((h.kill g).push (.row (xs ++ ys) true (lo - off))) (w.setRow pl.b (putAt cc.toList (pl.base + off + m) ys').toArray) := by
  obtain ⟨c1, c2, c3⟩ := cut_some hx
  obtain ⟨pl0, h1, ⟨cc0, elem0, fr, h2, h3, h4, h5, h6⟩, h7⟩ := hr.live _ _ hg
  rw [hp] at h1; cases h1
  rw [hb] at h2; cases h2
  have hlen : (putAt cc.toList (pl.base + off + m) ys').length = pl.n := by
    unfold putAt; simp [← hl.1]; omega
  have hsr := setRow_at w pl.b (putAt cc.toList (pl.base + off + m) ys').toArray cc elem (0, 0) hb
  have hget' : ∀ i, (putAt cc.toList (pl.base + off + m) ys').toArray[i]? = if i < pl.base + off + m then cc[i]? else if i < pl.base + off + m + ys'.length then ys'[i - (pl.base + off + m)]? else cc[i]? := fun i => by
    have := putAt_get cc.toList ys' (pl.base + off + m) i (by rw [← hl.1]; simp; omega)
    simpa using this
  have hle : Le σ (more σ h.n ⟨pl.b, pl.base + off, pl.n⟩) := more_le hr _
  have hsame : ∀ k p, more σ h.n ⟨pl.b, pl.base + off, pl.n⟩ k = some p → k = h.n ∧ p = ⟨pl.b, pl.base + off, pl.n⟩ ∨ k ≠ h.n ∧ σ k = some p := fun k p hk => by
    unfold more at hk
    split at hk
    · exact .inl ⟨by assumption, (Option.some.inj hk).symm⟩
    · exact .inr ⟨by assumption, hk⟩
  have hgn : g < h.n := (hr.lt _ _ hp).1
  have hnew : ORel P (more σ h.n ⟨pl.b, pl.base + off, pl.n⟩) ⟨pl.b, pl.base + off, pl.n⟩ (.row (xs ++ ys) true (lo - off)) (w.setRow pl.b (putAt cc.toList (pl.base + off + m) ys').toArray) := by
    refine ⟨_, elem, (0, 0), hsr.2.1, by simpa using hlen, by simp [c3]; omega, fun i x hi => ?_, fun _ => rfl⟩
    simp only [hget']
    by_cases e1 : i < m
    · rw [List.getElem?_append_left (by omega), c2, List.getElem?_take, if_pos e1, List.getElem?_drop] at hi
      rw [if_pos (by omega)]
      obtain ⟨y, a, b⟩ := h5 _ _ hi
      exact ⟨y, by rw [← a]; congr 1; omega, b.mono hle⟩
    · rw [List.getElem?_append_right (by omega), c3] at hi
      have hi2 : i - m < ys.length := (List.getElem?_eq_some_iff.1 hi).1
      rw [if_neg (by omega), if_pos (by rw [← hl.1]; omega)]
      obtain ⟨y, a, b⟩ := hl.get hi
      exact ⟨y, by rw [← a]; congr 1; omega, b.mono hle⟩
  have hold : ∀ k o, k ≠ g → h.get k = some o → ∃ p, σ k = some p ∧ ORel P (more σ h.n ⟨pl.b, pl.base + off, pl.n⟩) p o (w.setRow pl.b (putAt cc.toList (pl.base + off + m) ys').toArray) ∧ (ownO o = true → B ≤ p.b) ∧
      (p.b = pl.b → Apart ⟨pl.b, pl.base + off, pl.n⟩ (.row (xs ++ ys) true (lo - off)) p o) := fun k o hk hko => by
    obtain ⟨p, k1, k2, k3⟩ := hr.live k o hko
    by_cases hbb : p.b = pl.b
    · have hap := hr.apart g _ k o pl p hg hko (fun e => hk e.symm) hp k1 hbb.symm
      cases o with
      | row cells2 own2 lo2 =>
        obtain ⟨a1, a2, a3⟩ := hap
        have a2 := a2 rfl
        have hno : own2 = false := by cases own2 <;> simp_all
        subst hno
        obtain ⟨cc2, e2, f2, b1, b2, b3, b4, b5⟩ := k2
        rw [hbb, hb] at b1
        cases b1
        refine ⟨p, k1, ⟨_, elem, (0, 0), by rw [hbb]; exact hsr.2.1, by rw [← b2, h3]; simpa using hlen, b3, fun i x hi => ?_, fun h => by cases h⟩, k3, fun _ => by unfold Apart; exact ⟨(fun h => by cases h.2), (fun _ => by show _ ≤ pl.base + off + (lo - off); omega), (fun h => by cases h)⟩⟩
        obtain ⟨y, d1, d2⟩ := b4 i x hi
        have hi' : i < cells2.length := (List.getElem?_eq_some_iff.1 hi).1
        exact ⟨y, by rw [hget', if_pos (by omega)]; exact d1, d2.mono hle⟩
      | _ => exact hap.elim
    · exact ⟨p, k1, k2.keep hle (hsr.2.2 _ hbb), k3, fun e => absurd e hbb⟩
  have sym : ∀ {pl o pl' o'}, Apart pl o pl' o' → Apart pl' o' pl o := fun {pl o pl' o'} h => by
    cases o <;> cases o' <;> first | exact h.elim | exact ⟨fun x => h.1 ⟨x.2, x.1⟩, h.2.2, h.2.1⟩
  have hgetk : ∀ k o, ((h.kill g).push (.row (xs ++ ys) true (lo - off))).get k = some o → k = h.n ∧ o = .row (xs ++ ys) true (lo - off) ∨ k ≠ h.n ∧ k ≠ g ∧ h.get k = some o := fun k o hk => by
    rw [get_push] at hk
    split at hk
    · exact .inl ⟨by assumption, (Option.some.inj hk).symm⟩
    · rename_i e
      rw [get_kill] at hk
      split at hk
      · cases hk
      · exact .inr ⟨e, by assumption, hk⟩
  refine ⟨hle, ⟨fun k hk => ?_, fun k p hk => ?_, fun k o hk => ?_, ?_, by rw [hsr.1]; exact hr.le⟩, rfl, rfl, rfl, by rw [hsr.1]; exact Nat.le_refl _, fun b hb' hno => hsr.2.2 b fun e => hno ⟨g, _, pl, hg, rfl, hp, e.symm⟩, ?_, Nat.le_succ _, fun k hk => if_neg (Nat.ne_of_lt hk)⟩
  · obtain ⟨p, k1, k2⟩ := hr.globals k hk
    exact ⟨p, hle _ _ k1, k2⟩
  · rcases hsame k p hk with ⟨rfl, rfl⟩ | ⟨_, k1⟩
    · exact ⟨by simp [AHeap.push, AHeap.kill], by rw [hsr.1]; exact (hr.lt _ _ hp).2⟩
    · have := hr.lt _ _ k1
      exact ⟨by simp [AHeap.push, AHeap.kill]; omega, by rw [hsr.1]; exact this.2⟩
  · rcases hgetk k o hk with ⟨rfl, rfl⟩ | ⟨e, e2, k1⟩
    · exact ⟨_, more_same _ _ _, hnew, fun _ => h7 rfl⟩
    · obtain ⟨p, a1, a2, a3, _⟩ := hold k o e2 k1
      exact ⟨p, hle _ _ a1, a2, a3⟩
  · intro k o1 k' o2 p p' h1 h2 hne h3 h4 hbb
    rcases hgetk k o1 h1 with ⟨e, rfl⟩ | ⟨e, e2, k1⟩ <;> rcases hgetk k' o2 h2 with ⟨e', rfl⟩ | ⟨e', e2', k2⟩
    · exact absurd (e.trans e'.symm) hne
    · obtain ⟨q, a1, _, _, a4⟩ := hold k' o2 e2' k2
      have hq : p' = q := by have := hle _ _ a1; rw [h4] at this; exact Option.some.inj this
      subst hq
      subst e
      rw [more_same] at h3; cases h3
      exact a4 hbb.symm
    · obtain ⟨q, a1, _, _, a4⟩ := hold k o1 e2 k1
      have hq : p = q := by have := hle _ _ a1; rw [h3] at this; exact Option.some.inj this
      subst hq
      subst e'
      rw [more_same] at h4; cases h4
      exact sym (a4 hbb)
    · obtain ⟨q, a1, _⟩ := hold k o1 e2 k1
      obtain ⟨q', a1', _⟩ := hold k' o2 e2' k2
      have hq : p = q := by have := hle _ _ a1; rw [h3] at this; exact Option.some.inj this
      have hq' : p' = q' := by have := hle _ _ a1'; rw [h4] at this; exact Option.some.inj this
      subst hq hq'
      exact hr.apart k o1 k' o2 p p' k1 k2 hne a1 a1' hbb
  · rintro b ⟨k, o, p, k1, k2, k3, k4⟩
    rcases hgetk k o k1 with ⟨rfl, rfl⟩ | ⟨e, e2, k1⟩
    · rw [more_same] at k3; cases k3
      exact .inr ⟨g, _, pl, hg, rfl, hp, k4⟩
    · rcases hsame k p k3 with ⟨e', _⟩ | ⟨_, k3⟩
      · exact absurd e' e
      · exact .inr ⟨k, o, p, k1, k2, k3, k4⟩

theorem HRel.kill (hr : HRel P B σ h w) (g : Nat) : Evo P B σ h w σ (h.kill g) w := by
  have hk : ∀ k o, (h.kill g).get k = some o → h.get k = some o := fun k o hk => by
    rw [get_kill] at hk
    split at hk
    · cases hk
    · exact hk
  exact ⟨.refl _, ⟨hr.globals, hr.lt, fun k o a => hr.live k o (hk k o a), fun k o k' o' p p' a b => hr.apart k o k' o' p p' (hk _ _ a) (hk _ _ b), hr.le⟩, rfl, rfl, rfl, Nat.le_refl _, fun _ _ _ => rfl,
    fun b ⟨k, o, p, a, c⟩ => .inr ⟨k, o, p, hk _ _ a, c⟩, Nat.le_refl _, fun _ _ => rfl⟩

end
end Go.Am
