/-
  The abstract machine: each operation does what the model's does (6): all of them, but calls.
-/
import Derived.Test.YtdhpgfhidldmgaaAmOps5
import Derived.Test.YtdhpgfhidldmgaaAmOps3b
namespace Go.Am
open Go.RowKit

section
variable {P : Program} {B : Nat} {σ : Nat → Option Pl} {h : AHeap} {w : World}

theorem OpRes.val {s : Sem Value} {v : Value} {h' : AHeap} (hs : ∃ σ' w' cv, s.run P w = .ok cv w' ∧ VRel σ' v cv ∧ Evo P B σ h w σ' h' w') :
    OpRes P B σ h w (do pure (.value (← s))) v h' := by
  obtain ⟨σ', w', cv, h1, h2, h3⟩ := hs
  exact ⟨σ', w', .inl ⟨cv, by simp [h1], h2⟩, h3⟩
theorem OpRes.unit {s : Sem Unit} {h' : AHeap} (hs : ∃ σ' w', s.run P w = .ok () w' ∧ Evo P B σ h w σ' h' w') :
    OpRes P B σ h w (do s; pure .skip) Go.undef h' := by
  obtain ⟨σ', w', h1, h3⟩ := hs
  exact ⟨σ', w', .inr ⟨by simp [h1], rfl⟩, h3⟩

theorem evs_rel (hr : HRel P B σ h w) {t : Trie Value} {a : Act} (ht : ∀ k, VRel σ (tmGet t k) (a.tmps.getD k Go.undef)) {l : List Operand} (ho : ∀ x ∈ l, opdOk P x = true) : LRel σ (l.map (ev t)) (l.map a.eval) :=
  ⟨by simp, fun i x y hx hy => by
    simp only [List.getElem?_map] at hx hy
    cases hl : l[i]? with
    | none => simp [hl] at hx
    | some z =>
      simp only [hl, Option.map_some, Option.some.injEq] at hx hy
      subst hx hy
      exact ev_rel hr ht (ho z (List.mem_of_getElem? hl))⟩

/-- New cells: the value, by its address. -/
theorem new_rel (hr : HRel P B σ h w) {xs ys : List Value} (hl : LRel σ xs ys) (e : TypeId) :
    ∃ σ' w' cv, ((do pure (.pointer (some (← newRow e ys.toArray))) : Sem Value)).run P w = .ok cv w' ∧ VRel σ' (.pointer (some ⟨h.n, 0, none⟩)) cv ∧ Evo P B σ h w σ' (h.push (.row xs true 0)) w' := by
  have hp := push_row hr hl [] e 0
  rw [List.append_nil] at hp
  refine ⟨_, _, .pointer (some ⟨w.heap.size, 0, none⟩), by simp [newRow], ?_, hp⟩
  exact VRel.ptr (off := 0) (more_same σ h.n ⟨w.heap.size, 0, ys.length + 0⟩)

theorem parts_rel (hr : HRel P B σ h w) {t : Trie Value} {a : Act} (ht : ∀ k, VRel σ (tmGet t k) (a.tmps.getD k Go.undef)) {place : Nat → Option (Nat × Nat)} :
    ∀ {l : List (Nat × Operand)} {ps : List (Nat × Nat × Operand)}, (∀ x ∈ l, opdOk P x.2 = true) → partsOf place l = some ps →
      (l.map fun x => (x.1, a.eval x.2)).length = (evParts t ps).length ∧
      ∀ (j i : Nat) (v : Value) (o n : Nat) (u : Value), (l.map fun x => (x.1, a.eval x.2))[j]? = some (i, v) → (evParts t ps)[j]? = some (o, n, u) → place i = some (o, n) ∧ VRel σ u v := by
  intro l
  induction l with
  | nil => intro ps _ hp; simp [partsOf] at hp; subst hp; exact ⟨rfl, fun j i v o n u h => by simp at h⟩
  | cons x l ih =>
    intro ps ho hp
    obtain ⟨i0, x0⟩ := x
    simp only [partsOf] at hp
    split at hp
    · rename_i o0 n0 r h1 h2
      cases hp
      obtain ⟨a1, a2⟩ := ih (fun y hy => ho y (List.mem_cons_of_mem _ hy)) h2
      refine ⟨by simpa [evParts] using a1, fun j i v o n u hj hk => ?_⟩
      cases j with
      | zero =>
        simp [evParts] at hj hk
        obtain ⟨rfl, rfl⟩ := hj
        obtain ⟨rfl, rfl, rfl⟩ := hk
        exact ⟨h1, ev_rel hr ht (ho _ (List.mem_cons_self ..))⟩
      | succ j => exact a2 j i v o n u (by simpa using hj) (by simpa [evParts] using hk)
    · cases hp

theorem run_mapM {α β : Type} {f : α → Sem β} {g : α → β} : ∀ (l : List α), (∀ x ∈ l, (f x).run P w = .ok (g x) w) → (l.mapM f).run P w = .ok (l.map g) w
  | [], _ => by simp
  | x :: l, hf => by
    have h1 := hf x (List.mem_cons_self ..)
    have h2 := run_mapM l (fun y hy => hf y (List.mem_cons_of_mem _ hy))
    simp [List.mapM_cons, h1, h2]
theorem run_fields {fs : Array Field} (hf : fs.toList.all (fun f => (tsize P f.type).isSome) = true) :
    (fs.mapM fun f => (do pure (f.offset, ← sizeOf f.type) : Sem (Nat × Nat))).run P w = .ok (fs.map fun f => (f.offset, (tsize P f.type).getD 0)) w := by
  rw [Array.mapM_eq_mapM_toList, Sem.run_map, run_mapM (g := fun f => (f.offset, (tsize P f.type).getD 0)) fs.toList (fun f hm => by
    have := List.all_eq_true.1 hf f hm
    obtain ⟨n, hn⟩ := Option.isSome_iff_exists.1 this
    obtain ⟨i, hi, hs⟩ := tsize_info hn
    simp [run_size hi, hn, hs])]
  simp only [Result.andThen_ok]
  congr 1
  apply Array.ext'
  simp

theorem optA_rel (hr : HRel P B σ h w) {t : Trie Value} {a : Act} (ht : ∀ k, VRel σ (tmGet t k) (a.tmps.getD k Go.undef)) {x : Option Operand} (ho : ∀ y, x = some y → opdOk P y = true) {n : Option Nat} (hx : optA t x = some n) : BV n (x.map a.eval) := by
  cases x with
  | none => simp [optA] at hx; subst hx; rfl
  | some x =>
    simp only [optA] at hx
    cases hn : asN (ev t x) with
    | none => simp [hn] at hx
    | some m =>
      simp only [hn, Option.map_some, Option.some.injEq] at hx
      subst hx
      obtain ⟨k, hk⟩ := asN_rel (ev_rel hr ht (ho x rfl)) hn
      exact ⟨k, by simp [hk]⟩

theorem optA_isSome {t : Trie Value} {x : Option Operand} {n : Option Nat} (hx : optA t x = some n) : n.isSome = x.isSome := by
  cases x with
  | none => simp [optA] at hx; subst hx; rfl
  | some x =>
    simp only [optA] at hx
    cases hn : asN (ev t x) with
    | none => simp [hn] at hx
    | some m => simp [hn] at hx; subst hx; rfl


theorem maxmin_rel {isMax : Bool} {r : List Value} : ∀ {x x' v : Value} {r' : List Value}, VRel σ x x' → LRel σ r r' → maxV isMax x r = some v →
    ∃ cv, (r'.foldlM (if isMax then Builtin.max2 else Builtin.min2) x').run P w = .ok cv w ∧ VRel σ v cv := by
  induction r with
  | nil =>
    intro x x' v r' hx hl hv
    have : r' = [] := by have := hl.1; simpa using this.symm
    subst this
    simp only [maxV, Option.some.injEq] at hv
    subst hv
    exact ⟨x', by simp, hx⟩
  | cons y r ih =>
    intro x x' v r' hx hl hv
    match r', hl with
    | [], hl => have := hl.1; simp at this
    | y' :: r', hl =>
      have hy := hl.2 0 y y' rfl rfl
      have hl' : LRel σ r r' := ⟨by simpa using hl.1, fun i a b h1 h2 => hl.2 (i + 1) a b (by simpa using h1) (by simpa using h2)⟩
      unfold maxV at hv
      split at hv
      · rename_i heq; cases heq
      · rename_i k n k' m r0 heq
        cases heq
        split at hv
        · rename_i hk
          cases hx
          cases hy
          obtain ⟨cv, c1, c2⟩ := ih (VRel.int k _) hl' hv
          refine ⟨cv, ?_, c2⟩
          rw [← c1]
          cases isMax <;> simp [List.foldlM_cons, Builtin.max2, Builtin.min2]
        · cases hv
      · cases hv

theorem builtin_rel (hr : HRel P B σ h w) {ih : Ex} {t : Trie Value} {a : Act} (ht : ∀ k, VRel σ (tmGet t k) (a.tmps.getD k Go.undef)) {b : Builtin} {args : List Operand} {ts : List TypeId} {ty : TypeId} {consts : Array Bool} {op : AOp}
    (hop : ∀ x ∈ args, opdOk P x = true) (hc : cBuiltin P b args ts = some op) {v : Value} {h' : AHeap} (ho : aop P ih t h op = some (v, h')) :
    OpRes P B σ h w (builtin b ts.toArray ty consts (args.map a.eval).toArray) v h' := by
  have E : ∀ x ∈ args, VRel σ (ev t x) (a.eval x) := fun x hx => ev_rel hr ht (hop x hx)
  unfold cBuiltin at hc
  split at hc
  · -- len
    rename_i x tt
    have e1 := E x (by simp)
    split at hc
    · rename_i n e hu
      simp only [Option.some.injEq] at hc; subst hc
      simp only [aop, Option.some.injEq, Prod.mk.injEq] at ho
      obtain ⟨rfl, rfl⟩ := ho
      refine OpRes.same hr (cv := .int .i64 n) ?_ (.int _ _)
      simp [Builtin.len_, run_underlying hu, goInt]
    · rename_i e hu
      split at hc
      · rename_i n e' hu'
        simp only [Option.some.injEq] at hc; subst hc
        simp only [aop, Option.some.injEq, Prod.mk.injEq] at ho
        obtain ⟨rfl, rfl⟩ := ho
        refine OpRes.same hr (cv := .int .i64 n) ?_ (.int _ _)
        simp [Builtin.len_, run_underlying hu, run_underlying hu', goInt]
      · cases hc
    · rename_i hu
      simp only [Option.some.injEq] at hc; subst hc
      simp only [aop] at ho
      split at ho
      · rename_i s hs
        simp only [Option.some.injEq, Prod.mk.injEq] at ho
        obtain ⟨rfl, rfl⟩ := ho
        rw [hs] at e1
        have q1 : a.eval x = .string s := by generalize a.eval x = q at e1; cases e1; rfl
        refine OpRes.same hr (cv := .int .i64 s.size) ?_ (.int _ _)
        simp [Builtin.len_, run_underlying hu, goInt, q1]
      · cases ho
    · rename_i e hu
      simp only [Option.some.injEq] at hc; subst hc
      simp only [aop] at ho
      cases hl : lenA (ev t x) with
      | none => simp [hl] at ho
      | some n =>
        simp only [hl, Option.map_some, Option.some.injEq, Prod.mk.injEq] at ho
        obtain ⟨rfl, rfl⟩ := ho
        unfold lenA at hl
        split at hl
        · rename_i ad len k hs
          simp only [Option.some.injEq] at hl; subst hl
          rw [hs] at e1
          have q1 : ∃ y cap, a.eval x = .slice y len cap := by generalize a.eval x = q at e1; cases e1 <;> exact ⟨_, _, rfl⟩
          obtain ⟨y, cap, q1⟩ := q1
          refine OpRes.same hr (cv := .int .i64 len) ?_ (.int _ _)
          simp [Builtin.len_, run_underlying hu, goInt, q1]
        · cases hl
    · rename_i kt e hu
      simp only [Option.some.injEq] at hc; subst hc
      simp only [aop] at ho
      split at ho
      · rename_i hs
        simp only [Option.some.injEq, Prod.mk.injEq] at ho
        obtain ⟨rfl, rfl⟩ := ho
        rw [hs] at e1
        have q1 : a.eval x = .map none := by generalize a.eval x = q at e1; cases e1; rfl
        refine OpRes.same hr (cv := .int .i64 0) ?_ (.int _ _)
        simp [Builtin.len_, run_underlying hu, goInt, q1]
      · rename_i g hs
        split at ho
        · rename_i es clock hg
          simp only [Option.some.injEq, Prod.mk.injEq] at ho
          obtain ⟨rfl, rfl⟩ := ho
          rw [hs] at e1
          obtain ⟨pl, es', k1, k2, k3, k4⟩ := map_live hr hg e1
          refine OpRes.same hr (cv := .int .i64 es.length) ?_ (.int _ _)
          have : es'.size = es.length := by have := k4.1; simpa using this.symm
          simp [Builtin.len_, run_underlying hu, goInt, k2, getObj, Sem.run, k3, this]
        · cases ho
      · cases ho
    · cases hc
  · -- append
    rename_i s x tt u ts'
    have e1 := E s (by simp)
    have e2 := E x (by simp)
    cases hse : sliceElem P tt with
    | none => simp [hse] at hc
    | some e =>
      have hu : P.underlying tt = some (.slice e) := by
        unfold sliceElem at hse; split at hse
        · cases hse; assumption
        · cases hse
      simp only [hse] at hc
      cases hu' : P.underlying u with
      | none =>
        rw [hu'] at hc
        cases he : telem P e <;> simp [he] at hc
      | some d =>
        rw [hu'] at hc
        cases he : telem P e with
        | none => rw [he] at hc; cases d <;> cases hc
        | some c =>
          rw [he] at hc
          cases d with
          | slice e' =>
            dsimp only at hc
            cases hee : (e' == e) with
            | false => rw [hee] at hc; cases hc
            | true =>
              rw [hee] at hc
              simp only [cond_true, Option.some.injEq] at hc; subst hc
              simp only [aop] at ho
              exact OpRes.val (append_rel hr hu hu' he e1 e2 ho)
          | _ => cases hc
  · -- copy
    rename_i d s tt ts'
    have e1 := E d (by simp)
    have e2 := E s (by simp)
    cases hse : sliceElem P tt with
    | none => simp [hse] at hc
    | some e =>
      have hu : P.underlying tt = some (.slice e) := by
        unfold sliceElem at hse; split at hse
        · cases hse; assumption
        · cases hse
      simp only [hse] at hc
      cases he : telem P e with
      | none => simp [he] at hc
      | some c =>
        simp only [he, Option.map_some, Option.some.injEq] at hc; subst hc
        simp only [aop] at ho
        split at ho
        · rename_i ad len k hd
          rw [hd] at e1
          split at ho
          · rename_i ys hsrc
            obtain ⟨r1, r2⟩ := copy_rel (ty := ty) (ts := ts') hr hu he e1 e2 hsrc rfl
            cases hm : Nat.beq (min (ys.length / c) len) 0 with
            | true =>
              simp only [hm, cond_true, Option.some.injEq, Prod.mk.injEq] at ho
              obtain ⟨rfl, rfl⟩ := ho
              exact OpRes.same hr (r1 (Nat.eq_of_beq_eq_true hm)) (.int _ _)
            | false =>
              simp only [hm, cond_false] at ho
              cases hb : (Nat.beq k c && ad.spot.isNone) with
              | false => simp [hb] at ho
              | true =>
                simp only [hb, cond_true] at ho
                simp only [Bool.and_eq_true] at hb
                cases hst : storeA h ad (ys.take (min (ys.length / c) len * c)) with
                | none => simp [hst] at ho
                | some h1 =>
                  simp only [hst, Option.map_some, Option.some.injEq, Prod.mk.injEq] at ho
                  obtain ⟨rfl, rfl⟩ := ho
                  obtain ⟨w', q1, q2⟩ := r2 _ (Nat.ne_of_beq_eq_false hm) (Nat.eq_of_beq_eq_true hb.1) (by simpa using hb.2) hst
                  exact OpRes.val ⟨σ, w', _, q1, .int _ _, q2⟩
          · cases ho
        · rename_i hd
          rw [hd] at e1
          have q1 : a.eval d = .slice none 0 0 := by generalize a.eval d = q at e1; cases e1; rfl
          split at ho
          · rename_i ys hsrc
            simp only [Option.some.injEq, Prod.mk.injEq] at ho
            obtain ⟨rfl, rfl⟩ := ho
            obtain ⟨i, z, hi, hsz, hc0, _⟩ := telem_info he
            subst hsz
            obtain ⟨n, zs, hl, hS⟩ := src_rel hr hc0 e2 hsrc
            have s1 := hS.1 w
            have s2 := hS.2.2 0 (Nat.zero_le _) w.drawn
            simp at s2
            refine OpRes.same hr (cv := .int .i64 0) ?_ (.int _ _)
            simp [Builtin.copy_, run_underlying hu, q1, s1, run_size hi, s2, goInt]
          · cases ho
        · cases ho
  · -- max
    simp only [Option.some.injEq] at hc; subst hc
    simp only [aop] at ho
    split at ho
    · rename_i x r
      cases hm : maxV true (ev t x) (r.map (ev t)) with
      | none => simp [hm] at ho
      | some u =>
        simp only [hm, Option.map_some, Option.some.injEq, Prod.mk.injEq] at ho
        obtain ⟨rfl, rfl⟩ := ho
        obtain ⟨cv, c1, c2⟩ := maxmin_rel (P := P) (w := w) (E x (by simp)) (evs_rel hr ht (fun y hy => hop y (by simp [hy]))) hm
        refine OpRes.same hr ?_ c2
        simpa [Builtin.max_] using c1
    · cases ho
  · simp only [Option.some.injEq] at hc; subst hc
    simp only [aop] at ho
    split at ho
    · rename_i x r
      cases hm : maxV false (ev t x) (r.map (ev t)) with
      | none => simp [hm] at ho
      | some u =>
        simp only [hm, Option.map_some, Option.some.injEq, Prod.mk.injEq] at ho
        obtain ⟨rfl, rfl⟩ := ho
        obtain ⟨cv, c1, c2⟩ := maxmin_rel (P := P) (w := w) (E x (by simp)) (evs_rel hr ht (fun y hy => hop y (by simp [hy]))) hm
        refine OpRes.same hr ?_ c2
        simpa [Builtin.min_] using c1
    · cases ho
  · -- delete
    rename_i m k tt ts'
    have e1 := E m (by simp)
    have e2 := E k (by simp)
    split at hc
    · rename_i kt e hu
      split at hc
      · rename_i d hk
        simp only [Option.some.injEq] at hc; subst hc
        simp only [aop] at ho
        split at ho
        · rename_i g kk n h1 h2
          rw [h1] at e1
          rw [h2] at e2
          have q2 : a.eval k = .int kk n := by generalize a.eval k = q at e2; cases e2; rfl
          split at ho
          · rename_i es clock hg
            have fin : ∀ h1, (∃ w', (Builtin.delete_ (tt :: ts').toArray ty #[a.eval m, .int kk n]).run P w = .ok (.tuple #[]) w' ∧ Evo P B σ h w σ h1 w') →
                OpRes P B σ h w (builtin .delete (tt :: ts').toArray ty consts ([m, k].map a.eval).toArray) (.tuple #[]) h1 := fun h1 ⟨w', r1, r2⟩ => by
              have : ([m, k].map a.eval).toArray = #[a.eval m, .int kk n] := by simp [q2]
              rw [this]
              exact OpRes.val ⟨σ, w', .tuple #[], r1, .tuple rfl (fun i x y h => by simp at h), r2⟩
            split at ho
            · rename_i i u hf
              simp only [Option.some.injEq, Prod.mk.injEq] at ho
              obtain ⟨rfl, rfl⟩ := ho
              exact fin _ (delete_rel (ty := ty) (ts := ts') hu hk hr hg e1 hf)
            · rename_i hf
              simp only [Option.some.injEq, Prod.mk.injEq] at ho
              obtain ⟨rfl, rfl⟩ := ho
              exact fin _ (delete_rel (ty := ty) (ts := ts') hu hk hr hg e1 hf)
            · cases ho
          · cases ho
        · cases ho
      · cases hc
    · cases hc
  · -- clear
    rename_i m tt ts'
    have e1 := E m (by simp)
    split at hc
    · rename_i kt e hu
      simp only [Option.some.injEq] at hc; subst hc
      simp only [aop] at ho
      split at ho
      · rename_i g h1
        rw [h1] at e1
        split at ho
        · rename_i es clock hg
          simp only [Option.some.injEq, Prod.mk.injEq] at ho
          obtain ⟨rfl, rfl⟩ := ho
          obtain ⟨w', r1, r2⟩ := clear_rel (ty := ty) (ts := ts') hr hu hg e1
          exact OpRes.val ⟨σ, w', .tuple #[], r1, .tuple rfl (fun i x y h => by simp at h), r2⟩
        · cases ho
      · cases ho
    · cases hc
  · cases hc

theorem VRel.agg_inv {cs : Array Value} {q : Value} (hv : VRel σ (.agg cs) q) : ∃ cs', q = .agg cs' ∧ LRel σ cs.toList cs'.toList := by
  cases hv with
  | agg ha ra => exact ⟨_, rfl, by simpa using ha, fun i x y hx hy => ra i x y (by simpa using hx) (by simpa using hy)⟩
theorem VRel.ptr_inv {a : Addr} {q : Value} (hv : VRel σ (.pointer (some a)) q) : ∃ pl, σ a.block = some pl ∧ q = .pointer (some ⟨pl.b, pl.base + a.off, none⟩) := by
  cases hv with
  | ptr hp => exact ⟨_, hp, rfl⟩

theorem aop_rel (hr : HRel P B σ h w) {ih : Ex} {t : Trie Value} {a : Act} (ht : ∀ k, VRel σ (tmGet t k) (a.tmps.getD k Go.undef)) {o : Oper} {op : AOp} (hc : cOp P o = some op) (hnc : ∀ f args, op ≠ .call f args) {v : Value} {h' : AHeap}
    (ho : aop P ih t h op = some (v, h')) : OpRes P B σ h w (execOp a.eval o) v h' := by
  unfold cOp at hc
  cases hok : opdsOk P o.op.operands.toList with
  | false => simp [hok] at hc
  | true =>
  simp only [hok, Bool.not_true, cond_false] at hc
  have hop : ∀ x ∈ o.op.operands.toList, opdOk P x = true := fun x hx => List.all_eq_true.1 hok x hx
  clear hok
  have E : ∀ x ∈ o.op.operands.toList, VRel σ (ev t x) (a.eval x) := fun x hx => ev_rel hr ht (hop x hx)
  unfold execOp
  cases hq : o.op with
  | move x =>
    simp only [hq, Option.some.injEq] at hc; subst hc
    simp only [aop, Option.some.injEq, Prod.mk.injEq] at ho
    obtain ⟨rfl, rfl⟩ := ho
    exact ⟨σ, w, .inl ⟨_, rfl, E x (by simp [hq, Op.operands])⟩, Evo.refl hr⟩
  | assign x =>
    simp only [hq, Option.some.injEq] at hc; subst hc
    simp only [aop, Option.some.injEq, Prod.mk.injEq] at ho
    obtain ⟨rfl, rfl⟩ := ho
    exact ⟨σ, w, .inl ⟨_, rfl, E x (by simp [hq, Op.operands])⟩, Evo.refl hr⟩
  | pick c x y =>
    simp only [hq, Option.some.injEq] at hc; subst hc
    have e1 := E c (by simp [hq, Op.operands])
    have e2 := E x (by simp [hq, Op.operands])
    have e3 := E y (by simp [hq, Op.operands])
    simp only [aop] at ho
    split at ho
    · rename_i b hb
      simp only [Option.some.injEq, Prod.mk.injEq] at ho
      obtain ⟨rfl, rfl⟩ := ho
      rw [hb] at e1
      have e4 : a.eval c = .bool b := by generalize a.eval c = q at e1; cases e1; rfl
      refine ⟨σ, w, .inl ⟨if b then a.eval x else a.eval y, by simp [e4, asBool], ?_⟩, Evo.refl hr⟩
      cases b <;> simpa
    · cases ho
  | alloc e =>
    simp only [hq] at hc
    cases hz : tzeros P e with
    | none => simp [hz] at hc
    | some zs =>
      simp only [hz, Option.map_some, Option.some.injEq] at hc; subst hc
      obtain ⟨i, z, hi, hzz, rfl, hzs, hcl⟩ := tzeros_info hz
      simp only [aop, Option.some.injEq, Prod.mk.injEq] at ho
      obtain ⟨rfl, rfl⟩ := ho
      refine OpRes.val ?_
      obtain ⟨σ', w', cv, r1, r2, r3⟩ := new_rel hr (LRel.closed σ hcl) e
      refine ⟨σ', w', cv, ?_, r2, r3⟩
      simp [newRow] at r1
      simp [Instr.alloc, zeroValue, typeInfo, hi, hzz, newVar, newRow, r1]
  | box e x =>
    simp only [hq, Option.some.injEq] at hc; subst hc
    simp only [aop, Option.some.injEq, Prod.mk.injEq] at ho
    obtain ⟨rfl, rfl⟩ := ho
    refine OpRes.val ?_
    obtain ⟨σ', w', cv, r1, r2, r3⟩ := new_rel hr (E x (by simp [hq, Op.operands])).cells e
    refine ⟨σ', w', cv, ?_, r2, r3⟩
    simp [newRow] at r1
    simp [Instr.box, newVar, newRow, r1]
  | build ty parts =>
    simp only [hq] at hc
    have hparts : ∀ x ∈ parts.toList, opdOk P x.2 = true := fun x hx => hop x.2 (by simp [hq, Op.operands]; exact ⟨x.1, by simpa using hx⟩)
    split at hc
    · rename_i zs fs hz hu
      cases hfs : fs.toList.all (fun f => (tsize P f.type).isSome) with
      | false => simp [hfs] at hc
      | true =>
      simp only [hfs, Bool.not_true, cond_false] at hc
      cases hps : partsOf (placeOf P fs) parts.toList with
      | none => simp [hps] at hc
      | some ps =>
        simp only [hps, Option.map_some, Option.some.injEq] at hc; subst hc
        obtain ⟨i, z, hi, hzz, rfl, hzs, hcl⟩ := tzeros_info hz
        simp only [aop] at ho
        cases hf : fillA z.cells.toList (evParts t ps) with
        | none => simp [hf] at ho
        | some cells =>
          simp only [hf, Option.map_some, Option.some.injEq, Prod.mk.injEq] at ho
          obtain ⟨rfl, rfl⟩ := ho
          obtain ⟨q1, q2⟩ := parts_rel hr ht hparts hps
          have hfill := run_fill (parts.toList.map fun x => (x.1, a.eval x.2)) (fun i => (fs.map fun f => (f.offset, (tsize P f.type).getD 0))[i]?) z.cells.toList z.cells.toList (evParts t ps) cells (LRel.closed σ hcl) q1
            (fun j i v o n u h1 h2 => by
              obtain ⟨a1, a2⟩ := q2 j i v o n u h1 h2
              refine ⟨?_, a2⟩
              unfold placeOf at a1
              cases hfi : fs[i]? with
              | none => simp [hfi] at a1
              | some f =>
                simp only [hfi] at a1
                cases hts : tsize P f.type with
                | none => simp [hts] at a1
                | some m => simp [hts] at a1; simp [hfi, hts, a1]) hf
          obtain ⟨ys, f1, f2⟩ := hfill
          refine OpRes.same hr ?_ (VRel.agg' f2)
          have hfl := run_fields (P := P) (w := w) hfs
          simp only [Array.toArray_toList] at f1
          have hpt : (parts.map fun x => (x.1, a.eval x.2)).toList = parts.toList.map fun x => (x.1, a.eval x.2) := by simp
          simp only [Instr.build, zeroValue, typeInfo, Sem.run_bind, run_program, Result.andThen_ok, hi, hzz, Sem.run_pure, run_underlying hu, hfl, hpt, f1]
    · rename_i zs len e hz hu
      cases hts : tsize P e with
      | none => simp [hts] at hc
      | some n =>
      simp only [hts] at hc
      cases hps : partsOf (fun i => some (i * n, n)) parts.toList with
      | none => simp [hps] at hc
      | some ps =>
        simp only [hps, Option.map_some, Option.some.injEq] at hc; subst hc
        obtain ⟨i, z, hi, hzz, rfl, hzs, hcl⟩ := tzeros_info hz
        obtain ⟨ie, hie, hsz⟩ := tsize_info hts
        simp only [aop] at ho
        cases hf : fillA z.cells.toList (evParts t ps) with
        | none => simp [hf] at ho
        | some cells =>
          simp only [hf, Option.map_some, Option.some.injEq, Prod.mk.injEq] at ho
          obtain ⟨rfl, rfl⟩ := ho
          obtain ⟨q1, q2⟩ := parts_rel hr ht hparts hps
          obtain ⟨ys, f1, f2⟩ := run_fill (parts.toList.map fun x => (x.1, a.eval x.2)) (fun i => some (i * n, n)) z.cells.toList z.cells.toList (evParts t ps) cells (LRel.closed σ hcl) q1 q2 hf
          refine OpRes.same hr ?_ (VRel.agg' f2)
          simp only [Array.toArray_toList] at f1
          have hpt : (parts.map fun x => (x.1, a.eval x.2)).toList = parts.toList.map fun x => (x.1, a.eval x.2) := by simp
          simp only [Instr.build, zeroValue, typeInfo, Sem.run_bind, run_program, Result.andThen_ok, hi, hzz, Sem.run_pure, run_underlying hu, run_size hie, hsz, hpt, f1]
    · cases hc
  | buildSlice ty len parts =>
    simp only [hq] at hc
    have hparts : ∀ x ∈ parts.toList, opdOk P x.2 = true := fun x hx => hop x.2 (by simp [hq, Op.operands]; exact ⟨x.1, by simpa using hx⟩)
    cases hse : sliceElem P ty with
    | none => simp [hse] at hc
    | some e =>
    have hu : P.underlying ty = some (.slice e) := by
      unfold sliceElem at hse; split at hse
      · cases hse; assumption
      · cases hse
    simp only [hse] at hc
    split at hc
    · rename_i n zs he hz
      cases hb : Nat.ble (len * n) 65536 with
      | false => simp [hb] at hc
      | true =>
      simp only [hb, cond_true] at hc
      cases hps : partsOf (fun i => some (i * n, n)) parts.toList with
      | none => simp [hps] at hc
      | some ps =>
        simp only [hps, Option.map_some, Option.some.injEq] at hc; subst hc
        obtain ⟨i, z, hi, hsz, hc0, _, _, hzz, hzc⟩ := telem_info he
        obtain ⟨i', z', hi', hzz', rfl, hzs, hcl⟩ := tzeros_info hz
        rw [hi] at hi'; cases hi'
        rw [hzz] at hzz'; cases hzz'
        subst hsz
        simp only [aop] at ho
        cases hf : fillA (repl z.cells.toList len) (evParts t ps) with
        | none => simp [hf] at ho
        | some cells =>
          simp only [hf, Option.map_some, Option.some.injEq, mk, Prod.mk.injEq] at ho
          obtain ⟨rfl, rfl⟩ := ho
          obtain ⟨q1, q2⟩ := parts_rel hr ht hparts hps
          have hrc : LRel σ (repl z.cells.toList len) (repl z.cells.toList len) := LRel.closed σ (repl_closed hcl len)
          obtain ⟨ys, f1, f2⟩ := run_fill (parts.toList.map fun x => (x.1, a.eval x.2)) (fun i_1 => some (i_1 * i.size, i.size)) _ _ (evParts t ps) cells hrc q1 q2 hf
          refine OpRes.val ?_
          have hp := push_row hr f2 [] e 0
          rw [List.append_nil] at hp
          have hlen : ys.length = len * i.size := by
            have hfl : ∀ (qs : List (Nat × Nat × Value)) (xs r : List Value), fillA xs qs = some r → r.length = xs.length := fun qs => by
              induction qs with
              | nil => intro xs r h; simp [fillA] at h; rw [h]
              | cons q qs ihq =>
                intro xs r h
                obtain ⟨o1, n1, u1⟩ := q
                simp only [fillA] at h
                cases hbb : (Nat.beq u1.cells.size n1 && Nat.ble (o1 + n1) xs.length) with
                | false => simp [hbb] at h
                | true =>
                  simp only [hbb, cond_true] at h
                  simp only [Bool.and_eq_true] at hbb
                  have b1 := Nat.eq_of_beq_eq_true hbb.1
                  have b2 := Nat.le_of_ble_eq_true hbb.2
                  rw [ihq _ _ h]
                  simp [putAt]; omega
            rw [← f2.1, hfl _ _ _ hf, repl_length]
            simp [hzc]
          refine ⟨_, _, .slice (some ⟨w.heap.size, 0, none⟩) len len, ?_, VRel.slice (pl := ⟨w.heap.size, 0, ys.length + 0⟩) (more_same _ _ _) hc0 (Nat.le_refl _) (by simp [hlen]), hp⟩
          have hbig : ¬ (16777216 < len * i.size) := by have := Nat.le_of_ble_eq_true hb; omega
          have hmade : ((Array.range (len * i.size)).map (z.cells[· % z.cells.size]!)) = (repl z.cells.toList len).toArray := by
            apply Array.ext'
            rw [← repl_made z.cells (by omega) len]
            simp [hzc]
          by_cases hl0 : len * i.size = 0
          · have hl1 : len = 0 := by rcases Nat.mul_eq_zero.1 hl0 with h | h <;> omega
            subst hl1
            have hr0 : Array.range 0 = #[] := rfl
            simp only [repl] at f1
            simp [Instr.buildSlice, run_underlying hu, run_size hi, newRow, hr0, f1]
          · simp [Instr.buildSlice, run_underlying hu, run_size hi, zeroValue, typeInfo, hi, hzz, hbig, newRow, hmade, f1]
            intro h0
            exact absurd h0 hl0
    · cases hc
  | load ty x =>
    simp only [hq] at hc
    split at hc
    · rename_i g n hg hn
      simp only [Option.some.injEq] at hc; subst hc
      have e1 := E x (by simp [hq, Op.operands])
      simp only [aop] at ho
      split at ho
      · rename_i ad had
        rw [had] at e1
        cases hsp : ad.spot with
        | some s => simp [hsp] at ho
        | none =>
          simp only [hsp, Option.isNone_none, cond_true] at ho
          cases hrow : rowOf h ad.block with
          | none => simp [hrow] at ho
          | some cells =>
            simp only [hrow, Option.bind_some] at ho
            cases hcut : cut cells ad.off n with
            | none => simp [hcut] at ho
            | some xs =>
              simp only [hcut, Option.bind_some] at ho
              cases hof : ofCells g xs with
              | none => simp [hof] at ho
              | some u =>
                simp only [hof, Option.map_some, Option.some.injEq, Prod.mk.injEq] at ho
                obtain ⟨rfl, rfl⟩ := ho
                obtain ⟨pl, ys, c1, c2, c3, c4, c5⟩ := cut_cells hr hrow hcut
                obtain ⟨cv, d1, d2⟩ := ofCells_rel c2 hof
                obtain ⟨b, off, sp⟩ := ad
                simp only at hsp c1 c5
                subst hsp
                generalize hev : a.eval x = q at e1
                cases e1 with
                | ptr hp =>
                  rw [c1] at hp; cases hp
                  refine OpRes.same hr ?_ d2
                  have := run_loadVar_of (P := P) (w := w) hg hn c3 c5 d1
                  simp [Instr.loadAt, Instr.sureAddr, hev, this]
      · cases ho
    · cases hc
  | store ty x y =>
    simp only [hq] at hc
    cases hn : tsize P ty with
    | none => simp [hn] at hc
    | some n =>
      simp only [hn, Option.map_some, Option.some.injEq] at hc; subst hc
      have e1 := E x (by simp [hq, Op.operands])
      have e2 := E y (by simp [hq, Op.operands])
      simp only [aop] at ho
      split at ho
      · rename_i ad had
        rw [had] at e1
        cases hsz : Nat.beq (ev t y).cells.size n with
        | false => simp [hsz] at ho
        | true =>
          simp only [hsz, cond_true] at ho
          have hsz := Nat.eq_of_beq_eq_true hsz
          cases hst : storeA h ad (ev t y).cells.toList with
          | none => simp [hst] at ho
          | some h1 =>
            simp only [hst, Option.map_some, Option.some.injEq, Prod.mk.injEq] at ho
            obtain ⟨rfl, rfl⟩ := ho
            obtain ⟨i, hi, hs⟩ := tsize_info hn
            generalize hev : a.eval x = q at e1
            cases e1 with
            | ptr hp =>
              obtain ⟨w', r1, r2⟩ := storeA_rel hr (VRel.ptr hp) e2.cells hst
              refine OpRes.unit ⟨σ, w', ?_, r2⟩
              have hsz2 : (a.eval y).cells.size = i.size := by have := e2.cells.1; simp at this; omega
              simp [Instr.storeAt, Instr.sureAddr, hev, storeVar, run_size hi, hsz2, r1]
      · cases ho
  | nilCheck x =>
    simp only [hq, Option.some.injEq] at hc; subst hc
    have e1 := E x (by simp [hq, Op.operands])
    generalize hev : a.eval x = q at e1
    simp only [aop] at ho
    split at ho
    · rename_i ad had
      rw [had] at e1
      simp only [Option.some.injEq, Prod.mk.injEq] at ho
      obtain ⟨rfl, rfl⟩ := ho
      refine ⟨σ, w, .inl ⟨q, ?_, e1⟩, Evo.refl hr⟩
      cases e1; simp [hev]
    · rename_i f first cap had
      rw [had] at e1
      simp only [Option.some.injEq, Prod.mk.injEq] at ho
      obtain ⟨rfl, rfl⟩ := ho
      refine ⟨σ, w, .inl ⟨q, ?_, e1⟩, Evo.refl hr⟩
      cases e1; simp [hev]
    · rename_i f first cap had
      rw [had] at e1
      simp only [Option.some.injEq, Prod.mk.injEq] at ho
      obtain ⟨rfl, rfl⟩ := ho
      refine ⟨σ, w, .inl ⟨q, ?_, e1⟩, Evo.refl hr⟩
      cases e1; simp [hev]
    · cases ho
  | binOp bop ty x y ty2 =>
    simp only [hq] at hc
    have e1 := E x (by simp [hq, Op.operands])
    have e2 := E y (by simp [hq, Op.operands])
    have hbin : op = .bin bop x y → (∃ k, P.underlying ty = some (.int k)) → OpRes P B σ h w (do pure (.value (← (do eqGuard bop ty x y (a.eval x) (a.eval y); binOp bop ty (a.eval x) (a.eval y))))) v h' := fun hop _ => by
      subst hop
      simp only [aop] at ho
      cases hb : binV bop (ev t x) (ev t y) with
      | none => simp [hb] at ho
      | some u =>
        simp only [hb, Option.map_some, Option.some.injEq, Prod.mk.injEq] at ho
        obtain ⟨rfl, rfl⟩ := ho
        obtain ⟨r1, r2⟩ := binV_rel (P := P) (w := w) e1 e2 hb ty
        refine OpRes.same hr ?_ r2
        have hg : (eqGuard bop ty x y (a.eval x) (a.eval y)).run P w = .ok () w := by
          have : ∃ k n, ev t x = .int k n := by
            unfold binV at hb
            split at hb <;> first | (cases hb; done) | (rename_i h1 _; exact ⟨_, _, h1⟩) | (rename_i h1 h2; exact ⟨_, _, h1⟩)
          obtain ⟨k, n, hk⟩ := this
          rw [hk] at e1
          generalize a.eval x = q at e1
          cases e1
          unfold eqGuard
          split <;> rfl
        simp [hg, r1]
    have hbinP : op = .binP bop ty x y → OpRes P B σ h w (do pure (.value (← (do eqGuard bop ty x y (a.eval x) (a.eval y); binOp bop ty (a.eval x) (a.eval y))))) v h' := fun hop => by
      subst hop
      simp only [aop] at ho
      cases hcl : (closedD (ev t x) && closedD (ev t y)) with
      | false => simp [hcl] at ho
      | true =>
        simp only [hcl, cond_true] at ho
        simp only [Bool.and_eq_true] at hcl
        split at ho
        · rename_i u hp
          cases hcu : closedV u with
          | false => simp [hcu] at ho
          | true =>
            simp only [hcu, cond_true, Option.some.injEq, Prod.mk.injEq] at ho
            obtain ⟨rfl, rfl⟩ := ho
            have q1 := e1.closedD_eq hcl.1
            have q2 := e2.closedD_eq hcl.2
            rw [q1, q2]
            exact OpRes.same hr (pureRun_run _ hp) (VRel.closed σ hcu)
        · cases ho
    have hnil : ∀ (d : TypeDesc) (k : Nat) (neg : Bool) (z u : Operand), P.underlying ty = some d → nilKind d = some k → isNilC k u = true → bop = (if neg then .neq else .eql) → op = .isNil k neg z → ((x = z ∧ y = u) ∨ (x = u ∧ y = z)) →
        OpRes P B σ h w (do pure (.value (← (do eqGuard bop ty x y (a.eval x) (a.eval y); binOp bop ty (a.eval x) (a.eval y))))) v h' := fun d k neg z u hd hk hu hb hop2 hxy => by
      subst hop2
      simp only [aop] at ho
      cases hn : nilV k (ev t z) with
      | none => simp [hn] at ho
      | some b =>
        simp only [hn, Option.map_some, Option.some.injEq, Prod.mk.injEq] at ho
        obtain ⟨rfl, rfl⟩ := ho
        have hcst : ∃ c, u = .const c := by
          cases u with
          | const c => exact ⟨c, rfl⟩
          | _ => unfold isNilC at hu; split at hu <;> simp_all
        obtain ⟨c, hcc⟩ := hcst
        subst hb
        rcases hxy with ⟨rfl, rfl⟩ | ⟨rfl, rfl⟩
        · have := (nilV_rel (P := P) (w := w) hd hk e1 hn hu hcc x neg).1
          subst hcc
          exact OpRes.same hr this (.bool _)
        · have := (nilV_rel (P := P) (w := w) hd hk e2 hn hu hcc y neg).2
          subst hcc
          exact OpRes.same hr this (.bool _)
    have hbool : ∀ neg, P.underlying ty = some .bool → bop = (if neg then .neq else .eql) → op = .binB neg x y → OpRes P B σ h w (do pure (.value (← (do eqGuard bop ty x y (a.eval x) (a.eval y); binOp bop ty (a.eval x) (a.eval y))))) v h' := fun neg hd hb hop2 => by
      subst hop2 hb
      simp only [aop] at ho
      split at ho
      · rename_i b1 b2 h1 h2
        simp only [Option.some.injEq, Prod.mk.injEq] at ho
        obtain ⟨rfl, rfl⟩ := ho
        rw [h1] at e1
        rw [h2] at e2
        have q1 : a.eval x = .bool b1 := by generalize a.eval x = q at e1; cases e1; rfl
        have q2 : a.eval y = .bool b2 := by generalize a.eval y = q at e2; cases e2; rfl
        rw [q1, q2]
        have hE : (Op.equal ty (.bool b1) (.bool b2)).run P w = .ok (b1 == b2) w := by
          have : ∀ D, (Op.equalIn (D + 1) ty (.bool b1) (.bool b2)).run P w = .ok (b1 == b2) w := fun D => by rw [Op.equalIn, Sem.run_bind, run_underlying hd]; rfl
          exact this 9999
        refine OpRes.same hr ?_ (.bool _)
        cases neg
        · simp [eqGuard, binOp, hE]
        · simp [eqGuard, binOp, hE]; cases b1 <;> cases b2 <;> rfl
      · cases ho
    dsimp only
    cases hd : P.underlying ty with
    | none => simp [hd] at hc
    | some d =>
      simp only [hd] at hc
      cases d with
      | int k => simp only [Option.some.injEq] at hc; exact hbin hc.symm ⟨k, hd⟩
      | bool =>
        simp only at hc
        split at hc
        · simp only [Option.some.injEq] at hc; exact hbool false hd rfl hc.symm
        · simp only [Option.some.injEq] at hc; exact hbool true hd rfl hc.symm
        · cases hc
      | struct _ => simp only [Option.some.injEq] at hc; exact hbinP hc.symm
      | array _ _ => simp only [Option.some.injEq] at hc; exact hbinP hc.symm
      | string => simp only [Option.some.injEq] at hc; exact hbinP hc.symm
      | float _ => simp only [Option.some.injEq] at hc; exact hbinP hc.symm
      | complex _ => simp only [Option.some.injEq] at hc; exact hbinP hc.symm
      | _ =>
        simp only [nilKind] at hc
        first
          | (cases hc; done)
          | (split at hc
             all_goals first
               | (cases hc; done)
               | (simp only [Option.some.injEq] at hc; first
                   | exact hnil _ _ false x y hd rfl (by assumption) rfl hc.symm (.inl ⟨rfl, rfl⟩)
                   | exact hnil _ _ true x y hd rfl (by assumption) rfl hc.symm (.inl ⟨rfl, rfl⟩)
                   | exact hnil _ _ false y x hd rfl (by assumption) rfl hc.symm (.inr ⟨rfl, rfl⟩)
                   | exact hnil _ _ true y x hd rfl (by assumption) rfl hc.symm (.inr ⟨rfl, rfl⟩)))
  | unOp uop ty x =>
    simp only [hq, Option.some.injEq] at hc; subst hc
    have e1 := E x (by simp [hq, Op.operands])
    simp only [aop] at ho
    cases hu : unV uop (ev t x) with
    | none => simp [hu] at ho
    | some u =>
      simp only [hu, Option.map_some, Option.some.injEq, Prod.mk.injEq] at ho
      obtain ⟨rfl, rfl⟩ := ho
      obtain ⟨r1, r2⟩ := unV_rel (P := P) (w := w) e1 hu
      exact OpRes.same hr r1 r2
  | convert s d x =>
    simp only [hq] at hc
    have e1 := E x (by simp [hq, Op.operands])
    have hconvP : op = .convP s d x → OpRes P B σ h w (do pure (.value (← convert s d (a.eval x)))) v h' := fun hop => by
      subst hop
      simp only [aop] at ho
      cases hcl : closedV (ev t x) with
      | false => simp [hcl] at ho
      | true =>
        simp only [hcl, cond_true] at ho
        split at ho
        · rename_i u hp
          cases hcu : closedV u with
          | false => simp [hcu] at ho
          | true =>
            simp only [hcu, cond_true, Option.some.injEq, Prod.mk.injEq] at ho
            obtain ⟨rfl, rfl⟩ := ho
            rw [e1.closed_eq hcl]
            exact OpRes.same hr (pureRun_run _ hp) (VRel.closed σ hcu)
        · cases ho
    split at hc
    · rename_i k1 k2 h1 h2
      simp only [Option.some.injEq] at hc; subst hc
      simp only [aop] at ho
      split at ho
      · rename_i k n hn
        simp only [Option.some.injEq, Prod.mk.injEq] at ho
        obtain ⟨rfl, rfl⟩ := ho
        rw [hn] at e1
        generalize hev : a.eval x = q at e1
        cases e1
        refine OpRes.same hr (cv := .int k2 (k2.wrap n)) ?_ (.int _ _)
        show (convert s d (a.eval x)).run P w = _
        rw [hev]
        simp [convert, run_underlying h1, run_underlying h2, Conv.intToInt]
      · cases ho
    all_goals first
      | (simp only [Option.some.injEq] at hc; exact hconvP hc.symm)
      | cases hc
  | makeFunc fn first cap =>
    simp only [hq, Option.some.injEq] at hc; subst hc
    simp only [aop] at ho
    split at ho
    · simp only [Option.some.injEq, Prod.mk.injEq] at ho
      obtain ⟨rfl, rfl⟩ := ho
      have l1 := evs_rel hr ht (l := first.toList) (fun x hx => hop x (by simp [hq, Op.operands]; left; simpa using hx))
      have l2 := evs_rel hr ht (l := cap.toList) (fun x hx => hop x (by simp [hq, Op.operands]; right; simpa using hx))
      refine OpRes.same hr rfl ?_
      refine .func _ (by simp) (by simp) (fun i x y hx hy => l1.2 i x y (by simpa using hx) (by simpa using hy)) (fun i x y hx hy => l2.2 i x y (by simpa using hx) (by simpa using hy))
    · cases ho
  | makeMap ty r =>
    simp only [hq] at hc
    cases r with
    | some r => simp at hc
    | none =>
      simp only at hc
      split at hc
      · rename_i k e hu
        simp only [Option.some.injEq] at hc; subst hc
        simp only [aop, Option.some.injEq, Prod.mk.injEq] at ho
        obtain ⟨rfl, rfl⟩ := ho
        have hp : Evo P B σ h w (more σ h.n ⟨w.heap.size, 0, 0⟩) (h.push (.map [] 0)) (w.alloc (.map #[] 0)) :=
          hr.push rfl ⟨rfl, rfl, rfl⟩ ⟨#[], by show (w.heap.push _)[w.heap.size]? = _; simp, ERel.nil⟩
        exact OpRes.val ⟨_, _, .map (some w.heap.size), by simp [Instr.makeMap], VRel.map (pl := ⟨w.heap.size, 0, 0⟩) (more_same _ _ _), hp⟩
      · cases hc
  | makeSlice ty l c =>
    simp only [hq] at hc
    have e1 := E l (by simp [hq, Op.operands])
    have e2 := E c (by simp [hq, Op.operands])
    cases hse : sliceElem P ty with
    | none => simp [hse] at hc
    | some e =>
      have hu : P.underlying ty = some (.slice e) := by
        unfold sliceElem at hse; split at hse
        · cases hse; assumption
        · cases hse
      simp only [hse] at hc
      split at hc
      · rename_i n zs he hz
        simp only [Option.some.injEq] at hc; subst hc
        simp only [aop] at ho
        split at ho
        · rename_i ln cn h1 h2
          cases hb : (Nat.ble ln cn && Nat.ble cn room) with
          | false => simp [hb] at ho
          | true =>
            simp only [hb, cond_true, Option.some.injEq, Prod.mk.injEq] at ho
            simp only [Bool.and_eq_true] at hb
            obtain ⟨rfl, rfl⟩ := ho
            obtain ⟨k, hk⟩ := asN_rel e1 h1
            obtain ⟨k', hk'⟩ := asN_rel e2 h2
            dsimp only
            rw [hk, hk']
            exact OpRes.val (mkSlice_rel hr hu he hz (Nat.le_of_ble_eq_true hb.1) (Nat.le_of_ble_eq_true hb.2))
        · cases ho
      · cases hc
  | slice ty x lo hi mx =>
    simp only [hq] at hc
    have e1 := E x (by simp [hq, Op.operands])
    have olo : ∀ y, lo = some y → opdOk P y = true := fun y hy => hop y (by subst hy; simp [hq, Op.operands])
    have ohi : ∀ y, hi = some y → opdOk P y = true := fun y hy => hop y (by subst hy; simp [hq, Op.operands])
    have omx : ∀ y, mx = some y → opdOk P y = true := fun y hy => hop y (by subst hy; simp [hq, Op.operands])
    cases hmx : (mx.isSome && hi.isNone) with
    | true => simp [hmx] at hc
    | false =>
    simp only [hmx, cond_false] at hc
    split at hc
    · rename_i e hu
      cases he : telem P e with
      | none => simp [he] at hc
      | some c =>
        simp only [he, Option.map_some, Option.some.injEq] at hc; subst hc
        simp only [aop] at ho
        split at ho
        · rename_i nlo nhi nmx h1 h2 h3
          cases hs : sliceA c (ev t x) nlo nhi nmx with
          | none => simp [hs] at ho
          | some u =>
            simp only [hs, Option.map_some, Option.some.injEq, Prod.mk.injEq] at ho
            obtain ⟨rfl, rfl⟩ := ho
            obtain ⟨cv, r1, r2⟩ := sliceA_rel (P := P) (w := w) hu he e1 (optA_rel hr ht olo h1) (optA_rel hr ht ohi h2) (optA_rel hr ht omx h3) (fun h => by
              rw [optA_isSome h3] at h
              rw [optA_isSome h2]
              cases hi <;> simp_all) hs
            exact OpRes.same hr r1 r2
        · cases ho
    · rename_i hu
      cases mx with
      | some m => simp at hc
      | none =>
      simp only [Option.isSome_none, cond_false, Option.some.injEq] at hc; subst hc
      simp only [aop] at ho
      split at ho
      · rename_i s nlo nhi h1 h2 h3
        cases hb : (Nat.ble (nlo.getD 0) (nhi.getD s.size) && Nat.ble (nhi.getD s.size) s.size) with
        | false => simp [hb] at ho
        | true =>
          simp only [hb, cond_true, Option.some.injEq, Prod.mk.injEq] at ho
          simp only [Bool.and_eq_true] at hb
          obtain ⟨rfl, rfl⟩ := ho
          rw [h1] at e1
          have q1 : a.eval x = .string s := by generalize a.eval x = q at e1; cases e1; rfl
          have b1 := optA_rel hr ht olo h2
          have b2 := optA_rel hr ht ohi h3
          have c1 := Nat.le_of_ble_eq_true hb.1
          have c2 := Nat.le_of_ble_eq_true hb.2
          dsimp only
          rw [q1]
          refine OpRes.same hr ?_ (.string _)
          have hrun : (Instr.sliceBounds false s.size s.size (lo.map a.eval) (hi.map a.eval) none).run P w = .ok (nlo.getD 0, nhi.getD s.size, s.size) w := by
            cases nlo with
            | none =>
              cases nhi with
              | none => rw [b1, b2]; simp [Instr.sliceBounds]
              | some e =>
                obtain ⟨k, hk⟩ := b2
                rw [b1, hk]
                simp at c2
                simp [Instr.sliceBounds, run_bound, c2]
            | some l =>
              obtain ⟨k, hk⟩ := b1
              cases nhi with
              | none =>
                rw [hk, b2]
                simp at c1
                simp [Instr.sliceBounds, run_bound, c1]
              | some e =>
                obtain ⟨k2, hk2⟩ := b2
                rw [hk, hk2]
                simp at c1 c2
                simp [Instr.sliceBounds, run_bound, c1, c2]
          simp [Instr.sliceAt, Instr.slice, run_underlying hu, hrun]
      · cases ho
    · rename_i len e hu
      cases he : telem P e with
      | none => simp [he] at hc
      | some c =>
        simp only [he, Option.map_some, Option.some.injEq] at hc; subst hc
        obtain ⟨ie, z, hi', rfl, hc0, _⟩ := telem_info he
        simp only [aop] at ho
        split at ho
        · rename_i ad had
          split at ho
          · rename_i nlo nhi cells h2 h3 h4
            cases hb : (Nat.ble (nlo.getD 0) (nhi.getD len) && Nat.ble (nhi.getD len) len && ad.spot.isNone && Nat.ble (ad.off + len * ie.size) cells.length) with
            | false => simp [hb] at ho
            | true =>
              simp only [hb, cond_true, Option.some.injEq, Prod.mk.injEq] at ho
              simp only [Bool.and_eq_true] at hb
              obtain ⟨⟨⟨c1, c2⟩, c3⟩, c4⟩ := hb
              have c1 := Nat.le_of_ble_eq_true c1
              have c2 := Nat.le_of_ble_eq_true c2
              have c4 := Nat.le_of_ble_eq_true c4
              obtain ⟨rfl, rfl⟩ := ho
              rw [had] at e1
              obtain ⟨pl, hp, q1⟩ := e1.ptr_inv
              obtain ⟨pl', k1, k2, _⟩ := row_cells hr h4
              rw [hp] at k1; cases k1
              have b1 := optA_rel hr ht olo h2
              have b2 := optA_rel hr ht ohi h3
              have hrun := run_bounds (P := P) (w := w) (sl := false) (len := len) (cap := len) (mx := none) (mx' := none) b1 b2 rfl rfl rfl rfl (by simp) c1 (by simpa using c2) (by simp) (fun _ => c2)
              simp only [Option.getD_none] at hrun
              dsimp only
              rw [q1]
              have hrun2 : (Instr.sliceAt ty (.pointer (some ⟨pl.b, pl.base + ad.off, none⟩)) (lo.map a.eval) (hi.map a.eval) none).run P w =
                  .ok (.slice (some (if len = nlo.getD 0 then ⟨pl.b, pl.base + ad.off, none⟩ else ⟨pl.b, pl.base + ad.off + nlo.getD 0 * ie.size, none⟩)) (nhi.getD len - nlo.getD 0) (len - nlo.getD 0)) w := by
                simp [Instr.sliceAt, Instr.sureAddr, run_underlying hu, hrun, run_size hi', add_mid]
              refine OpRes.same hr hrun2 ?_
              by_cases hz : len = nlo.getD 0
              · have e3 : nhi.getD len - nlo.getD 0 = 0 := by omega
                have e4 : len - nlo.getD 0 = 0 := by omega
                rw [e3, e4]
                exact .szero _ _ _
              · rw [if_neg hz]
                have e3 : pl.base + ad.off + nlo.getD 0 * ie.size = pl.base + (ad.off + nlo.getD 0 * ie.size) := by omega
                rw [e3]
                refine .slice hp hc0 (by omega) ?_
                have e4 : (len - nlo.getD 0) * ie.size + nlo.getD 0 * ie.size = len * ie.size := by rw [← Nat.add_mul]; congr 1; omega
                omega
          · cases ho
        · cases ho
    · cases hc
  | fieldAddr ty x f =>
    simp only [hq] at hc
    have e1 := E x (by simp [hq, Op.operands])
    split at hc
    · rename_i fs hu
      split at hc
      · rename_i f0 hf
        split at hc
        · rename_i n hn
          simp only [Option.some.injEq] at hc; subst hc
          simp only [aop] at ho
          split at ho
          · rename_i ad had
            rw [had] at e1
            cases hsp : ad.spot with
            | some s => simp [hsp] at ho
            | none =>
              simp only [hsp, Option.isNone_none, cond_true, Option.some.injEq, Prod.mk.injEq] at ho
              obtain ⟨rfl, rfl⟩ := ho
              obtain ⟨b, off, sp⟩ := ad
              generalize hev : a.eval x = q at e1
              cases e1 with
              | ptr hp =>
                dsimp only
                rw [hev]
                refine OpRes.same hr (run_fieldAt hu hf hn _ _) ?_
                rw [Nat.add_assoc]
                exact .ptr hp
          · cases ho
        · cases hc
      · cases hc
    · cases hc
  | field ty x f =>
    simp only [hq] at hc
    have e1 := E x (by simp [hq, Op.operands])
    split at hc
    · rename_i fs hu
      split at hc
      · rename_i f0 hf
        split at hc
        · rename_i g n hg hn
          simp only [Option.some.injEq] at hc; subst hc
          simp only [aop] at ho
          split at ho
          · rename_i cs hcs
            rw [hcs] at e1
            cases hcut : cut cs.toList f0.offset n with
            | none => simp [hcut] at ho
            | some xs =>
              simp only [hcut, Option.bind_some] at ho
              cases hof : ofCells g xs with
              | none => simp [hof] at ho
              | some u =>
                simp only [hof, Option.map_some, Option.some.injEq, Prod.mk.injEq] at ho
                obtain ⟨rfl, rfl⟩ := ho
                generalize hev : a.eval x = q at e1
                obtain ⟨cs', rfl, hll⟩ := e1.agg_inv
                obtain ⟨ys, c1, c2⟩ := cut_rel hll hcut
                obtain ⟨cv, d1, d2⟩ := ofCells_rel c2 hof
                dsimp only
                rw [hev]
                exact OpRes.same hr (run_field hu hf hg hn c1 d1) d2
          · cases ho
        · cases hc
      · cases hc
    · cases hc
  | indexAddr ty x i =>
    simp only [hq] at hc
    have e1 := E x (by simp [hq, Op.operands])
    have e2 := E i (by simp [hq, Op.operands])
    split at hc
    · rename_i e hu
      cases he : telem P e with
      | none => simp [he] at hc
      | some c =>
        simp only [he, Option.map_some, Option.some.injEq] at hc; subst hc
        obtain ⟨ie, z, hi, rfl, hc0, _⟩ := telem_info he
        simp only [aop] at ho
        split at ho
        · rename_i ad len k n h1 h2
          cases hb : (Nat.ble (n + 1) len && Nat.beq k ie.size && ad.spot.isNone) with
          | false => simp [hb] at ho
          | true =>
            simp only [hb, cond_true, Option.some.injEq, Prod.mk.injEq] at ho
            simp only [Bool.and_eq_true] at hb
            obtain ⟨⟨b1, b2⟩, b3⟩ := hb
            have b1 := Nat.le_of_ble_eq_true b1
            obtain ⟨rfl, rfl⟩ := ho
            obtain ⟨kk, hk⟩ := asN_rel e2 h2
            rw [h1] at e1
            generalize hev : a.eval x = q at e1
            rcases e1.slice_inv with ⟨pl, cap, hp, _, hlc, hn, rfl⟩ | ⟨y, rfl, rfl⟩
            · dsimp only
              rw [hev, hk]
              refine OpRes.same hr (run_indexAt_slice hu hi _ _ _ _ _ _ (by omega)) ?_
              rw [Nat.add_assoc]
              exact .ptr hp
            · omega
        · cases ho
    · rename_i len e hu
      cases he : telem P e with
      | none => simp [he] at hc
      | some c =>
        simp only [he, Option.map_some, Option.some.injEq] at hc; subst hc
        obtain ⟨ie, z, hi, rfl, hc0, _⟩ := telem_info he
        simp only [aop] at ho
        split at ho
        · rename_i ad n h1 h2
          cases hb : (Nat.ble (n + 1) len && ad.spot.isNone) with
          | false => simp [hb] at ho
          | true =>
            simp only [hb, cond_true, Option.some.injEq, Prod.mk.injEq] at ho
            simp only [Bool.and_eq_true] at hb
            have b1 := Nat.le_of_ble_eq_true hb.1
            obtain ⟨rfl, rfl⟩ := ho
            obtain ⟨kk, hk⟩ := asN_rel e2 h2
            rw [h1] at e1
            obtain ⟨b, off, sp⟩ := ad
            generalize hev : a.eval x = q at e1
            cases e1 with
            | ptr hp =>
              dsimp only
              rw [hev, hk]
              refine OpRes.same hr (run_indexAt_array hu hi _ _ _ _ (by omega)) ?_
              rw [Nat.add_assoc]
              exact .ptr hp
        · cases ho
    · cases hc
  | index ty x i =>
    simp only [hq] at hc
    have e1 := E x (by simp [hq, Op.operands])
    have e2 := E i (by simp [hq, Op.operands])
    split at hc
    · rename_i len e hu
      split at hc
      · rename_i g c hg he
        simp only [Option.some.injEq] at hc; subst hc
        simp only [aop] at ho
        split at ho
        · rename_i cs n h1 h2
          cases hb : Nat.ble (n + 1) len with
          | false => simp [hb] at ho
          | true =>
            simp only [hb, cond_true] at ho
            have b1 := Nat.le_of_ble_eq_true hb
            cases hcut : cut cs.toList (n * c) c with
            | none => simp [hcut] at ho
            | some xs =>
              simp only [hcut, Option.bind_some] at ho
              cases hof : ofCells g xs with
              | none => simp [hof] at ho
              | some u =>
                simp only [hof, Option.map_some, Option.some.injEq, Prod.mk.injEq] at ho
                obtain ⟨rfl, rfl⟩ := ho
                obtain ⟨kk, hk⟩ := asN_rel e2 h2
                rw [h1] at e1
                generalize hev : a.eval x = q at e1
                obtain ⟨cs', rfl, hll⟩ := e1.agg_inv
                obtain ⟨ys, c1, c2⟩ := cut_rel hll hcut
                obtain ⟨cv, d1, d2⟩ := ofCells_rel c2 hof
                dsimp only
                rw [hev, hk]
                exact OpRes.same hr (run_index_array hu hg he (by omega) c1 d1) d2
        · cases ho
      · cases hc
    · rename_i hu
      simp only [Option.some.injEq] at hc; subst hc
      simp only [aop] at ho
      split at ho
      · rename_i s n h1 h2
        obtain ⟨kk, hk⟩ := asN_rel e2 h2
        rw [h1] at e1
        split at ho
        · rename_i b hb
          simp only [Option.some.injEq, Prod.mk.injEq] at ho
          obtain ⟨rfl, rfl⟩ := ho
          generalize hev : a.eval x = q at e1
          cases e1
          dsimp only
          rw [hev, hk]
          refine OpRes.same hr (cv := .int .u8 b.toNat) ?_ (.int _ _)
          simp [Instr.index, run_underlying hu, asIntOf, hb]
        · cases ho
      · cases ho
    · cases hc
  | lookup ty m k ok =>
    simp only [hq] at hc
    have e1 := E m (by simp [hq, Op.operands])
    have e2 := E k (by simp [hq, Op.operands])
    split at hc
    · rename_i kt e hu
      split at hc
      · rename_i d z hk hz
        cases hzc : closedL z.cells.toList with
        | false => simp [hzc] at hc
        | true =>
        simp only [hzc, cond_true, Option.some.injEq] at hc; subst hc
        simp only [aop] at ho
        generalize hes : (match ev t m with
          | .map none => some []
          | .map (some g) => (match h.get g with
            | some (.map es _) => some es
            | _ => none)
          | _ => none : Option (List MapEntry)) = eso at ho
        split at ho
        · cases ho
        rename_i es hes
        split at ho
        · rename_i kk n hkn
          rw [hkn] at e2
          have q2 : a.eval k = .int kk n := by generalize a.eval k = q at e2; cases e2; rfl
          have hes' : (ev t m = .map none ∧ es = []) ∨ ∃ g clock, ev t m = .map (some g) ∧ h.get g = some (.map es clock) := by
            split at hes
            · rename_i hm; left; exact ⟨hm, by simpa using hes.symm⟩
            · rename_i g hm
              split at hes
              · rename_i es0 clock hg
                simp only [Option.some.injEq] at hes; subst hes
                exact .inr ⟨g, clock, hm, hg⟩
              · cases hes
            · cases hes
          dsimp only
          rw [q2]
          split at ho
          · rename_i i u hf
            simp only [Option.some.injEq, Prod.mk.injEq] at ho
            obtain ⟨rfl, rfl⟩ := ho
            obtain ⟨cv, r1, r2⟩ := lookup_rel (ok := ok) hu hk hr hz hzc e1 hes' hf rfl
            exact OpRes.same hr r1 r2
          · rename_i hf
            simp only [Option.some.injEq, Prod.mk.injEq] at ho
            obtain ⟨rfl, rfl⟩ := ho
            obtain ⟨cv, r1, r2⟩ := lookup_rel (ok := ok) hu hk hr hz hzc e1 hes' hf rfl
            exact OpRes.same hr r1 r2
          · cases ho
        · cases ho
      · cases hc
    · cases hc
  | mapUpdate ty m k x =>
    simp only [hq] at hc
    have e1 := E m (by simp [hq, Op.operands])
    have e2 := E k (by simp [hq, Op.operands])
    have e3 := E x (by simp [hq, Op.operands])
    split at hc
    · rename_i kt e hu
      split at hc
      · rename_i d hk
        simp only [Option.some.injEq] at hc; subst hc
        simp only [aop] at ho
        split at ho
        · rename_i g kk n h1 h2
          rw [h1] at e1
          rw [h2] at e2
          have q2 : a.eval k = .int kk n := by generalize a.eval k = q at e2; cases e2; rfl
          split at ho
          · rename_i es clock hg
            dsimp only
            rw [q2]
            split at ho
            · rename_i i u hf
              simp only [Option.some.injEq, Prod.mk.injEq] at ho
              obtain ⟨rfl, rfl⟩ := ho
              obtain ⟨w', r1, r2⟩ := update_rel hu hk hr hg e1 e3 hf
              exact OpRes.unit ⟨σ, w', r1, r2⟩
            · rename_i hf
              simp only [Option.some.injEq, Prod.mk.injEq] at ho
              obtain ⟨rfl, rfl⟩ := ho
              obtain ⟨w', r1, r2⟩ := update_rel hu hk hr hg e1 e3 hf
              exact OpRes.unit ⟨σ, w', r1, r2⟩
            · cases ho
          · cases ho
        · cases ho
      · cases hc
    · cases hc
  | insert ty m k x =>
    simp only [hq] at hc
    have e1 := E m (by simp [hq, Op.operands])
    have e2 := E k (by simp [hq, Op.operands])
    have e3 := E x (by simp [hq, Op.operands])
    split at hc
    · rename_i kt e hu
      split at hc
      · rename_i d hk
        simp only [Option.some.injEq] at hc; subst hc
        simp only [aop] at ho
        split at ho
        · rename_i g kk n h1 h2
          rw [h1] at e1
          rw [h2] at e2
          have q2 : a.eval k = .int kk n := by generalize a.eval k = q at e2; cases e2; rfl
          split at ho
          · rename_i es clock hg
            dsimp only
            rw [q2]
            split at ho
            · rename_i i u hf
              simp only [Option.some.injEq, Prod.mk.injEq] at ho
              obtain ⟨rfl, rfl⟩ := ho
              obtain ⟨w', r1, r2⟩ := update_rel hu hk hr hg e1 e3 hf
              exact OpRes.unit ⟨σ, w', r1, r2⟩
            · rename_i hf
              simp only [Option.some.injEq, Prod.mk.injEq] at ho
              obtain ⟨rfl, rfl⟩ := ho
              obtain ⟨w', r1, r2⟩ := update_rel hu hk hr hg e1 e3 hf
              exact OpRes.unit ⟨σ, w', r1, r2⟩
            · cases ho
          · cases ho
        · cases ho
      · cases hc
    · cases hc
  | extract x i =>
    simp only [hq, Option.some.injEq] at hc; subst hc
    have e1 := E x (by simp [hq, Op.operands])
    simp only [aop] at ho
    split at ho
    · rename_i vs hvs
      rw [hvs] at e1
      split at ho
      · rename_i u hu
        simp only [Option.some.injEq, Prod.mk.injEq] at ho
        obtain ⟨rfl, rfl⟩ := ho
        generalize hev : a.eval x = q at e1
        cases e1 with
        | tuple ha ra =>
          rename_i vs'
          have hi : i < vs'.size := by rw [← ha]; exact (Array.getElem?_eq_some_iff.1 hu).1
          have hy : vs'[i]? = some vs'[i] := Array.getElem?_eq_getElem _
          dsimp only
          rw [hev]
          exact OpRes.same hr (by simp [Instr.extract, hy]) (ra i _ _ hu hy)
      · cases ho
    · cases ho
  | call c =>
    simp only [hq] at hc
    split at hc
    · simp only [Option.some.injEq] at hc; subst hc; exact absurd rfl (hnc _ _)
    · rename_i b hb
      have hmem : ∀ x ∈ c.args.toList, opdOk P x = true := fun x hx => hop x (by
        rw [hq]
        simp only [Op.operands, Call.operands, hb]
        simpa using hx)
      have := builtin_rel (ty := o.type) (consts := c.args.map fun | .const _ => true | _ => false) hr ht hmem hc ho
      have e1 : (c.args.toList.map a.eval).toArray = c.args.map a.eval := by apply Array.ext'; simp
      rw [e1, Array.toArray_toList] at this
      obtain ⟨σ', w', r1, r2⟩ := this
      refine ⟨σ', w', ?_, r2⟩
      simp only [resolve, hb, Sem.run_bind, Sem.run_pure, Result.andThen_ok, invoke]
      exact r1
    · cases hc
  | defer c =>
    simp only [hq] at hc
    split at hc
    · simp only [Option.some.injEq] at hc; subst hc; simp [aop] at ho
    · split at hc
      · split at hc
        · simp only [Option.some.injEq] at hc; subst hc; simp [aop] at ho
        · cases hc
      · cases hc
    · cases hc
  | _ => simp [hq] at hc

end
end Go.Am
