/-
  The abstract machine: each operation does what the model's does (5): maps.
-/
import Derived.Test.YtdhpgfhidldmgaaAmOps4
namespace Go.Am
open Go.RowKit

section
variable {P : Program} {B : Nat} {σ : Nat → Option Pl} {h : AHeap} {w : World}

theorem ERel.nil : ERel σ [] [] := ⟨rfl, fun i e e' h => by simp at h⟩
theorem ERel.get {es es' : List MapEntry} (he : ERel σ es es') {i : Nat} {e : MapEntry} (h : es[i]? = some e) : ∃ e', es'[i]? = some e' ∧ e'.key = e.key ∧ e'.born = e.born ∧ VRel σ e.val e'.val := by
  have hi : i < es.length := (List.getElem?_eq_some_iff.1 h).1
  have hy : es'[i]? = some (es'[i]'(by rw [← he.1]; exact hi)) := List.getElem?_eq_getElem _
  exact ⟨_, hy, he.2 i _ _ h hy⟩
theorem ERel.tail {e e' : MapEntry} {es es' : List MapEntry} (he : ERel σ (e :: es) (e' :: es')) : ERel σ es es' :=
  ⟨by simpa using he.1, fun i a b h1 h2 => he.2 (i + 1) a b (by simpa using h1) (by simpa using h2)⟩

theorem findA_rel {kk : IntKind} {n : Int} {d : IntKind} : ∀ {es es' : List MapEntry} {i : Nat} {r : Option (Nat × Value)}, ERel σ es es' → findA (.int kk n) es i = some r →
    (r = none → Instr.findNow (.int d) (.int kk n) es' i = some none) ∧
    (∀ j v, r = some (j, v) → i ≤ j ∧ ∃ v', Instr.findNow (.int d) (.int kk n) es' i = some (some (j, v')) ∧ VRel σ v v' ∧ ∃ e, es[j - i]? = some e ∧ e.key = .int kk n ∧ e.val = v) := by
  intro es
  induction es with
  | nil =>
    intro es' i r he hf
    cases es' with
    | nil => simp only [findA, Option.some.injEq] at hf; subst hf; exact ⟨fun _ => rfl, (fun j v h => by cases h)⟩
    | cons e es' => have := he.1; simp at this
  | cons e es ih =>
    intro es' i r he hf
    cases es' with
    | nil => have := he.1; simp at this
    | cons e' es' =>
      obtain ⟨k1, k2, k3⟩ := he.2 0 e e' rfl rfl
      simp only [findA] at hf
      cases hk : keyEq (.int kk n) e.key with
      | none => simp [hk] at hf
      | some b =>
        have hkey : ∃ m, e.key = .int kk m ∧ b = (n == m) := by
          cases hek : e.key <;> simp [hek, keyEq] at hk
          exact ⟨_, by rw [hk.1], hk.2.symm⟩
        obtain ⟨m, hm, rfl⟩ := hkey
        have hnow : Instr.sameNow (.int d) (.int kk n) e'.key = some (n == m) := by rw [k1, hm]; simp [Instr.sameNow]
        cases hb : (n == m) with
        | true =>
          simp only [hk, hb, Option.some.injEq] at hf
          subst hf
          refine ⟨(fun h => by cases h), fun j v h => ?_⟩
          simp only [Option.some.injEq, Prod.mk.injEq] at h
          obtain ⟨rfl, rfl⟩ := h
          refine ⟨Nat.le_refl _, e'.val, by simp [Instr.findNow, hnow, hb], k3, e, by simp, ?_, rfl⟩
          rw [hm]; have : n = m := by simpa using hb
          rw [this]
        | false =>
          simp only [hk, hb] at hf
          obtain ⟨a1, a2⟩ := ih he.tail hf
          refine ⟨fun h => by simp only [Instr.findNow, hnow, hb]; exact a1 h, fun j v h => ?_⟩
          obtain ⟨b1, v', b2, b3, e0, b4, b5⟩ := a2 j v h
          refine ⟨by omega, v', by simp only [Instr.findNow, hnow, hb]; exact b2, b3, e0, ?_, b5⟩
          have : j - i = (j - (i + 1)) + 1 := by omega
          rw [this]
          simpa using b4

theorem setVal_get (v : Value) : ∀ (es : List MapEntry) (i j : Nat), (setVal v es i)[j]? = if j = i then (es[j]?).map (fun e => { e with val := v }) else es[j]?
  | [], i, j => by simp [setVal]
  | e :: es, 0, 0 => by simp [setVal]
  | e :: es, 0, j + 1 => by simp [setVal]
  | e :: es, i + 1, 0 => by simp [setVal]
  | e :: es, i + 1, j + 1 => by simp [setVal, setVal_get v es i j]
theorem setVal_length (v : Value) : ∀ (es : List MapEntry) (i : Nat), (setVal v es i).length = es.length
  | [], i => rfl
  | e :: es, 0 => rfl
  | e :: es, i + 1 => by simp [setVal, setVal_length v es i]
theorem dropAt_eq : ∀ (es : List MapEntry) (i : Nat), dropAt es i = es.eraseIdx i
  | [], i => by cases i <;> rfl
  | e :: es, 0 => rfl
  | e :: es, i + 1 => by simp [dropAt, dropAt_eq es i]

theorem map_live (hr : HRel P B σ h w) {g : Nat} {es : List MapEntry} {clock : Nat} (hg : h.get g = some (.map es clock)) {v' : Value} (hv : VRel σ (.map (some g)) v') :
    ∃ pl es', σ g = some pl ∧ v' = .map (some pl.b) ∧ w.heap[pl.b]? = some (.map es' clock) ∧ ERel σ es es'.toList := by
  obtain ⟨pl, h1, ⟨es', h2, h3⟩, _⟩ := hr.live _ _ hg
  cases hv with
  | map hp => rw [h1] at hp; cases hp; exact ⟨pl, es', h1, rfl, h2, h3⟩

/-- A map's block is written over. -/
theorem map_put (hr : HRel P B σ h w) {g : Nat} {es : List MapEntry} {clock : Nat} (hg : h.get g = some (.map es clock)) {pl : Pl} (hp : σ g = some pl) {o : Obj} (hb : w.heap[pl.b]? = some o) {es2 : List MapEntry} {es2' : Array MapEntry} {clock2 : Nat} (he : ERel σ es2 es2'.toList) :
    Evo P B σ h w σ (h.set g (.map es2 clock2)) { w with heap := w.heap.setIfInBounds pl.b (.map es2' clock2) } := by
  have hlt : pl.b < w.heap.size := (hr.lt _ _ hp).2
  refine hr.put (O' := .map es2' clock2) hg rfl rfl hp ⟨by simp, by simp [hlt], fun b hne => ?_⟩ ⟨rfl, rfl, rfl⟩ ⟨es2', by simp [hlt], he⟩ (fun g2 o2 pl2 _ _ _ _ k => by cases o2 <;> exact k.elim)
  simp only [Array.getElem?_setIfInBounds]
  rw [if_neg (by omega)]

section
variable {t kt e : TypeId} {d : IntKind} (ht : P.underlying t = some (.map kt e)) (hk : P.underlying kt = some (.int d))
include ht hk

omit ht in
theorem run_checkKey' (D : Nat) (b : Bool) (kk : IntKind) (n : Int) : (Instr.checkKey b (D + 1) kt (.int kk n)).run P w = .ok () w := by
  unfold Instr.checkKey
  simp [run_underlying hk]
omit ht in
theorem run_checkKey (b : Bool) (kk : IntKind) (n : Int) : (Instr.checkKey b 10000 kt (.int kk n)).run P w = .ok () w := run_checkKey' hk 9999 b kk n

theorem lookup_rel (hr : HRel P B σ h w) {zero : Value} {m m' v : Value} {kk : IntKind} {n : Int} {ok : Bool} {es : List MapEntry} {r : Option (Nat × Value)} (hz : tzero P e = some zero) (hzc : closedL zero.cells.toList = true) (hm : VRel σ m m')
    (hes : (m = .map none ∧ es = []) ∨ ∃ g clock, m = .map (some g) ∧ h.get g = some (.map es clock)) (hf : findA (.int kk n) es 0 = some r)
    (hv : v = match r with | some (_, v) => (if ok then .tuple #[v, .bool true] else v) | none => (if ok then .tuple #[zero, .bool false] else zero)) :
    ∃ cv, (Instr.lookup t m' (.int kk n) ok).run P w = .ok cv w ∧ VRel σ v cv := by
  have hz' : (zeroValue e).run P w = .ok zero w := by
    unfold tzero at hz
    cases hi : P.info? e with
    | none => simp [hi] at hz
    | some i => simp [hi] at hz; simp [zeroValue, typeInfo, hi, hz]
  have hzr : VRel σ zero zero := by
    have hl := LRel.closed σ hzc
    cases zero with
    | agg cs => have := VRel.agg' hl; simpa [Value.cells] using this
    | _ => exact hl.2 0 _ _ rfl rfl
  have tup : ∀ {a b : Value} (c : Bool), VRel σ a b → VRel σ (.tuple #[a, .bool c]) (.tuple #[b, .bool c]) := fun {a b} c hab => by
    refine .tuple rfl (fun i x y hx hy => ?_)
    match i with
    | 0 => simp at hx hy; subst hx hy; exact hab
    | 1 => simp at hx hy; subst hx hy; exact .bool _
    | i + 2 => simp at hx
  have key : ∀ (es' : Array MapEntry), ERel σ es es'.toList → ∃ x : Option (Nat × Value), (Instr.findKey kt (.int kk n) es'.toList).run P w = .ok x w ∧
      ((x = none ∧ r = none) ∨ ∃ j u u', x = some (j, u') ∧ r = some (j, u) ∧ VRel σ u u') := fun es' he => by
    obtain ⟨a1, a2⟩ := findA_rel (d := d) he hf
    cases r with
    | none => exact ⟨none, by simp [Instr.findKey, run_underlying hk, a1 rfl], .inl ⟨rfl, rfl⟩⟩
    | some x =>
      obtain ⟨j, u⟩ := x
      obtain ⟨_, u', b2, b3, _⟩ := a2 j u rfl
      exact ⟨some (j, u'), by simp [Instr.findKey, run_underlying hk, b2], .inr ⟨j, u, u', rfl, rfl, b3⟩⟩
  have hck := fun b => run_checkKey (P := P) (w := w) hk b kk n
  rcases hes with ⟨rfl, rfl⟩ | ⟨g, clock, rfl, hg⟩
  · cases hm
    obtain ⟨x, c1, c2⟩ := key #[] ERel.nil
    simp only at c1
    rcases c2 with ⟨rfl, rfl⟩ | ⟨j, u, u', rfl, rfl, c3⟩
    · refine ⟨if ok then .tuple #[zero, .bool false] else zero, by simp [Instr.lookup, run_underlying ht, hck, c1, hz'], ?_⟩
      subst hv
      cases ok
      · exact hzr
      · exact tup _ hzr
    · refine ⟨if ok then .tuple #[u', .bool true] else u', by simp [Instr.lookup, run_underlying ht, hck, c1], ?_⟩
      subst hv
      cases ok
      · exact c3
      · exact tup _ c3
  · obtain ⟨pl, es', k1, rfl, k3, k4⟩ := map_live hr hg hm
    obtain ⟨x, c1, c2⟩ := key es' k4
    rcases c2 with ⟨rfl, rfl⟩ | ⟨j, u, u', rfl, rfl, c3⟩
    · refine ⟨if ok then .tuple #[zero, .bool false] else zero, by simp [Instr.lookup, run_underlying ht, getObj, Sem.run, k3, hck, c1, hz'], ?_⟩
      subst hv
      cases ok
      · exact hzr
      · exact tup _ hzr
    · refine ⟨if ok then .tuple #[u', .bool true] else u', by simp [Instr.lookup, run_underlying ht, getObj, Sem.run, k3, hck, c1], ?_⟩
      subst hv
      cases ok
      · exact c3
      · exact tup _ c3

theorem update_rel (hr : HRel P B σ h w) {g : Nat} {m' v v' : Value} {kk : IntKind} {n : Int} {es : List MapEntry} {clock : Nat} {r : Option (Nat × Value)} (hg : h.get g = some (.map es clock)) (hm : VRel σ (.map (some g)) m') (hv : VRel σ v v')
    (hf : findA (.int kk n) es 0 = some r) :
    ∃ w', (Instr.mapUpdate t m' (.int kk n) v').run P w = .ok () w' ∧
      Evo P B σ h w σ (h.set g (match r with | some (i, _) => .map (setVal v es i) clock | none => .map (es ++ [{ key := .int kk n, val := v, born := clock }]) (clock + 1))) w' := by
  obtain ⟨pl, es', k1, rfl, k3, k4⟩ := map_live hr hg hm
  obtain ⟨a1, a2⟩ := findA_rel (d := d) k4 hf
  cases r with
  | none =>
    refine ⟨_, ?_, map_put (es2' := es'.push { key := .int kk n, val := v', born := clock }) (clock2 := clock + 1) hr hg k1 k3 ⟨by simp [k4.1], fun i x y hx hy => ?_⟩⟩
    · simp [Instr.mapUpdate, run_underlying ht, getObj, setObj, Sem.run, k3, run_checkKey hk, Instr.findKey, run_underlying hk, a1 rfl]
    · simp only [Array.toList_push] at hy
      by_cases hi : i < es.length
      · rw [List.getElem?_append_left hi] at hx
        rw [List.getElem?_append_left (by rw [← k4.1]; exact hi)] at hy
        exact k4.2 i x y hx hy
      · rw [List.getElem?_append_right (by omega)] at hx
        rw [List.getElem?_append_right (by rw [← k4.1]; omega), ← k4.1] at hy
        have : i - es.length = 0 := by
          have := (List.getElem?_eq_some_iff.1 hx).1
          simp at this; omega
        rw [this] at hx hy
        simp at hx hy
        subst hx hy
        exact ⟨rfl, rfl, hv⟩
  | some x =>
    obtain ⟨j, u⟩ := x
    obtain ⟨_, u', b2, b3, e0, b4, b5, b6⟩ := a2 j u rfl
    simp only [Nat.sub_zero] at b4
    obtain ⟨e0', c1, c2, c3, c4⟩ := k4.get b4
    have c1' : es'[j]? = some e0' := by simpa using c1
    have hsame : (Instr.keyThatStays (((es'[j]?).map (·.key)).getD (.int kk n)) (.int kk n)).run P w = .ok (.int kk n) w := by
      rw [c1']
      simp [Instr.keyThatStays, c2, b5, Instr.sameBits]
    refine ⟨_, ?_, map_put (es2' := es'.modify j fun e => { e with key := .int kk n, val := v' }) (clock2 := clock) hr hg k1 k3 ⟨by simp [setVal_length, k4.1], fun i x y hx hy => ?_⟩⟩
    · simp [Instr.mapUpdate, run_underlying ht, getObj, setObj, Sem.run, k3, run_checkKey hk, Instr.findKey, run_underlying hk, b2, hsame]
    · rw [setVal_get] at hx
      have hy' : (es'.modify j fun e => { e with key := .int kk n, val := v' })[i]? = some y := by rw [← Array.getElem?_toList]; exact hy
      rw [Array.getElem?_modify] at hy'
      by_cases hij : i = j
      · subst hij
        simp only [if_true, b4, Option.map_some, Option.some.injEq, c1'] at hx hy'
        subst hx hy'
        exact ⟨b5.symm, c3, hv⟩
      · rw [if_neg hij] at hx
        rw [if_neg (by omega)] at hy'
        exact k4.2 i x y hx (by simpa using hy')

theorem delete_rel (hr : HRel P B σ h w) {g : Nat} {m' : Value} {kk : IntKind} {n : Int} {es : List MapEntry} {clock : Nat} {r : Option (Nat × Value)} {ty : TypeId} {ts : List TypeId} (hg : h.get g = some (.map es clock)) (hm : VRel σ (.map (some g)) m')
    (hf : findA (.int kk n) es 0 = some r) :
    ∃ w', (Builtin.delete_ (t :: ts).toArray ty #[m', .int kk n]).run P w = .ok (.tuple #[]) w' ∧
      Evo P B σ h w σ (h.set g (match r with | some (i, _) => .map (dropAt es i) clock | none => .map es clock)) w' := by
  obtain ⟨pl, es', k1, rfl, k3, k4⟩ := map_live hr hg hm
  obtain ⟨a1, a2⟩ := findA_rel (d := d) k4 hf
  cases r with
  | none =>
    refine ⟨_, ?_, map_put (es2' := es') (clock2 := clock) hr hg k1 k3 k4⟩
    simp [Builtin.delete_, run_underlying ht, getObj, setObj, Sem.run, k3, run_checkKey hk, Instr.findKey, run_underlying hk, a1 rfl]
  | some x =>
    obtain ⟨j, u⟩ := x
    obtain ⟨_, u', b2, b3, e0, b4, b5, b6⟩ := a2 j u rfl
    have hsz : j < es'.size := by
      simp only [Nat.sub_zero] at b4
      have := (List.getElem?_eq_some_iff.1 b4).1
      have h2 := k4.1
      simp at h2; omega
    refine ⟨_, ?_, map_put (es2' := es'.eraseIdxIfInBounds j) (clock2 := clock) hr hg k1 k3 ?_⟩
    · simp [Builtin.delete_, run_underlying ht, getObj, setObj, Sem.run, k3, run_checkKey hk, Instr.findKey, run_underlying hk, b2]
    · have hl : (es'.eraseIdxIfInBounds j).toList = es'.toList.eraseIdx j := by
        simp [Array.eraseIdxIfInBounds, hsz]
      rw [hl]
      simp only [dropAt_eq]
      refine ⟨?_, fun i x y hx hy => ?_⟩
      · rw [List.length_eraseIdx, List.length_eraseIdx, k4.1]
      · rw [List.getElem?_eraseIdx] at hx hy
        split at hx
        · rename_i hi
          rw [if_pos hi] at hy
          exact k4.2 i x y hx hy
        · rename_i hi
          rw [if_neg hi] at hy
          exact k4.2 _ x y hx hy
end

theorem clear_rel (hr : HRel P B σ h w) {t kt e ty : TypeId} {ts : List TypeId} (ht : P.underlying t = some (.map kt e)) {g : Nat} {m' : Value} {es : List MapEntry} {clock : Nat} (hg : h.get g = some (.map es clock)) (hm : VRel σ (.map (some g)) m') :
    ∃ w', (Builtin.clear_ (t :: ts).toArray ty #[m']).run P w = .ok (.tuple #[]) w' ∧ Evo P B σ h w σ (h.set g (.map [] clock)) w' := by
  obtain ⟨pl, es', k1, rfl, k3, k4⟩ := map_live hr hg hm
  refine ⟨_, ?_, map_put (es2' := #[]) (clock2 := clock) hr hg k1 k3 ERel.nil⟩
  simp [Builtin.clear_, run_underlying ht, getObj, setObj, Sem.run, k3]

end
end Go.Am
