/-
  The abstract machine: regions that draw their order (4): what makes memory, in a world, at whatever group.
-/
import Derived.Test.YtdhpgfhidldmgaaAmDraw3
namespace Go.Am
open Go.RowKit

/-- An operation lays one new block; it holds the object, wherever in the abstract heap that is laid. -/
def Made (P : Program) (σ : Nat → Option Pl) (w : World) (s : Sem Next) (ob : AObj) (f : Nat → Value) : Prop :=
  ∃ O n w' cv, s.run P w = .ok (.value cv) w' ∧ w'.heap = w.heap.push O ∧ (w'.os = w.os ∧ w'.tape = w.tape ∧ w'.output = w.output) ∧
    (∀ σ', Le σ σ' → ORel P σ' ⟨w.heap.size, 0, n⟩ ob w') ∧ ∀ σ' g, σ' g = some ⟨w.heap.size, 0, n⟩ → VRel σ' (f g) cv

section
variable {P : Program} {B : Nat} {σ : Nat → Option Pl} {h : AHeap} {w : World}

theorem made_row {s : Sem Value} {xs ys extra : List Value} {e : TypeId} {f : Nat → Value} {cv : Value} (hl : LRel σ xs ys) (hs : s.run P w = .ok cv (w.alloc (.cells (ys ++ extra).toArray e)))
    (hv : ∀ σ' g, σ' g = some ⟨w.heap.size, 0, ys.length + extra.length⟩ → VRel σ' (f g) cv) : Made P σ w (do pure (.value (← s))) (.row xs true 0) f := by
  refine ⟨.cells (ys ++ extra).toArray e, ys.length + extra.length, w.alloc (.cells (ys ++ extra).toArray e), cv, by simp [hs], rfl, ⟨rfl, rfl, rfl⟩, fun σ' hle => ?_, hv⟩
  refine ⟨(ys ++ extra).toArray, e, (0, 0), by show (w.heap.push _)[w.heap.size]? = _; simp, by simp, by simp [hl.1], fun i x hx => ?_, fun _ => rfl⟩
  obtain ⟨y, a, b⟩ := hl.get hx
  refine ⟨y, ?_, b.mono hle⟩
  have hi : i < ys.length := (List.getElem?_eq_some_iff.1 a).1
  simp only [Nat.zero_add, List.getElem?_toArray]
  rw [List.getElem?_append_left hi]
  exact a

theorem mkSlice_made {t e : TypeId} {c l cp : Nat} {zs : List Value} {k k' : IntKind} (ht : P.underlying t = some (.slice e)) (he : telem P e = some c) (hz : tzeros P e = some zs)
    (h1 : l ≤ cp) (h2 : cp ≤ room) :
    Made P σ w (do pure (.value (← Instr.makeSlice t (.int k l) (.int k' cp)))) (.row (repl zs l) true 0) (fun g => .slice (some ⟨g, 0, none⟩) l c) := by
  obtain ⟨i, z, hi, hsz, hc0, hb1, hb2, hzz, hzc⟩ := telem_info he
  obtain ⟨i', z', hi', hz', rfl, hzs, hcl⟩ := tzeros_info hz
  rw [hi] at hi'; cases hi'
  rw [hzz] at hz'; cases hz'
  have hroom : room = 4294967296 := rfl
  have hl : (IntKind.i64.wrap (l : Int)) = l := IntWalk.i64_in _ (by omega)
  have hcp : (IntKind.i64.wrap (cp : Int)) = cp := IntWalk.i64_in _ (by omega)
  have hbig : ¬ ((281474976710656 : Int) < (i.bytes : Int) * (cp : Int)) := by
    have : i.bytes * cp ≤ 1024 * 4294967296 := Nat.mul_le_mul hb2 (by omega)
    have h3 : ((i.bytes * cp : Nat) : Int) ≤ ((1024 * 4294967296 : Nat) : Int) := Int.ofNat_le.2 this
    rw [Int.natCast_mul] at h3
    omega
  have hcl2 : LRel σ (repl z.cells.toList l) ((repl z.cells.toList l)) := by
    refine LRel.closed σ ?_
    clear hcp hl h1
    induction l with
    | zero => rfl
    | succ l ih => simp only [repl, closedL, List.all_append, Bool.and_eq_true]; exact ⟨hcl, ih⟩
  have hsplit : repl z.cells.toList cp = repl z.cells.toList l ++ repl z.cells.toList (cp - l) := by
    have : ∀ a b, repl z.cells.toList (a + b) = repl z.cells.toList a ++ repl z.cells.toList b := fun a b => by
      induction a with
      | zero => simp [repl]
      | succ a ih => rw [Nat.succ_add]; simp [repl, ih]
    rw [← this]; congr 1; omega
  have hmade : ((Array.range (cp * i.size)).map (z.cells[· % z.cells.size]!)) = (repl z.cells.toList l ++ repl z.cells.toList (cp - l)).toArray := by
    apply Array.ext'
    rw [← hsplit, ← repl_made z.cells (by omega) cp]
    simp [hzs]
  refine made_row (extra := repl z.cells.toList (cp - l)) (e := e) (cv := .slice (some ⟨w.heap.size, 0, none⟩) l cp) hcl2 ?_ fun σ' g hg => VRel.slice (pl := ⟨w.heap.size, 0, _⟩) hg hc0 h1 ?_
  · rw [← hmade]
    by_cases hn : cp = 0
    · subst hn
      have : l = 0 := by omega
      subst this
      have w0 : IntKind.i64.wrap 0 = 0 := by decide
      have hr0 : Array.range 0 = #[] := rfl
      simp [Instr.makeSlice, asInt, asIntOf, run_underlying ht, typeInfo, hi, run_size hi, newRow, w0, hr0]
    · have hn2 : ¬ (cp * i.size = 0) := by
        intro h0
        rcases Nat.mul_eq_zero.1 h0 with h | h <;> omega
      have hneg : ¬ ((cp : Int) < 0) := by omega
      have hneg2 : ¬ ((l : Int) < 0) := by omega
      have hneg3 : ¬ cp < l := by omega
      have hn3 : ¬ i.size = 0 := by omega
      simp [Instr.makeSlice, asInt, asIntOf, run_underlying ht, typeInfo, hi, run_size hi, newRow, hl, hcp, hbig, zeroValue, hzz, hneg, hneg2, hneg3]
      intro h0
      exact absurd h0 hn2
  · simp only [Nat.zero_add, repl_length]
    rw [← Nat.add_mul]
    have : l + (cp - l) = cp := by omega
    rw [this]
    have : z.cells.toList.length = c := by simpa using hzc
    rw [this]
    exact Nat.le_refl _


theorem made_builtin {b : Builtin} {args : List Operand} {ts : List TypeId} {op : AOp} {t : Trie Value} (hc : cBuiltin P b args ts = some op) : madeA t op = none := by
  unfold cBuiltin at hc
  simp only [Bool.cond_eq_ite] at hc
  repeat' split at hc
  all_goals first
    | (cases hc; done)
    | (cases hc; rfl)
    | (simp only [Option.map_eq_some_iff] at hc; obtain ⟨_, _, rfl⟩ := hc; rfl)

theorem made_rel (hr : HRel P B σ h w) {t : Trie Value} {a : Act} (ht : ∀ k, VRel σ (tmGet t k) (a.tmps.getD k Go.undef)) {o : Oper} {op : AOp} (hc : cOp P o = some op) {ob : AObj} {f : Nat → Value}
    (ho : madeA t op = some (ob, f)) : Made P σ w (execOp a.eval o) ob f := by
  unfold cOp at hc
  cases hok : opdsOk P o.op.operands.toList with
  | false => simp [hok] at hc
  | true =>
  simp only [hok, Bool.not_true, cond_false] at hc
  have hop : ∀ x ∈ o.op.operands.toList, opdOk P x = true := fun x hx => List.all_eq_true.1 hok x hx
  clear hok
  have E : ∀ x ∈ o.op.operands.toList, VRel σ (ev t x) (a.eval x) := fun x hx => ev_rel hr ht (hop x hx)
  unfold execOp
  cases hq : o.op with
  | alloc e =>
    simp only [hq] at hc
    cases hz : tzeros P e with
    | none => simp [hz] at hc
    | some zs =>
      simp only [hz, Option.map_some, Option.some.injEq] at hc; subst hc
      obtain ⟨i, z, hi, hzz, rfl, hzs, hcl⟩ := tzeros_info hz
      simp only [madeA, Option.some.injEq, Prod.mk.injEq] at ho
      obtain ⟨rfl, rfl⟩ := ho
      refine made_row (extra := []) (e := e) (cv := .pointer (some ⟨w.heap.size, 0, none⟩)) (LRel.closed σ hcl) ?_ fun σ' g hg => VRel.ptr (off := 0) hg
      simp [Instr.alloc, zeroValue, typeInfo, hi, hzz, newVar, newRow]
  | box e x =>
    simp only [hq, Option.some.injEq] at hc; subst hc
    simp only [madeA, Option.some.injEq, Prod.mk.injEq] at ho
    obtain ⟨rfl, rfl⟩ := ho
    refine made_row (extra := []) (e := e) (cv := .pointer (some ⟨w.heap.size, 0, none⟩)) (E x (by simp [hq, Op.operands])).cells ?_ fun σ' g hg => VRel.ptr (off := 0) hg
    simp [Instr.box, newVar, newRow]
  | makeMap ty r =>
    simp only [hq] at hc
    cases r with
    | some r => simp at hc
    | none =>
      simp only at hc
      split at hc
      · rename_i k e hu
        simp only [Option.some.injEq] at hc; subst hc
        simp only [madeA, Option.some.injEq, Prod.mk.injEq] at ho
        obtain ⟨rfl, rfl⟩ := ho
        exact ⟨.map #[] 0, 0, w.alloc (.map #[] 0), .map (some w.heap.size), by simp [Instr.makeMap], rfl, ⟨rfl, rfl, rfl⟩, fun σ' _ => ⟨#[], by show (w.heap.push _)[w.heap.size]? = _; simp, ERel.nil⟩,
          fun σ' g hg => VRel.map (pl := ⟨w.heap.size, 0, 0⟩) hg⟩
      · cases hc
  | buildSlice ty len parts =>
    simp only [hq] at hc
    have hparts : ∀ x ∈ parts.toList, opdOk P x.2 = true := fun x hx => hop x.2 (by simp [hq, Op.operands]; exact ⟨x.1, by simpa using hx⟩)
    cases hse : sliceElem P ty with
    | none => simp [hse] at hc
    | some e =>
    have hu : P.underlying ty = some (.slice e) := by
      unfold sliceElem at hse; split at hse
      · cases hse; assumption
      · cases hse
    simp only [hse] at hc
    split at hc
    · rename_i n zs he hz
      cases hb : Nat.ble (len * n) 65536 with
      | false => simp [hb] at hc
      | true =>
      simp only [hb, cond_true] at hc
      cases hps : partsOf (fun i => some (i * n, n)) parts.toList with
      | none => simp [hps] at hc
      | some ps =>
        simp only [hps, Option.map_some, Option.some.injEq] at hc; subst hc
        obtain ⟨i, z, hi, hsz, hc0, _, _, hzz, hzc⟩ := telem_info he
        obtain ⟨i', z', hi', hzz', rfl, hzs, hcl⟩ := tzeros_info hz
        rw [hi] at hi'; cases hi'
        rw [hzz] at hzz'; cases hzz'
        subst hsz
        simp only [madeA] at ho
        cases hf : fillA (repl z.cells.toList len) (evParts t ps) with
        | none => simp [hf] at ho
        | some cells =>
          simp only [hf, Option.map_some, Option.some.injEq, Prod.mk.injEq] at ho
          obtain ⟨rfl, rfl⟩ := ho
          obtain ⟨q1, q2⟩ := parts_rel hr ht hparts hps
          have hrc : LRel σ (repl z.cells.toList len) (repl z.cells.toList len) := LRel.closed σ (repl_closed hcl len)
          obtain ⟨ys, f1, f2⟩ := run_fill (parts.toList.map fun x => (x.1, a.eval x.2)) (fun i_1 => some (i_1 * i.size, i.size)) _ _ (evParts t ps) cells hrc q1 q2 hf
          have hlen : ys.length = len * i.size := by
            have hfl : ∀ (qs : List (Nat × Nat × Value)) (xs r : List Value), fillA xs qs = some r → r.length = xs.length := fun qs => by
              induction qs with
              | nil => intro xs r h; simp [fillA] at h; rw [h]
              | cons q qs ihq =>
                intro xs r h
                obtain ⟨o1, n1, u1⟩ := q
                simp only [fillA] at h
                cases hbb : (Nat.beq u1.cells.size n1 && Nat.ble (o1 + n1) xs.length) with
                | false => simp [hbb] at h
                | true =>
                  simp only [hbb, cond_true] at h
                  simp only [Bool.and_eq_true] at hbb
                  have b1 := Nat.eq_of_beq_eq_true hbb.1
                  have b2 := Nat.le_of_ble_eq_true hbb.2
                  rw [ihq _ _ h]
                  simp [putAt]; omega
            rw [← f2.1, hfl _ _ _ hf, repl_length]
            simp [hzc]
          refine made_row (extra := []) (e := e) (cv := .slice (some ⟨w.heap.size, 0, none⟩) len len) f2 ?_ fun σ' g hg => VRel.slice (pl := ⟨w.heap.size, 0, ys.length + 0⟩) hg hc0 (Nat.le_refl _) (by simp [hlen])
          have hbig : ¬ (16777216 < len * i.size) := by have := Nat.le_of_ble_eq_true hb; omega
          have hmade : ((Array.range (len * i.size)).map (z.cells[· % z.cells.size]!)) = (repl z.cells.toList len).toArray := by
            apply Array.ext'
            rw [← repl_made z.cells (by omega) len]
            simp [hzc]
          by_cases hl0 : len * i.size = 0
          · have hl1 : len = 0 := by rcases Nat.mul_eq_zero.1 hl0 with h | h <;> omega
            subst hl1
            have hr0 : Array.range 0 = #[] := rfl
            simp only [repl] at f1
            simp [Instr.buildSlice, run_underlying hu, run_size hi, newRow, hr0, f1]
          · simp [Instr.buildSlice, run_underlying hu, run_size hi, zeroValue, typeInfo, hi, hzz, hbig, newRow, hmade, f1]
            intro h0
            exact absurd h0 hl0
    · cases hc
  | makeSlice ty l c =>
    simp only [hq] at hc
    have e1 := E l (by simp [hq, Op.operands])
    have e2 := E c (by simp [hq, Op.operands])
    cases hse : sliceElem P ty with
    | none => simp [hse] at hc
    | some e =>
      have hu : P.underlying ty = some (.slice e) := by
        unfold sliceElem at hse; split at hse
        · cases hse; assumption
        · cases hse
      simp only [hse] at hc
      split at hc
      · rename_i n zs he hz
        simp only [Option.some.injEq] at hc; subst hc
        simp only [madeA] at ho
        split at ho
        · rename_i ln cn h1 h2
          cases hb : (Nat.ble ln cn && Nat.ble cn room) with
          | false => simp [hb] at ho
          | true =>
            simp only [hb, cond_true, Option.some.injEq, Prod.mk.injEq] at ho
            simp only [Bool.and_eq_true] at hb
            obtain ⟨rfl, rfl⟩ := ho
            obtain ⟨k, hk⟩ := asN_rel e1 h1
            obtain ⟨k', hk'⟩ := asN_rel e2 h2
            dsimp only
            rw [hk, hk']
            exact mkSlice_made hu he hz (Nat.le_of_ble_eq_true hb.1) (Nat.le_of_ble_eq_true hb.2)
        · cases ho
      · cases hc
  | call c =>
    exfalso
    simp only [hq] at hc
    split at hc
    · cases hc; cases ho
    · rw [made_builtin hc] at ho; cases ho
    · cases hc
  | defer c =>
    exfalso
    simp only [hq] at hc
    repeat' split at hc
    all_goals first
      | (cases hc; done)
      | (cases hc; cases ho; done)
  | _ =>
    exfalso
    try simp only [hq, Bool.cond_eq_ite] at hc
    repeat' split at hc
    all_goals first
      | (cases hc; done)
      | (cases hc; cases ho; done)
      | (simp only [Option.map_eq_some_iff] at hc; obtain ⟨_, _, rfl⟩ := hc; cases ho; done)
      | (simp_all; done)

end
end Go.Am
