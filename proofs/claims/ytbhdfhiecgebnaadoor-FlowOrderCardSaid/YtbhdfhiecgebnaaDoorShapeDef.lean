/- Programs as plain data, and what the check of their shape comes to: definitions. -/
import Derived.Test.YtbhdfhiecgebnaaDoorTypesWalk2
namespace Go.Proofs.YtbhdfhiecgebnaaDoor
open Go.Am
set_option linter.unusedVariables false
set_option linter.unusedSimpArgs false

structure LIns where
  op : Int
  ty : Int
  a : Int
  b : Int
  n : Int
  args : List Int
  frm : List Int
structure LEnd where
  kind : Int
  a : Int
  to : Int
  els : Int
structure LBlk where
  ins : List LIns
  fin : LEnd
structure LFn where
  sig : Int
  blocks : List LBlk
instance : Inhabited LIns := ⟨⟨0, 0, 0, 0, 0, [], []⟩⟩
instance : Inhabited LBlk := ⟨⟨[], ⟨0, 0, 0, 0⟩⟩⟩
instance : Inhabited LFn := ⟨⟨0, []⟩⟩
abbrev MAX : Int := 9223372036854775807
def RIns (h : AHeap) (cs : List Value) (x : LIns) : Prop := ∃ va vf, cs = [.int .u8 x.op, I x.ty, I x.a, I x.b, I x.n, va, vf] ∧ SlI h va x.args ∧ SlI h vf x.frm ∧ (x.args.length : Int) ≤ 1152921504606846976 ∧ (x.frm.length : Int) ≤ 1152921504606846976 ∧ 0 ≤ x.op ∧ x.op ≤ 255
theorem RIns.ext {h h' cs x} (r : RIns h cs x) (e : Ext h h') : RIns h' cs x := let ⟨va, vf, a, b, c, d⟩ := r; ⟨va, vf, a, b.ext e, c.ext e, d⟩
def RBlk (h : AHeap) (cs : List Value) (x : LBlk) : Prop := ∃ vi, cs = [vi, .int .u8 x.fin.kind, I x.fin.a, I x.fin.to, I x.fin.els] ∧ SlR 7 RIns h vi x.ins ∧ (x.ins.length : Int) ≤ 1152921504606846976
theorem RBlk.ext {h h' cs x} (r : RBlk h cs x) (e : Ext h h') : RBlk h' cs x := let ⟨va, a, b, c⟩ := r; ⟨va, a, SlR.ext (fun _ _ r => RIns.ext r e) b e, c⟩
def RFn (h : AHeap) (cs : List Value) (x : LFn) : Prop := ∃ vb, cs = [I x.sig, vb] ∧ SlR 5 RBlk h vb x.blocks ∧ (x.blocks.length : Int) ≤ 1152921504606846976
theorem RFn.ext {h h' cs x} (r : RFn h cs x) (e : Ext h h') : RFn h' cs x := let ⟨va, a, b, c⟩ := r; ⟨va, a, SlR.ext (fun _ _ r => RBlk.ext r e) b e, c⟩
abbrev SlN (h : AHeap) (v : Value) (l : List LIns) : Prop := SlR 7 RIns h v l
abbrev SlB (h : AHeap) (v : Value) (l : List LBlk) : Prop := SlR 5 RBlk h v l
abbrev SlF (h : AHeap) (v : Value) (l : List LFn) : Prop := SlR 2 RFn h v l
theorem SlN.ext {h h' v T} (s : SlN h v T) (e : Ext h h') : SlN h' v T := SlR.ext (fun _ _ r => RIns.ext r e) s e
theorem SlB.ext {h h' v T} (s : SlB h v T) (e : Ext h h') : SlB h' v T := SlR.ext (fun _ _ r => RBlk.ext r e) s e
theorem SlF.ext {h h' v T} (s : SlF h v T) (e : Ext h h') : SlF h' v T := SlR.ext (fun _ _ r => RFn.ext r e) s e

theorem slr_at {α : Type} [Inhabited α] {c : Nat} {R : AHeap → List Value → α → Prop} {h : AHeap} {v : Value} {T : List α} {i : Nat} (s : SlR c R h v T) (hi : i < T.length) : ∃ cs, R h cs (T.getD i default) ∧ Piece h v (i * c) cs ∧ IsSl v := by
  obtain ⟨cs, a, _, c⟩ := s.at hi
  exact ⟨cs, by simpa [List.getD, List.getElem?_eq_getElem hi] using a, c, s.some hi⟩
theorem cells_slice (a n k) : (Value.slice a n k).cells = #[.slice a n k] := rfl

/-- The program's own table stands as it is laid. -/
def Tbl (h : AHeap) : Prop := rowOf h 0 = some tblV ∧ 0 < h.n
theorem Tbl.ext {h h'} (t : Tbl h) (e : Ext h h') : Tbl h' := ⟨e.row t.2 t.1, Nat.lt_of_lt_of_le t.2 e.n⟩
theorem tbl0 : (cut tblV (0 + 0 * 6) 6).bind (ofCells true) = some (.agg (hasV (hasT.getD 0 (false, false, false, false, false, false))).toArray) := by kernel_rfl
theorem tbl1 : (cut tblV (0 + 1 * 6) 6).bind (ofCells true) = some (.agg (hasV (hasT.getD 1 (false, false, false, false, false, false))).toArray) := by kernel_rfl
theorem tbl2 : (cut tblV (0 + 2 * 6) 6).bind (ofCells true) = some (.agg (hasV (hasT.getD 2 (false, false, false, false, false, false))).toArray) := by kernel_rfl
theorem tbl3 : (cut tblV (0 + 3 * 6) 6).bind (ofCells true) = some (.agg (hasV (hasT.getD 3 (false, false, false, false, false, false))).toArray) := by kernel_rfl
theorem tbl4 : (cut tblV (0 + 4 * 6) 6).bind (ofCells true) = some (.agg (hasV (hasT.getD 4 (false, false, false, false, false, false))).toArray) := by kernel_rfl
theorem tbl5 : (cut tblV (0 + 5 * 6) 6).bind (ofCells true) = some (.agg (hasV (hasT.getD 5 (false, false, false, false, false, false))).toArray) := by kernel_rfl
theorem tbl6 : (cut tblV (0 + 6 * 6) 6).bind (ofCells true) = some (.agg (hasV (hasT.getD 6 (false, false, false, false, false, false))).toArray) := by kernel_rfl
theorem tbl7 : (cut tblV (0 + 7 * 6) 6).bind (ofCells true) = some (.agg (hasV (hasT.getD 7 (false, false, false, false, false, false))).toArray) := by kernel_rfl
theorem tbl8 : (cut tblV (0 + 8 * 6) 6).bind (ofCells true) = some (.agg (hasV (hasT.getD 8 (false, false, false, false, false, false))).toArray) := by kernel_rfl
theorem tbl9 : (cut tblV (0 + 9 * 6) 6).bind (ofCells true) = some (.agg (hasV (hasT.getD 9 (false, false, false, false, false, false))).toArray) := by kernel_rfl
theorem tbl10 : (cut tblV (0 + 10 * 6) 6).bind (ofCells true) = some (.agg (hasV (hasT.getD 10 (false, false, false, false, false, false))).toArray) := by kernel_rfl
theorem tbl11 : (cut tblV (0 + 11 * 6) 6).bind (ofCells true) = some (.agg (hasV (hasT.getD 11 (false, false, false, false, false, false))).toArray) := by kernel_rfl
theorem tbl12 : (cut tblV (0 + 12 * 6) 6).bind (ofCells true) = some (.agg (hasV (hasT.getD 12 (false, false, false, false, false, false))).toArray) := by kernel_rfl
theorem tbl13 : (cut tblV (0 + 13 * 6) 6).bind (ofCells true) = some (.agg (hasV (hasT.getD 13 (false, false, false, false, false, false))).toArray) := by kernel_rfl
theorem tbl14 : (cut tblV (0 + 14 * 6) 6).bind (ofCells true) = some (.agg (hasV (hasT.getD 14 (false, false, false, false, false, false))).toArray) := by kernel_rfl
theorem tbl15 : (cut tblV (0 + 15 * 6) 6).bind (ofCells true) = some (.agg (hasV (hasT.getD 15 (false, false, false, false, false, false))).toArray) := by kernel_rfl
theorem tbl16 : (cut tblV (0 + 16 * 6) 6).bind (ofCells true) = some (.agg (hasV (hasT.getD 16 (false, false, false, false, false, false))).toArray) := by kernel_rfl
theorem tbl17 : (cut tblV (0 + 17 * 6) 6).bind (ofCells true) = some (.agg (hasV (hasT.getD 17 (false, false, false, false, false, false))).toArray) := by kernel_rfl
theorem tbl18 : (cut tblV (0 + 18 * 6) 6).bind (ofCells true) = some (.agg (hasV (hasT.getD 18 (false, false, false, false, false, false))).toArray) := by kernel_rfl
theorem tbl19 : (cut tblV (0 + 19 * 6) 6).bind (ofCells true) = some (.agg (hasV (hasT.getD 19 (false, false, false, false, false, false))).toArray) := by kernel_rfl
theorem tbl20 : (cut tblV (0 + 20 * 6) 6).bind (ofCells true) = some (.agg (hasV (hasT.getD 20 (false, false, false, false, false, false))).toArray) := by kernel_rfl
theorem tbl21 : (cut tblV (0 + 21 * 6) 6).bind (ofCells true) = some (.agg (hasV (hasT.getD 21 (false, false, false, false, false, false))).toArray) := by kernel_rfl
theorem tbl22 : (cut tblV (0 + 22 * 6) 6).bind (ofCells true) = some (.agg (hasV (hasT.getD 22 (false, false, false, false, false, false))).toArray) := by kernel_rfl
theorem tbl_at : ∀ i, i < 23 → (cut tblV (0 + i * 6) 6).bind (ofCells true) = some (.agg (hasV (hasT.getD i (false, false, false, false, false, false))).toArray) := by
  intro i hi
  match i, hi with
  | 0, _ => exact tbl0
  | 1, _ => exact tbl1
  | 2, _ => exact tbl2
  | 3, _ => exact tbl3
  | 4, _ => exact tbl4
  | 5, _ => exact tbl5
  | 6, _ => exact tbl6
  | 7, _ => exact tbl7
  | 8, _ => exact tbl8
  | 9, _ => exact tbl9
  | 10, _ => exact tbl10
  | 11, _ => exact tbl11
  | 12, _ => exact tbl12
  | 13, _ => exact tbl13
  | 14, _ => exact tbl14
  | 15, _ => exact tbl15
  | 16, _ => exact tbl16
  | 17, _ => exact tbl17
  | 18, _ => exact tbl18
  | 19, _ => exact tbl19
  | 20, _ => exact tbl20
  | 21, _ => exact tbl21
  | 22, _ => exact tbl22
  | n + 23, h => exact absurd h (by omega)

def belowL (n m : Int) : Bool := decide (0 ≤ n) && decide (n < m)
def allL (l : List Int) (m : Int) : Bool := l.all fun n => belowL n m
structure LSz where
  types : Int
  funcs : Int
  regs : Int
  blocks : Int
def numberL (x : LIns) (s : LSz) : Bool :=
  if x.op = 3 ∨ x.op = 18 then decide (0 ≤ x.n) && decide (x.n < s.funcs) else if x.op = 14 then decide (0 ≤ x.n) && decide (x.n < 8) else true
def manyL (l : List LBlk) : Int := (l.map fun b => (b.ins.length : Int)).sum
def endL (x : LEnd) (s : LSz) : Bool :=
  if x.kind = 1 then (decide (x.a = 0) && decide (x.els = 0)) && belowL x.to s.blocks
  else if x.kind = 2 then belowL x.a s.regs && belowL x.to s.blocks && belowL x.els s.blocks
  else if x.kind = 3 then (decide (x.to = 0) && decide (x.els = 0)) && belowL x.a s.regs
  else false
/-- What is wrong with an instruction at once. -/
def oddL (x : LIns) (s : LSz) : Bool :=
  let q := hasOf x.op
  ((((decide (q = (false, false, false, false, false, false)) || (q.1 && !belowL x.a s.regs)) || (q.2.1 && !belowL x.b s.regs)) || !allL x.args s.regs) || !numberL x s)
def noneL (x : LIns) : Bool :=
  let q := hasOf x.op
  ((((!q.1 && !decide (x.a = 0)) || (!q.2.1 && !decide (x.b = 0))) || (!q.2.2.1 && !decide (x.n = 0))) || (!q.2.2.2.1 && decide (0 < (x.args.length : Int)))) || (!q.2.2.2.2.1 && decide (0 < (x.frm.length : Int)))
def kindL (x : LIns) (s : LSz) : Bool :=
  let q := hasOf x.op
  (q.2.2.2.2.2 && belowL x.ty s.types) || (!q.2.2.2.2.2 && decide (x.ty = 0))
def insL (x : LIns) (s : LSz) : Bool :=
  !oddL x s && (if (hasOf x.op).2.2.2.2.1 then !noneL x && kindL x s && allL x.frm s.blocks && decide (x.frm.length = x.args.length) && decide (1 ≤ x.frm.length) && decide (x.frm.length ≤ 16) else !noneL x && kindL x s && decide (x.args.length ≤ 4))
def blkL (b : LBlk) (s : LSz) : Bool := (b.ins.any fun x => !insL x s) || !endL b.fin s
def szL (T : List LType) (nf : Int) (f : LFn) : LSz := ⟨T.length, nf, ((T.getD f.sig.toNat default).parts.length : Int) + manyL f.blocks, f.blocks.length⟩
def badL (T : List LType) (f : LFn) : Bool :=
  (((!belowL f.sig T.length || !decide ((T.getD f.sig.toNat default).kind = 3)) || !belowL ((f.blocks.length : Int) - 1) 16) || decide (128 < manyL f.blocks))
def fnL (T : List LType) (nf : Int) (f : LFn) : Bool := if badL T f then false else !(f.blocks.any fun b => blkL b (szL T nf f))
def progL (T : List LType) (F : List LFn) : Int :=
  if checkL T ≠ 0 then checkL T else if (!belowL ((F.length : Int) - 1) 8 || F.any fun f => !fnL T F.length f) then 60 else 0
def askedL (T : List LType) (F : List LFn) (f : Int) : Int × Int :=
  if progL T F ≠ 0 then (0, progL T F) else if belowL f F.length then (((T.getD (F.getD f.toNat default).sig.toNat default).parts.length : Int), 0) else (0, 2)
def regsL (T : List LType) (F : List LFn) (f : Int) : Int × Int :=
  if (askedL T F f).2 ≠ 0 then (0, (askedL T F f).2) else ((askedL T F f).1 + manyL (F.getD f.toNat default).blocks, 0)
/-- Programs that are not great. -/
structure Small (T : List LType) (F : List LFn) : Prop where
  types : T.length ≤ 100
  parts : ∀ x ∈ T, x.parts.length ≤ 100
  funcs : F.length ≤ 1000
  blocks : ∀ f ∈ F, f.blocks.length ≤ 1000
  ins : ∀ f ∈ F, ∀ b ∈ f.blocks, b.ins.length ≤ 1000
end Go.Proofs.YtbhdfhiecgebnaaDoor
