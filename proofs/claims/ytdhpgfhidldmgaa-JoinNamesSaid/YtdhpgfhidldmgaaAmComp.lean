/-
  The abstract machine: from the model's code to compiled code.
-/
import Derived.Test.YtdhpgfhidldmgaaAmDef
namespace Go.Am

def tsize (P : Program) (t : TypeId) : Option Nat := (P.info? t).map (·.size)
def tagg (P : Program) (t : TypeId) : Option Bool :=
  match P.underlying t with
  | some (.struct _) | some (.array _ _) => some true
  | some _ => some false
  | none => none
def tzero (P : Program) (t : TypeId) : Option Value := (P.info? t).bind (·.zero)
/-- A type's zero value as cells, no address among them. -/
def tzeros (P : Program) (t : TypeId) : Option (List Value) :=
  match tzero P t, tsize P t with
  | some v, some n => bif closedL v.cells.toList && Nat.beq v.cells.size n then some v.cells.toList else none
  | _, _ => none
/-- An element type: its number of cells, from 1 on, and of bytes, from 1 to 1024; its zero value is of that many cells. -/
def telem (P : Program) (e : TypeId) : Option Nat :=
  match P.info? e with
  | some i => bif Nat.ble 1 i.size && Nat.ble 1 i.bytes && Nat.ble i.bytes 1024 && (match i.zero with | some z => Nat.beq z.cells.size i.size | none => false) then some i.size else none
  | none => none
def sliceElem (P : Program) (t : TypeId) : Option TypeId :=
  match P.underlying t with
  | some (.slice e) => some e
  | _ => none

def opdOk (P : Program) : Operand → Bool
  | .const v => closedV v
  | .global g => Nat.ble (g + 1) P.globals.size
  | _ => true
def opdsOk (P : Program) (l : List Operand) : Bool := l.all (opdOk P)

def partsOf (place : Nat → Option (Nat × Nat)) : List (Nat × Operand) → Option (List (Nat × Nat × Operand))
  | [] => some []
  | (i, x) :: l => match place i, partsOf place l with
    | some (o, n), some r => some ((o, n, x) :: r)
    | _, _ => none

def placeOf (P : Program) (fs : Array Field) (i : Nat) : Option (Nat × Nat) :=
  match fs[i]? with
  | some f => (tsize P f.type).map fun n => (f.offset, n)
  | none => none

def cBuiltin (P : Program) (b : Builtin) (args : List Operand) (ts : List TypeId) : Option AOp :=
  match b, args, ts with
  | .len, [x], [t] => match P.underlying t with
    | some (.array n _) => some (.lenC n)
    | some (.pointer a) => match P.underlying a with
      | some (.array n _) => some (.lenC n)
      | _ => none
    | some .string => some (.lenStr x)
    | some (.slice _) => some (.len x)
    | some (.map _ _) => some (.lenMap x)
    | _ => none
  | .append, [s, x], t :: u :: _ => match sliceElem P t with
    | some e => match telem P e, P.underlying u with
      | _, some (.int _) => none
      | some c, some (.slice e') => bif e' == e then some (.append c s x) else none
      | _, _ => none
    | none => none
  | .copy, [d, s], t :: _ => match sliceElem P t with
    | some e => (telem P e).map fun c => .copy c d s
    | none => none
  | .max, xs, _ => some (.maxmin true xs)
  | .min, xs, _ => some (.maxmin false xs)
  | .delete, [m, k], t :: _ => match P.underlying t with
    | some (.map kt _) => (match P.underlying kt with
      | some (.int _) => some (.delete m k)
      | _ => none)
    | _ => none
  | .clear, [m], t :: _ => match P.underlying t with
    | some (.map _ _) => some (.clear m)
    | _ => none
  | _, _, _ => none

def nilKind : TypeDesc → Option Nat
  | .slice _ => some 0
  | .map _ _ => some 1
  | .func _ _ _ => some 2
  | .pointer _ => some 3
  | .interface _ => some 4
  | _ => none
def isNilC : Nat → Operand → Bool
  | 0, .const (.slice none 0 0) => true
  | 1, .const (.map none) => true
  | 2, .const .nilFunc => true
  | 3, .const (.pointer none) => true
  | 4, .const .nilIface => true
  | _, _ => false

def cOp (P : Program) (o : Oper) : Option AOp :=
  bif !(opdsOk P o.op.operands.toList) then none else
  match o.op with
  | .move x | .assign x => some (.mov x)
  | .pick c a b => some (.pick c a b)
  | .alloc e => (tzeros P e).map .alloc
  | .box _ x => some (.box x)
  | .build t parts => match tzeros P t, P.underlying t with
    | some z, some (.struct fs) => bif !(fs.toList.all fun f => (tsize P f.type).isSome) then none else (partsOf (placeOf P fs) parts.toList).map (.build z)
    | some z, some (.array _ e) => match tsize P e with
      | some n => (partsOf (fun i => some (i * n, n)) parts.toList).map (.build z)
      | none => none
    | _, _ => none
  | .buildSlice t len parts => match sliceElem P t with
    | some e => match telem P e, tzeros P e with
      | some n, some z => bif Nat.ble (len * n) 65536 then (partsOf (fun i => some (i * n, n)) parts.toList).map (.buildSlice len n z) else none
      | _, _ => none
    | none => none
  | .load t x => match tagg P t, tsize P t with
    | some a, some n => some (.load a n x)
    | _, _ => none
  | .store t a x => (tsize P t).map fun n => .store n a x
  | .nilCheck x => some (.nilCheck x)
  | .binOp op t x y _ => match P.underlying t with
    | some (.int _) => some (.bin op x y)
    | some .bool => (match op with
      | .eql => some (.binB false x y)
      | .neq => some (.binB true x y)
      | _ => none)
    | some (.struct _) | some (.array _ _) | some .string | some (.float _) | some (.complex _) => some (.binP op t x y)
    | some d => match nilKind d with
      | some k => (match op, isNilC k x, isNilC k y with
        | .eql, _, true => some (.isNil k false x)
        | .neq, _, true => some (.isNil k true x)
        | .eql, true, _ => some (.isNil k false y)
        | .neq, true, _ => some (.isNil k true y)
        | _, _, _ => none)
      | none => none
    | none => none
  | .unOp op _ x => some (.un op x)
  | .convert s d x => match P.underlying s, P.underlying d with
    | some (.int _), some (.int k) => some (.conv k x)
    | some (.int _), some .string | some .string, some .string | some (.int _), some (.float _) | some (.float _), some (.float _) | some (.float _), some (.int _) => some (.convP s d x)
    | _, _ => none
  | .makeFunc fn first captured => some (.mkFunc fn first.toList captured.toList)
  | .makeMap t none => match P.underlying t with
    | some (.map _ _) => some .mkMap
    | _ => none
  | .makeSlice t l c => match sliceElem P t with
    | some e => match telem P e, tzeros P e with
      | some n, some z => some (.mkSlice n z l c)
      | _, _ => none
    | none => none
  | .slice t x lo hi mx => bif mx.isSome && hi.isNone then none else match P.underlying t with
    | some (.slice e) => (telem P e).map fun c => .slice c x lo hi mx
    | some .string => bif mx.isSome then none else some (.sliceStr x lo hi)
    | some (.array n e) => (telem P e).map fun c => .sliceArr n c x lo hi mx
    | _ => none
  | .fieldAddr t x f => match P.underlying t with
    | some (.struct fs) => match fs[f]? with
      | some f => match tsize P f.type with
        | some (_ + 1) => some (.fld f.offset x)
        | _ => none
      | none => none
    | _ => none
  | .field t x f => match P.underlying t with
    | some (.struct fs) => match fs[f]? with
      | some f => match tagg P f.type, tsize P f.type with
        | some a, some n => some (.part a f.offset n x)
        | _, _ => none
      | none => none
    | _ => none
  | .indexAddr t x i => match P.underlying t with
    | some (.slice e) => (telem P e).map fun c => .idx c x i
    | some (.array n e) => (telem P e).map fun c => .idxArr n c x i
    | _ => none
  | .index t x i => match P.underlying t with
    | some (.array n e) => match tagg P e, tsize P e with
      | some a, some c => some (.elem n a c x i)
      | _, _ => none
    | some .string => some (.elemStr x i)
    | _ => none
  | .lookup t m k ok => match P.underlying t with
    | some (.map kt e) => match P.underlying kt, tzero P e with
      | some (.int _), some z => bif closedL z.cells.toList then some (.lookup ok z m k) else none
      | _, _ => none
    | _ => none
  | .mapUpdate t m k v | .insert t m k v => match P.underlying t with
    | some (.map kt _) => (match P.underlying kt with
      | some (.int _) => some (.update m k v)
      | _ => none)
    | _ => none
  | .extract x i => some (.extract x i)
  | .call c => match c.callee with
    | .value f => some (.call f c.args.toList)
    | .builtin b => cBuiltin P b c.args.toList c.argTypes.toList
    | .invoke _ _ => none
  | .defer c => match c.callee with
    | .value f => some (.dfr f c.args.toList)
    | .builtin .clear => match c.args.toList, c.argTypes.toList with
      | [m], [t] => match P.underlying t with
        | some (.map _ _) => some (.dfrClear t o.type (c.args.map fun | .const _ => true | _ => false) m)
        | _ => none
      | _, _ => none
    | _ => none
  | _ => none

def cOper (P : Program) (nt : Nat) (ops : Array Oper) (o : Oper) : Option AOper :=
  bif (match o.dst with | some d => Nat.ble (d + 1) nt | none => true) then
    let op := (cOp P o).getD .stuck
    match o.guard with
      | none => some ⟨o.dst, none, op⟩
      | some (j, want) => match (ops[j]?).bind (·.dst) with
        | some s => some ⟨o.dst, some (s, want), op⟩
        | none => none
  else none
def cOpers (P : Program) (nt : Nat) (ops : Array Oper) : List Oper → Option (List AOper)
  | [] => some []
  | o :: l => match cOper P nt ops o, cOpers P nt ops l with
    | some a, some b => some (a :: b)
    | _, _ => none

def listO : Option Operand → List Operand
  | some x => [x]
  | none => []
/-- The operands that an operation looks at. -/
def opsA : AOp → List Operand
  | .stuck | .alloc _ | .lenC _ | .mkMap => []
  | .mov x | .un _ x | .conv _ x | .convP _ _ x | .box x | .load _ _ x | .fld _ x | .part _ _ _ x | .len x | .lenMap x | .lenStr x | .extract x _ | .nilCheck x | .isNil _ _ x | .clear x => [x]
  | .pick c a b => [c, a, b]
  | .bin _ x y | .binB _ x y | .binP _ _ x y | .store _ x y | .idx _ x y | .idxArr _ _ x y | .elem _ _ _ x y | .elemStr x y | .mkSlice _ _ x y | .append _ x y | .copy _ x y | .lookup _ _ x y | .delete x y => [x, y]
  | .update m k v => [m, k, v]
  | .build _ parts | .buildSlice _ _ _ parts => parts.map (·.2.2)
  | .slice _ x lo hi mx | .sliceArr _ _ x lo hi mx => x :: (listO lo ++ listO hi ++ listO mx)
  | .sliceStr x lo hi => x :: (listO lo ++ listO hi)
  | .maxmin _ xs => xs
  | .mkFunc _ first cap => first ++ cap
  | .call f args | .dfr f args => f :: args
  | .dfrClear _ _ _ m => [m]

def slotsOf (l : List Operand) : List Nat := l.filterMap fun | .tmp t => some t | _ => none
/-- The slots that an operation reads. -/
def namesOf (a : AOper) : List Nat := slotsOf (opsA a.op) ++ (match a.guard with | some (s, _) => [s] | none => [])

/-- Of each operation, as bits: which come ahead of it in every order. -/
def befs : List Oper → List Nat → List Nat
  | [], acc => acc
  | o :: l, acc => befs l (acc ++ [o.after.toList.foldl (fun s e => bif Region.binds .any e then s ||| 2 ^ e.on ||| acc.getD e.on 0 else s) 0])

def edgesOk (ops : Array Oper) : Bool :=
  ops.toList.zipIdx.all fun (o, i) => o.after.toList.all fun e => !Region.binds .any e || Nat.ble (e.on + 1) i

def pairOk (b : List Nat) (x y : Nat × AOper) : Bool :=
  let (i, ai) := x
  let (j, aj) := y
  (b.getD j 0).testBit i ||
    (!(Nat.beq (kindA aj.op) 2 && Nat.ble 2 (kindA ai.op)) &&
      (match ai.dst with
        | some d => !(namesOf aj).contains d && (match aj.dst with | some d' => !Nat.beq d d' | none => true)
        | none => true) &&
      (match aj.dst with
        | some d => !(namesOf ai).contains d
        | none => true))
def pairsOk (b : List Nat) : List (Nat × AOper) → Bool
  | [] => true
  | x :: l => l.all (pairOk b x) && pairsOk b l

def unOf (b : List Nat) (before : List (Nat × AOp)) (j : Nat) (op : AOp) : List Nat :=
  before.filterMap fun (i, o) => bif !(b.getD j 0).testBit i && ((Nat.beq (kindA o) 1 && Nat.beq (kindA op) 2) || (Nat.ble 2 (kindA o) && Nat.beq (kindA op) 1)) then some i else none
def unsOf (b : List Nat) : List (Nat × AOp) → Nat → List AOper → List (AOper × List Nat)
  | _, _, [] => []
  | before, j, a :: l => (a, unOf b before j a.op) :: unsOf b (before ++ [(j, a.op)]) (j + 1) l

def cDraw (ops : Array Oper) (as : List AOper) : Option ACode :=
  let b := befs ops.toList []
  bif edgesOk ops && pairsOk b ((List.range ops.size).zip as) then some (.regionC (unsOf b [] 0 as)) else none

def cCode (P : Program) (nt : Nat) : Code → Option ACode
  | .skip => some .skip
  | .region _ ops draw => match cOpers P nt ops ops.toList with
    | some as => bif draw then cDraw ops as else some (.region as)
    | none => none
  | .seq a b => match cCode P nt a, cCode P nt b with
    | some a, some b => some (.seq a b)
    | _, _ => none
  | .cond c a b => match opdOk P c, cCode P nt a, cCode P nt b with
    | true, some a, some b => some (.cond c a b)
    | _, _, _ => none
  | .block id b => (cCode P nt b).map (.block id)
  | .loop b => (cCode P nt b).map .loop
  | .rangeFunc f ps a b => match opdOk P f, cCode P nt a, cCode P nt b with
    | true, some a, some b => bif ps.toList.all (fun p => Nat.ble (p + 1) nt) then some (.rangeFunc f ps.toList a b) else none
    | _, _, _ => none
  | .exit id => some (.exit id)
  | .scope b => (cCode P nt b).map .scope
  | .label l => some (.label l)
  | .goto l => some (.goto l)
  | .ret => some .ret
  | .refuse _ => none

def cResults (P : Program) : List ResultVar → Option (List (Nat × Option (Bool × Nat)))
  | [] => some []
  | .tmp t :: l => (cResults P l).map ((t, none) :: ·)
  | .cell a t :: l => match tagg P t, tsize P t, cResults P l with
    | some g, some n, some r => some ((a, some (g, n)) :: r)
    | _, _, _ => none

def cFunc (P : Program) (f : FuncId) : Option AFunc :=
  match P.funcs[f]? with
  | some fn => match fn.body, cResults P fn.results.toList with
    | some c, some rs => bif fn.name == "runtime.NumGoroutine" then none else
      match cCode P fn.ntmps c with
      | some b => some ⟨fn.ntmps, rs, b⟩
      | none => none
    | _, _ => none
  | none => none

end Go.Am
