/-
  AN ABSTRACT MACHINE for the model's programs: compiled code, an abstract heap without capacities, no tape. Definitions.
-/
import Derived.Calls
import Derived.Below
import Derived.KernelRfl
namespace Go.Am

/-! ### Tries: finite maps of numbers -/
inductive Trie (α : Type) where
  | leaf
  | node (v : Option α) (l r : Trie α)

def Trie.get {α : Type} : Trie α → Nat → Option α
  | .leaf, _ => none
  | .node v l r, k => bif Nat.beq k 0 then v else bif Nat.beq (k % 2) 1 then l.get (k / 2) else r.get (k / 2 - 1)

def Trie.put {α : Type} (v : Option α) : Nat → Nat → Trie α → Trie α
  | 0, _, t => t
  | f + 1, k, .leaf =>
    bif Nat.beq k 0 then .node v .leaf .leaf else
    bif Nat.beq (k % 2) 1 then .node none (Trie.put v f (k / 2) .leaf) .leaf else .node none .leaf (Trie.put v f (k / 2 - 1) .leaf)
  | f + 1, k, .node u l r =>
    bif Nat.beq k 0 then .node v l r else
    bif Nat.beq (k % 2) 1 then .node u (Trie.put v f (k / 2) l) r else .node u l (Trie.put v f (k / 2 - 1) r)

def Trie.set {α : Type} (t : Trie α) (k : Nat) (v : α) : Trie α := Trie.put (some v) (k + 1) k t
def Trie.erase {α : Type} (t : Trie α) (k : Nat) : Trie α := Trie.put none (k + 1) k t

/-! ### Compiled code -/
inductive AOp where
  | stuck
  | mov (x : Operand)
  | pick (c a b : Operand)
  | bin (op : BinOp) (x y : Operand)
  | binB (neg : Bool) (x y : Operand)
  | binP (op : BinOp) (t : TypeId) (x y : Operand)
  | isNil (kind : Nat) (neg : Bool) (x : Operand)
  | un (op : UnOp) (x : Operand)
  | conv (k : IntKind) (x : Operand)
  | convP (s d : TypeId) (x : Operand)
  | alloc (zero : List Value)
  | box (x : Operand)
  | build (zero : List Value) (parts : List (Nat × Nat × Operand))
  | buildSlice (len c : Nat) (zero : List Value) (parts : List (Nat × Nat × Operand))
  | load (agg : Bool) (n : Nat) (x : Operand)
  | store (n : Nat) (a x : Operand)
  | idx (c : Nat) (x i : Operand)
  | idxArr (len c : Nat) (x i : Operand)
  | fld (off : Nat) (x : Operand)
  | part (agg : Bool) (off n : Nat) (x : Operand)
  | elem (len : Nat) (agg : Bool) (n : Nat) (x i : Operand)
  | elemStr (x i : Operand)
  | mkSlice (c : Nat) (zero : List Value) (l cp : Operand)
  | slice (c : Nat) (x : Operand) (lo hi mx : Option Operand)
  | sliceStr (x : Operand) (lo hi : Option Operand)
  | sliceArr (len c : Nat) (x : Operand) (lo hi mx : Option Operand)
  | len (x : Operand)
  | lenMap (x : Operand)
  | lenStr (x : Operand)
  | lenC (n : Nat)
  | append (c : Nat) (s x : Operand)
  | copy (c : Nat) (d s : Operand)
  | maxmin (isMax : Bool) (xs : List Operand)
  | mkMap
  | lookup (ok : Bool) (zero : Value) (m k : Operand)
  | update (m k v : Operand)
  | delete (m k : Operand)
  | clear (m : Operand)
  | mkFunc (fn : Fn) (first captured : List Operand)
  | extract (x : Operand) (i : Nat)
  | nilCheck (x : Operand)
  | call (f : Operand) (args : List Operand)
  | dfr (f : Operand) (args : List Operand)
  | dfrClear (t : TypeId) (type : TypeId) (consts : Array Bool) (m : Operand)

structure AOper where
  dst : Option Nat
  guard : Option (Nat × Bool)
  op : AOp

inductive ACode where
  | skip
  | region (ops : List AOper)
  | regionC (ops : List (AOper × List Nat))
  | seq (a b : ACode)
  | cond (c : Operand) (thn els : ACode)
  | block (id : Nat) (body : ACode)
  | loop (body : ACode)
  | rangeFunc (f : Operand) (params : List Nat) (assign body : ACode)
  | exit (id : Nat)
  | scope (body : ACode)
  | label (l : Nat)
  | goto (l : Nat)
  | ret

structure AFunc where
  ntmps : Nat
  results : List (Nat × Option (Bool × Nat))
  body : ACode

/-! ### The abstract heap -/
structure ALoop where
  state : LoopState
  pending : Option ACode
  fn : FuncId
  tm : Trie Value
  params : List Nat
  assign : ACode
  body : ACode
  defers : Nat

inductive AObj where
  | row (cells : List Value) (own : Bool) (lo : Nat)
  | map (es : List MapEntry) (clock : Nat)
  | loop (r : ALoop)
  | deferred (ds : Option (List Deferred))

/-- 'mark', 'wr': inside a region that draws its order: which groups below 'mark' have been written. -/
structure AHeap where
  n : Nat
  tab : Trie AObj
  mark : Nat
  wr : List Nat

def AHeap.get (h : AHeap) (g : Nat) : Option AObj := h.tab.get g
def AHeap.log (h : AHeap) (g : Nat) : List Nat := bif Nat.ble h.mark g then h.wr else g :: h.wr
def AHeap.push (h : AHeap) (o : AObj) : AHeap := ⟨h.n + 1, h.tab.set h.n o, h.mark, h.wr⟩
def AHeap.set (h : AHeap) (g : Nat) (o : AObj) : AHeap := ⟨h.n, h.tab.set g o, h.mark, h.log g⟩
def AHeap.kill (h : AHeap) (g : Nat) : AHeap := ⟨h.n, h.tab.erase g, h.mark, h.log g⟩

structure AFr where
  tm : Trie Value
  dfs : List Deferred
  round : Option Nat

inductive AExit where
  | normal
  | exit (id : Nat)
  | goto (l : Nat)
  | ret

/-! ### Values -/
/-- No address in it. -/
def closedV : Value → Bool
  | .bool _ | .int _ _ | .float _ _ | .complex _ _ _ | .string _ | .pointer none | .slice none 0 0 | .map none | .nilFunc | .nilIface => true
  | _ => false
def closedL (l : List Value) : Bool := l.all closedV

def tmGet (t : Trie Value) (k : Nat) : Value := (t.get k).getD undef

def ev (t : Trie Value) : Operand → Value
  | .tmp k => tmGet t k
  | .const v => v
  | .global g => .pointer (some ⟨g, 0, none⟩)
  | .func f => .func (.func f) #[] #[]

/-- A run that asks nothing of the world. -/
def pureRun {α : Type} (P : Program) : Sem α → Option α
  | .pure a => some a
  | .program k => pureRun P (k P)
  | .mark _ k => pureRun P k
  | _ => none

def binV : BinOp → Value → Value → Option Value
  | .add, .int k a, .int k' b => if k = k' then some (.int k (k.wrap (a + b))) else none
  | .sub, .int k a, .int k' b => if k = k' then some (.int k (k.wrap (a - b))) else none
  | .mul, .int k a, .int k' b => if k = k' then some (.int k (k.wrap (a * b))) else none
  | .quo, .int k a, .int k' b => if k = k' then (if b = 0 then none else some (.int k (k.wrap (a.tdiv b)))) else none
  | .rem, .int k a, .int k' b => if k = k' then (if b = 0 then none else some (.int k (a.tmod b))) else none
  | .and, .int k a, .int k' b => if k = k' then some (.int k (k.wrap (BitVec.ofInt k.bits a &&& BitVec.ofInt k.bits b).toNat)) else none
  | .or, .int k a, .int k' b => if k = k' then some (.int k (k.wrap (BitVec.ofInt k.bits a ||| BitVec.ofInt k.bits b).toNat)) else none
  | .xor, .int k a, .int k' b => if k = k' then some (.int k (k.wrap (BitVec.ofInt k.bits a ^^^ BitVec.ofInt k.bits b).toNat)) else none
  | .andNot, .int k a, .int k' b => if k = k' then some (.int k (k.wrap (BitVec.ofInt k.bits a &&& ~~~BitVec.ofInt k.bits b).toNat)) else none
  | .shl, .int k a, .int _ b => if b < 0 then none else some (.int k (k.wrap (a * 2 ^ (min b.toNat k.bits))))
  | .shr, .int k a, .int _ b => if b < 0 then none else some (.int k (a.fdiv (2 ^ (min b.toNat k.bits))))
  | .eql, .int k a, .int k' b => if k = k' then some (.bool (a == b)) else none
  | .neq, .int k a, .int k' b => if k = k' then some (.bool (a != b)) else none
  | .lss, .int k a, .int k' b => if k = k' then some (.bool (a < b)) else none
  | .leq, .int k a, .int k' b => if k = k' then some (.bool (a ≤ b)) else none
  | .gtr, .int k a, .int k' b => if k = k' then some (.bool (a > b)) else none
  | .geq, .int k a, .int k' b => if k = k' then some (.bool (a ≥ b)) else none
  | _, _, _ => none

/-- A value without addresses: one cell, or a struct or an array of such cells. -/
def closedD : Value → Bool
  | .agg cs => cs.toList.all closedV
  | v => closedV v

/-- Is a value nil? By kind: 0 a slice, 1 a map, 2 a function, 3 a pointer, 4 an interface's. -/
def nilV : Nat → Value → Option Bool
  | 0, .slice a _ _ => some a.isNone
  | 1, .map a => some a.isNone
  | 2, .func _ _ _ => some false
  | 2, .nilFunc => some true
  | 3, .pointer a => some a.isNone
  | 4, .iface _ _ => some false
  | 4, .nilIface => some true
  | _, _ => none

def unV : UnOp → Value → Option Value
  | .not, .bool b => some (.bool !b)
  | .neg, .int k n => some (.int k (k.wrap (0 - n)))
  | _, _ => none

/-- The cells [off, off + n). -/
def cut (cells : List Value) (off n : Nat) : Option (List Value) :=
  bif Nat.ble (off + n) cells.length then some ((cells.drop off).take n) else none
def putAt (cells : List Value) (off : Nat) (vs : List Value) : List Value := cells.take off ++ vs ++ cells.drop (off + vs.length)

def ofCells (agg : Bool) (l : List Value) : Option Value :=
  bif agg then some (.agg l.toArray) else match l with
    | [v] => some v
    | _ => none

def rowOf (h : AHeap) (g : Nat) : Option (List Value) :=
  match h.get g with
  | some (.row cells _ _) => some cells
  | _ => none

def fillA : List Value → List (Nat × Nat × Value) → Option (List Value)
  | cells, [] => some cells
  | cells, (off, size, v) :: rest =>
    bif Nat.beq v.cells.size size && Nat.ble (off + size) cells.length then fillA (putAt cells off v.cells.toList) rest else none
def evParts (t : Trie Value) (l : List (Nat × Nat × Operand)) : List (Nat × Nat × Value) := l.map fun (a, b, x) => (a, b, ev t x)

def repl (zero : List Value) : Nat → List Value
  | 0 => []
  | n + 1 => zero ++ repl zero n

/-- The bound of all that is made: numbers of elements. -/
def room : Nat := 4294967296

def mk (h : AHeap) (cells : List Value) (len c : Nat) : Value × AHeap :=
  (.slice (some ⟨h.n, 0, none⟩) len c, h.push (.row cells true 0))

/-- What a slice's, or a string's, elements are, as cells. -/
def srcCells (c : Nat) (h : AHeap) : Value → Option (List Value)
  | .slice none 0 0 => some []
  | .slice (some a) len k => bif Nat.beq len 0 then some [] else
    bif Nat.beq k c && a.spot.isNone then (match rowOf h a.block with
      | some cells => cut cells a.off (len * c)
      | none => none) else none
  | _ => none

/-- Values that are one cell each. -/
def oneCells (l : List Value) : Bool := l.all fun | .agg _ | .tuple _ => false | _ => true

def appendA (c : Nat) (s x : Value) (h : AHeap) : Option (Value × AHeap) :=
  match srcCells c h x with
  | none => none
  | some [] => (match s with
    | .slice none 0 0 => some (s, h)
    | .slice (some _) _ _ => some (s, h)
    | _ => none)
  | some (y :: ys) =>
    let n := (y :: ys).length / c
    bif !oneCells (y :: ys) then none else
    match s with
    | .slice none 0 0 => bif Nat.ble n room then some (mk h (y :: ys) n c) else none
    | .slice (some a) len k =>
      bif Nat.ble (len + n) room && a.spot.isNone then
        bif Nat.beq k 0 then (bif Nat.beq len 0 then some (mk h (y :: ys) n c) else none) else
        bif Nat.beq k c then match h.get a.block with
          | some (.row cells true lo) => match cut cells a.off (len * c) with
            | some xs => bif Nat.ble lo (a.off + len * c) then
                some (.slice (some ⟨h.n, 0, none⟩) (len + n) c, (h.kill a.block).push (.row (xs ++ y :: ys) true (lo - a.off)))
              else none
            | none => none
          | _ => none
        else none
      else none
    | _ => none

def storeA (h : AHeap) (a : Addr) (vs : List Value) : Option AHeap :=
  match h.get a.block with
  | some (.row cells true lo) =>
    bif Nat.ble (a.off + vs.length) cells.length && Nat.ble lo a.off && a.spot.isNone && oneCells vs then some (h.set a.block (.row (putAt cells a.off vs) true lo)) else none
  | _ => none

def asN : Value → Option Nat
  | .int _ (.ofNat n) => some n
  | _ => none

def sliceA (c : Nat) (x : Value) (lo hi mx : Option Nat) : Option Value :=
  match x with
  | .slice none 0 0 =>
    match lo.getD 0, hi.getD 0, mx.getD 0 with
    | 0, 0, 0 => some x
    | _, _, _ => none
  | .slice (some a) len k =>
    let l := lo.getD 0
    let e := hi.getD len
    bif Nat.ble l e && Nat.ble e len && a.spot.isNone then
      match mx with
      | none => bif Nat.beq k c then some (.slice (some ⟨a.block, a.off + l * c, none⟩) (e - l) c) else bif Nat.beq k 0 && Nat.beq len 0 then some x else none
      | some m => bif Nat.beq m l && Nat.beq e l then some (.slice (some a) 0 0) else none
    else none
  | _ => none

def lenA : Value → Option Nat
  | .slice _ n _ => some n
  | _ => none

def keyEq : Value → Value → Option Bool
  | .int k a, .int k' b => if k = k' then some (a == b) else none
  | _, _ => none
def findA (k : Value) : List MapEntry → Nat → Option (Option (Nat × Value))
  | [], _ => some none
  | e :: es, i => match keyEq k e.key with
    | some true => some (some (i, e.val))
    | some false => findA k es (i + 1)
    | none => none
def setVal (v : Value) : List MapEntry → Nat → List MapEntry
  | [], _ => []
  | e :: es, 0 => { e with val := v } :: es
  | e :: es, i + 1 => e :: setVal v es i
def dropAt : List MapEntry → Nat → List MapEntry
  | [], _ => []
  | _ :: es, 0 => es
  | e :: es, i + 1 => e :: dropAt es i

def maxV (isMax : Bool) : Value → List Value → Option Value
  | x, [] => some x
  | .int k a, .int k' b :: r => if k = k' then maxV isMax (.int k (if isMax then (if b > a then b else a) else (if b < a then b else a))) r else none
  | _, _ => none

/-! ### Runs -/
structure Ex where
  exec : ACode → AFr → AHeap → Option (AExit × AFr × AHeap)
  call : FuncId → List Value → AHeap → Option (Value × AHeap)

def Ex.bot : Ex := ⟨fun _ _ _ => none, fun _ _ _ => none⟩

def mkTm : List Value → Nat → Trie Value → Trie Value
  | [], _, t => t
  | v :: l, k, t => mkTm l (k + 1) (t.set k v)

def setTm : List Nat → List Value → Trie Value → Trie Value
  | p :: ps, v :: vs, t => setTm ps vs (t.set p v)
  | _, _, t => t

/-- The end of a round, by how its body has left it. -/
def roundEnd (l : Nat) (r : ALoop) (h : AHeap) : AExit → Value × AHeap
  | .normal => (.bool true, h.set l (.loop { r with state := .ready, pending := none }))
  | .ret => (.bool false, h.set l (.loop { r with state := .done, pending := some .ret }))
  | .exit id => (.bool false, h.set l (.loop { r with state := .done, pending := some (.exit id) }))
  | .goto g => (.bool false, h.set l (.loop { r with state := .done, pending := some (.goto g) }))

/-- A round: what its variables get; the body; the end. -/
def roundA (ih : Ex) (l : Nat) (r : ALoop) (args : List Value) (h : AHeap) : Option (Value × AHeap) :=
  match ih.exec r.assign ⟨setTm r.params args r.tm, [], some l⟩ h with
  | some (.normal, fr, h1) =>
    match h1.get l with
    | some (.loop r1) =>
      bif (match r1.state with | .ready => true | _ => false) then
        match ih.exec r.body fr (h1.set l (.loop { r1 with state := .busy })) with
        | some (e, fr2, h2) =>
          match fr2.dfs, h2.get l with
          | [], some (.loop r2) => some (roundEnd l r2 h2 e)
          | _, _ => none
        | none => none
      else none
    | _ => none
  | _ => none

/-- A call of a function value. -/
def callV (ih : Ex) (f : Value) (args : List Value) (h : AHeap) : Option (Value × AHeap) :=
  match f with
  | .func (.func f) first cap => ih.call f (first.toList ++ args ++ cap.toList) h
  | .func (.yield l) _ _ =>
    match h.get l with
    | some (.loop r) => bif Nat.beq args.length r.params.length then roundA ih l r args h else none
    | _ => none
  | _ => none

def val (d : Option Nat) (fr : AFr) (v : Value) : AFr :=
  match d with
  | some d => { fr with tm := fr.tm.set d v }
  | none => fr

def optA (t : Trie Value) : Option Operand → Option (Option Nat)
  | none => some none
  | some x => (asN (ev t x)).map some

/-- One operation: its value, and the heap behind it. -/
def aop (P : Program) (ih : Ex) (t : Trie Value) (h : AHeap) : AOp → Option (Value × AHeap)
  | .stuck => none
  | .mov x => some (ev t x, h)
  | .pick c a b => match ev t c with
    | .bool c => some (if c then ev t a else ev t b, h)
    | _ => none
  | .bin op x y => (binV op (ev t x) (ev t y)).map (·, h)
  | .binB neg x y => match ev t x, ev t y with
    | .bool x, .bool y => some (.bool (if neg then x != y else x == y), h)
    | _, _ => none
  | .binP op ty x y => bif closedD (ev t x) && closedD (ev t y) then
      match pureRun P (do eqGuard op ty x y (ev t x) (ev t y); binOp op ty (ev t x) (ev t y)) with
      | some v => bif closedV v then some (v, h) else none
      | none => none
    else none
  | .isNil kind neg x => (nilV kind (ev t x)).map fun b => (.bool (if neg then !b else b), h)
  | .un op x => (unV op (ev t x)).map (·, h)
  | .conv k x => match ev t x with
    | .int _ n => some (.int k (k.wrap n), h)
    | _ => none
  | .convP s d x => bif closedV (ev t x) then
      match pureRun P (convert s d (ev t x)) with
      | some v => bif closedV v then some (v, h) else none
      | none => none
    else none
  | .alloc zero => some (.pointer (some ⟨h.n, 0, none⟩), h.push (.row zero true 0))
  | .box x => some (.pointer (some ⟨h.n, 0, none⟩), h.push (.row (ev t x).cells.toList true 0))
  | .build zero parts => (fillA zero (evParts t parts)).map fun cells => (.agg cells.toArray, h)
  | .buildSlice len c zero parts => (fillA (repl zero len) (evParts t parts)).map fun cells => mk h cells len c
  | .load agg n x => match ev t x with
    | .pointer (some a) => bif a.spot.isNone then (((rowOf h a.block).bind fun cells => cut cells a.off n).bind (ofCells agg)).map (·, h) else none
    | _ => none
  | .store n a x => match ev t a with
    | .pointer (some a) => bif Nat.beq (ev t x).cells.size n then (storeA h a (ev t x).cells.toList).map (undef, ·) else none
    | _ => none
  | .idx c x i => match ev t x, asN (ev t i) with
    | .slice (some a) len k, some i => bif Nat.ble (i + 1) len && Nat.beq k c && a.spot.isNone then some (.pointer (some ⟨a.block, a.off + i * c, none⟩), h) else none
    | _, _ => none
  | .idxArr len c x i => match ev t x, asN (ev t i) with
    | .pointer (some a), some i => bif Nat.ble (i + 1) len && a.spot.isNone then some (.pointer (some ⟨a.block, a.off + i * c, none⟩), h) else none
    | _, _ => none
  | .fld off x => match ev t x with
    | .pointer (some a) => bif a.spot.isNone then some (.pointer (some ⟨a.block, a.off + off, none⟩), h) else none
    | _ => none
  | .part agg off n x => match ev t x with
    | .agg cs => ((cut cs.toList off n).bind (ofCells agg)).map (·, h)
    | _ => none
  | .elem len agg n x i => match ev t x, asN (ev t i) with
    | .agg cs, some i => bif Nat.ble (i + 1) len then ((cut cs.toList (i * n) n).bind (ofCells agg)).map (·, h) else none
    | _, _ => none
  | .elemStr x i => match ev t x, asN (ev t i) with
    | .string s, some i => match s[i]? with
      | some b => some (.int .u8 b.toNat, h)
      | none => none
    | _, _ => none
  | .mkSlice c zero l cp => match asN (ev t l), asN (ev t cp) with
    | some l, some cp => bif Nat.ble l cp && Nat.ble cp room then some (.slice (some ⟨h.n, 0, none⟩) l c, h.push (.row (repl zero l) true 0)) else none
    | _, _ => none
  | .slice c x lo hi mx => match optA t lo, optA t hi, optA t mx with
    | some lo, some hi, some mx => (sliceA c (ev t x) lo hi mx).map (·, h)
    | _, _, _ => none
  | .sliceStr x lo hi => match ev t x, optA t lo, optA t hi with
    | .string s, some lo, some hi =>
      let l := lo.getD 0
      let e := hi.getD s.size
      bif Nat.ble l e && Nat.ble e s.size then some (.string (s.extract l e), h) else none
    | _, _, _ => none
  | .sliceArr len c x lo hi mx => match ev t x with
    | .pointer (some a) => match optA t lo, optA t hi, mx, rowOf h a.block with
      | some lo, some hi, none, some cells =>
        bif Nat.ble (lo.getD 0) (hi.getD len) && Nat.ble (hi.getD len) len && a.spot.isNone && Nat.ble (a.off + len * c) cells.length then some (.slice (some ⟨a.block, a.off + lo.getD 0 * c, none⟩) (hi.getD len - lo.getD 0) c, h) else none
      | _, _, _, _ => none
    | _ => none
  | .len x => (lenA (ev t x)).map fun n => (.int .i64 n, h)
  | .lenStr x => match ev t x with
    | .string s => some (.int .i64 s.size, h)
    | _ => none
  | .lenMap x => match ev t x with
    | .map none => some (.int .i64 0, h)
    | .map (some g) => (match h.get g with
      | some (.map es _) => some (.int .i64 es.length, h)
      | _ => none)
    | _ => none
  | .lenC n => some (.int .i64 n, h)
  | .append c s x => appendA c (ev t s) (ev t x) h
  | .copy c d s => match ev t d with
    | .slice (some a) len k => match srcCells c h (ev t s) with
      | some ys =>
        let m := min (ys.length / c) len
        bif Nat.beq m 0 then some (.int .i64 0, h) else
        bif Nat.beq k c && a.spot.isNone then (storeA h a (ys.take (m * c))).map fun h => (.int .i64 m, h) else none
      | none => none
    | .slice none 0 0 => match srcCells c h (ev t s) with
      | some _ => some (.int .i64 0, h)
      | none => none
    | _ => none
  | .maxmin isMax xs => match xs with
    | x :: r => (maxV isMax (ev t x) (r.map (ev t))).map (·, h)
    | _ => none
  | .mkMap => some (.map (some h.n), h.push (.map [] 0))
  | .lookup ok zero m k =>
      let es : Option (List MapEntry) := match ev t m with
        | .map none => some []
        | .map (some g) => (match h.get g with
          | some (.map es _) => some es
          | _ => none)
        | _ => none
      match es with
      | none => none
      | some es => match ev t k with
        | .int kk n => (match findA (.int kk n) es 0 with
          | some (some (_, v)) => some (if ok then .tuple #[v, .bool true] else v, h)
          | some none => some (if ok then .tuple #[zero, .bool false] else zero, h)
          | none => none)
        | _ => none
  | .update m k v => match ev t m, ev t k with
    | .map (some g), .int kk n => (match h.get g with
      | some (.map es clock) => (match findA (.int kk n) es 0 with
        | some (some (i, _)) => some (undef, h.set g (.map (setVal (ev t v) es i) clock))
        | some none => some (undef, h.set g (.map (es ++ [{ key := .int kk n, val := ev t v, born := clock }]) (clock + 1)))
        | none => none)
      | _ => none)
    | _, _ => none
  | .delete m k => match ev t m, ev t k with
    | .map (some g), .int kk n => (match h.get g with
      | some (.map es clock) => (match findA (.int kk n) es 0 with
        | some (some (i, _)) => some (.tuple #[], h.set g (.map (dropAt es i) clock))
        | some none => some (.tuple #[], h.set g (.map es clock))
        | none => none)
      | _ => none)
    | _, _ => none
  | .clear m => match ev t m with
    | .map (some g) => match h.get g with
      | some (.map _ clock) => some (.tuple #[], h.set g (.map [] clock))
      | _ => none
    | _ => none
  | .mkFunc fn first cap => match fn with
    | .func f => some (.func (.func f) (first.map (ev t)).toArray (cap.map (ev t)).toArray, h)
    | _ => none
  | .extract x i => match ev t x with
    | .tuple vs => match vs[i]? with
      | some v => some (v, h)
      | none => none
    | _ => none
  | .nilCheck x => match ev t x with
    | .pointer (some a) => some (.pointer (some a), h)
    | .func (.func f) first cap => some (.func (.func f) first cap, h)
    | .func (.yield l) first cap => some (.func (.yield l) first cap, h)
    | _ => none
  | .call f args => callV ih (ev t f) (args.map (ev t)) h
  | .dfr .. | .dfrClear .. => none

/-- One operation: its value; what it defers; the heap behind it. -/
def aoperV (P : Program) (ih : Ex) (t : Trie Value) (rd : Option Nat) (h : AHeap) (op : AOp) : Option (Value × List Deferred × AHeap) :=
  match op with
  | .dfr f args => match rd, ev t f with
    | none, .func (.func f) first cap => some (undef, [{ target := .fn (.func f) cap, args := first ++ (args.map (ev t)).toArray }], h)
    | _, _ => none
  | .dfrClear ty type consts m => match rd, ev t m with
    | none, .map (some g) => some (undef, [{ target := .builtin .clear #[ty] type consts, args := #[.map (some g)] }], h)
    | _, _ => none
  | op => match aop P ih t h op with
    | some (v, h) => some (v, [], h)
    | none => none

def wantedA (t : Trie Value) : Option (Nat × Bool) → Bool
  | none => true
  | some (j, want) => match tmGet t j with
    | .bool b => b == want
    | _ => false

def aoper (P : Program) (ih : Ex) (o : AOper) (fr : AFr) (h : AHeap) : Option (AFr × AHeap) :=
  bif wantedA fr.tm o.guard then match aoperV P ih fr.tm fr.round h o.op with
    | some (v, ds, h) => some (val o.dst { fr with dfs := ds ++ fr.dfs } v, h)
    | none => none
  else some (val o.dst fr undef, h)

def aopers (P : Program) (ih : Ex) : List AOper → AFr → AHeap → Option (AFr × AHeap)
  | [], fr, h => some (fr, h)
  | o :: l, fr, h => match aoper P ih o fr h with
    | some (fr, h) => aopers P ih l fr h
    | none => none

/-- The group that an operation reads, if it runs and reads one. -/
def readsA (t : Trie Value) (o : AOper) : Option Nat :=
  bif wantedA t o.guard then (match o.op with
    | .load _ _ x | .sliceArr _ _ x _ _ _ => (match ev t x with
      | .pointer (some a) => some a.block
      | _ => none)
    | .lookup _ _ m _ | .lenMap m => (match ev t m with
      | .map (some g) => some g
      | _ => none)
    | _ => none) else none

/-- 1: it reads the heap; 2: it writes it, or calls; 3: it makes memory of what its slots hold; 0: none of these. -/
def kindA : AOp → Nat
  | .load .. | .lookup .. | .lenMap _ | .sliceArr .. => 1
  | .alloc _ | .box _ | .buildSlice .. | .mkSlice .. | .mkMap => 3
  | .stuck | .store .. | .append .. | .copy .. | .update .. | .delete .. | .clear _ | .call .. | .dfr .. | .dfrClear .. => 2
  | _ => 0

/-- What an operation that makes memory makes; and its value, by the group that is made. -/
def madeA (t : Trie Value) : AOp → Option (AObj × (Nat → Value))
  | .alloc zero => some (.row zero true 0, fun g => .pointer (some ⟨g, 0, none⟩))
  | .box x => some (.row (ev t x).cells.toList true 0, fun g => .pointer (some ⟨g, 0, none⟩))
  | .buildSlice len c zero parts => (fillA (repl zero len) (evParts t parts)).map fun cells => (.row cells true 0, fun g => .slice (some ⟨g, 0, none⟩) len c)
  | .mkSlice c zero l cp => match asN (ev t l), asN (ev t cp) with
    | some l, some cp => bif Nat.ble l cp && Nat.ble cp room then some (.row (repl zero l) true 0, fun g => .slice (some ⟨g, 0, none⟩) l c) else none
    | _, _ => none
  | .mkMap => some (.map [] 0, fun g => .map (some g))
  | _ => none

/-- An object at a group that was set aside. -/
def AHeap.lay (h : AHeap) (g : Nat) (o : AObj) : AHeap := ⟨h.n, h.tab.set g o, h.mark, h.log g⟩

/-- An operation of a region that draws its order: what makes memory makes it at a group set aside for it. -/
def aoperC (P : Program) (ih : Ex) (g : Nat) (o : AOper) (fr : AFr) (h : AHeap) : Option (AFr × AHeap) :=
  bif Nat.beq (kindA o.op) 3 then
    bif wantedA fr.tm o.guard then match madeA fr.tm o.op with
      | some (ob, f) => some (val o.dst fr (f g), h.lay g ob)
      | none => none
    else some (val o.dst fr undef, h)
  else aoper P ih o fr h

/-- A region that draws its order, in the text's order. With each operation the numbers of those ahead of it and unordered with it, that may get in its way. 'ws': what those ahead have written (ahead of each its number); 'rs': what they read. -/
def aopersC (P : Program) (ih : Ex) : List (AOper × List Nat) → Nat → Nat → List (Nat × Nat) → List (Nat × Nat) → List (Nat × Nat) → AFr → AHeap → Option (AFr × AHeap × List (Nat × Nat))
  | [], _, _, ws, _, _, fr, h => some (fr, h, ws)
  | (o, un) :: l, i, g, ws, rs, bs, fr, h =>
    match aoperC P ih g o fr { h with mark := h.n, wr := [] } with
    | none => none
    | some (fr', h') =>
      let ok := (match readsA fr.tm o with
        | some g => (ws.all fun (j, g') => !(Nat.beq g g' && un.contains j)) && bs.all fun (j, n) => !un.contains j || Nat.ble (g + 1) n
        | none => true) && rs.all fun (j, g) => !(un.contains j && h'.wr.contains g)
      bif ok then aopersC P ih l (i + 1) (bif Nat.beq (kindA o.op) 3 then g + 1 else g) (h'.wr.map (fun g => (i, g)) ++ ws) (match readsA fr.tm o with
        | some g => (i, g) :: rs
        | none => rs) ((i, h.n) :: bs) fr' h'
      else none

def regionA (P : Program) (ih : Ex) (ops : List (AOper × List Nat)) (fr : AFr) (h : AHeap) : Option (AFr × AHeap) :=
  match aopersC P ih ops 0 h.n [] [] [] fr { h with n := h.n + (ops.filter fun x => Nat.beq (kindA x.1.op) 3).length } with
  | some (fr', h', ws) => some (fr', { h' with mark := h.mark, wr := ((ws.map (·.2)).filter fun g => !Nat.ble h.mark g) ++ h.wr })
  | none => none

def findLabelA : ACode → Nat → Option ACode
  | .seq a b, l =>
    match findLabelA a l with
    | some rest => some (.seq rest b)
    | none => findLabelA b l
  | .label l', l => if l' == l then some .skip else none
  | _, _ => none

/-- A scope's body, from a place in it on; jumps to its labels go on there. -/
def scopeA (ih : Ex) : Nat → ACode → ACode → AFr → AHeap → Option (AExit × AFr × AHeap)
  | 0, _, _, _, _ => none
  | n + 1, b, c, fr, h => match ih.exec c fr h with
    | some (.goto l, fr, h) => match findLabelA b l with
      | some rest => scopeA ih n b rest fr h
      | none => some (.goto l, fr, h)
    | r => r

/-- A range over a function, opened: its loop's record laid; called; closed. -/
def rangeB (ih : Ex) (f : Value) (params : List Nat) (assign body : ACode) (fr : AFr) (d : Nat) (mark : List Deferred) (h : AHeap) : Option (AExit × AFr × AHeap) :=
  match callV ih f [.func (.yield h.n) #[] #[]] (h.push (.loop { state := .ready, pending := none, fn := 0, tm := fr.tm, params, assign, body, defers := d })) with
  | none => none
  | some (_, h2) => match h2.get h.n with
    | some (.loop r) =>
      match r.state with
      | .busy => none
      | _ => match r.pending with
        | none => some (.normal, { fr with dfs := mark ++ fr.dfs }, h2.set h.n (.loop { r with state := .exhausted }))
        | some .ret => some (.ret, { fr with dfs := mark ++ fr.dfs }, h2.set h.n (.loop { r with state := .exhausted }))
        | some (.exit id) => some (.exit id, { fr with dfs := mark ++ fr.dfs }, h2.set h.n (.loop { r with state := .exhausted }))
        | some (.goto g) => some (.goto g, { fr with dfs := mark ++ fr.dfs }, h2.set h.n (.loop { r with state := .exhausted }))
        | some _ => none
    | _ => none

/-- A range over a function. -/
def rangeA (ih : Ex) (f : Value) (params : List Nat) (assign body : ACode) (fr : AFr) (h : AHeap) : Option (AExit × AFr × AHeap) :=
  match fr.round with
  | none => rangeB ih f params assign body fr h.n [{ target := .collected h.n, args := #[] }] (h.push (.deferred (some [])))
  | some l => match h.get l with
    | some (.loop r) => rangeB ih f params assign body fr r.defers [] h
    | _ => none

def execA (P : Program) (ih : Ex) (c : ACode) (fr : AFr) (h : AHeap) : Option (AExit × AFr × AHeap) :=
  match c with
  | .skip | .label _ => some (.normal, fr, h)
  | .region ops => (aopers P ih ops fr h).map fun (fr, h) => (.normal, fr, h)
  | .regionC ops => (regionA P ih ops fr h).map fun (fr, h) => (.normal, fr, h)
  | .seq a b => match ih.exec a fr h with
    | some (.normal, fr, h) => ih.exec b fr h
    | r => r
  | .cond c a b => match ev fr.tm c with
    | .bool true => ih.exec a fr h
    | .bool false => ih.exec b fr h
    | _ => none
  | .block id b => match ih.exec b fr h with
    | some (.exit id', fr, h) => if id' = id then some (.normal, fr, h) else some (.exit id', fr, h)
    | r => r
  | .loop b => match ih.exec b fr h with
    | some (.normal, fr, h) => ih.exec (.loop b) fr h
    | r => r
  | .exit id => some (.exit id, fr, h)
  | .goto l => some (.goto l, fr, h)
  | .ret => some (.ret, fr, h)
  | .scope b => scopeA ih 64 b b fr h
  | .rangeFunc f params assign body => rangeA ih (ev fr.tm f) params assign body fr h

def resultA (h : AHeap) (t : Trie Value) : Nat × Option (Bool × Nat) → Option Value
  | (k, none) => some (tmGet t k)
  | (k, some (agg, n)) => match tmGet t k with
    | .pointer (some a) => bif a.spot.isNone then ((rowOf h a.block).bind fun cells => cut cells a.off n).bind (ofCells agg) else none
    | _ => none
def resultsA (h : AHeap) (t : Trie Value) : List (Nat × Option (Bool × Nat)) → Option (List Value)
  | [] => some []
  | r :: l => match resultA h t r with
    | none => none
    | some v => match resultsA h t l with
      | none => none
      | some vs => some (v :: vs)
def one : List Value → Value
  | [v] => v
  | l => .tuple l.toArray

def defersA (ih : Ex) : List Deferred → AHeap → Option AHeap
  | [], h => some h
  | d :: ds, h => match d.target with
    | .fn (.func f) cap => match ih.call f (d.args.toList ++ cap.toList) h with
      | some (_, h) => defersA ih ds h
      | none => none
    | .builtin .clear _ _ _ => match d.args.toList with
      | [.map (some g)] => match h.get g with
        | some (.map _ clock) => defersA ih ds (h.set g (.map [] clock))
        | _ => none
      | _ => none
    | .collected g => match h.get g with
      | some (.deferred (some [])) => defersA ih ds (h.set g (.deferred none))
      | _ => none
    | _ => none

def callA (P : Program) (tab : FuncId → Option AFunc) (ih : Ex) (f : FuncId) (args : List Value) (h : AHeap) : Option (Value × AHeap) :=
  match tab f with
  | none => none
  | some fn =>
    match ih.exec fn.body ⟨mkTm args 0 .leaf, [], none⟩ h with
    | some (e, fr, h) =>
      bif (match e with | .normal | .ret => true | _ => false) then
        match defersA ih fr.dfs h with
        | none => none
        | some h => match resultsA h fr.tm fn.results with
          | none => none
          | some vs => some (one vs, h)
      else none
    | none => none

def aex (P : Program) (tab : FuncId → Option AFunc) : Nat → Ex
  | 0 => Ex.bot
  | n + 1 => ⟨execA P (aex P tab n), callA P tab (aex P tab n)⟩

end Go.Am
