/- A part of the machine and of its soundness; proves no statement. -/
import Derived.Calls
import Derived.Below
import Derived.KernelRfl
import Derived.Stop.Asserts
import Derived.Laws.AppendOwn
import Derived.Laws.MakeOwn
import Derived.Laws.CopyRow
import Derived.Laws.Rows
import Derived.Laws.NewBlocks
import Derived.Deep.MidRow
import Derived.ChangeKeysEq
import Derived.IntWalk
import Derived.Laws.BytesString
import Derived.Laws.Externs
set_option linter.all false
namespace Go.Am
def ω{p:Prop}(h:p:=by omega):p:=h
def QA:type_of% @Option.some.injEq:=@Option.some.injEq
def QB:type_of% @List.getElem?_eq_getElem:=@List.getElem?_eq_getElem
def QC:type_of% @if_neg:=@if_neg
def QD:type_of% @List.getD_eq_getElem?_getD:=@List.getD_eq_getElem?_getD
def QE:type_of% @Prod.mk.injEq:=@Prod.mk.injEq
def QF:type_of% @Nat.le_refl:=@Nat.le_refl
def QG:type_of% @Nat.lt_of_lt_of_le:=@Nat.lt_of_lt_of_le
def QH:type_of% @List.length_append:=@List.length_append
def QI:type_of% @Bool.and_eq_true:=@Bool.and_eq_true
def QJ:type_of% @if_pos:=@if_pos
def QK:type_of% @Nat.ble_eq_true_of_le:=@Nat.ble_eq_true_of_le
def QL:type_of% @Option.map_some:=@Option.map_some
def QM:type_of% @Nat.le_trans:=@Nat.le_trans
def QN:type_of% @Nat.eq_of_beq_eq_true:=@Nat.eq_of_beq_eq_true
def QO:type_of% @List.mem_singleton:=@List.mem_singleton
def QP:type_of% @Nat.le_of_ble_eq_true:=@Nat.le_of_ble_eq_true
def QQ:type_of% @Nat.zero_le:=@Nat.zero_le
def QR:type_of% @List.mem_cons_self:=@List.mem_cons_self
def QS:type_of% @List.getElem?_eq_some_iff:=@List.getElem?_eq_some_iff
def QT:type_of% @Option.map_eq_some_iff:=@Option.map_eq_some_iff
def QU:type_of% @cond_false:=@cond_false
def QV:type_of% @Option.bind_some:=@Option.bind_some
def QW:type_of% @List.mem_cons_of_mem:=@List.mem_cons_of_mem
def QX:type_of% @List.all_eq_true:=@List.all_eq_true
def QY:type_of% @decide_eq_false:=@decide_eq_false
def QZ:type_of% @Int.toNat_natCast:=@Int.toNat_natCast
def Qa:type_of% @decide_eq_true:=@decide_eq_true
def Qb:type_of% @List.length_singleton:=@List.length_singleton
def Qc:type_of% @decide_eq_true_eq:=@decide_eq_true_eq
def Qd:type_of% @List.append_assoc:=@List.append_assoc
def Qe:type_of% @Bool.not_true:=@Bool.not_true
def Qf:type_of% @List.mem_append:=@List.mem_append
def Qg:type_of% @List.getElem?_append_left:=@List.getElem?_append_left
def Qh:type_of% @Bool.true_and:=@Bool.true_and
def Qi:type_of% @List.map_cons:=@List.map_cons
def Qj:type_of% @Bool.false_and:=@Bool.false_and
def Qk:type_of% @List.getElem?_append_right:=@List.getElem?_append_right
def Ql:type_of% @Bool.not_false:=@Bool.not_false
def Qm:type_of% @Option.some.inj:=@Option.some.inj
def Qn:type_of% @List.length_cons:=@List.length_cons
def Qo:type_of% @Bool.and_false:=@Bool.and_false
def Qp:type_of% @List.length_take:=@List.length_take
def Qq:type_of% @Bool.and_true:=@Bool.and_true
def Qr:type_of% @List.length_map:=@List.length_map
def Qs:type_of% @List.take_length:=@List.take_length
def Qt:type_of% @List.mem_cons:=@List.mem_cons
def Qu:type_of% @Bool.false_or:=@Bool.false_or
def Qv:type_of% @List.take_succ_cons:=@List.take_succ_cons
def Qw:type_of% @List.mem_map:=@List.mem_map
def Qx:type_of% @Bool.true_or:=@Bool.true_or
def Qy:type_of% @Bool.false_eq_true:=@Bool.false_eq_true
def Qz:type_of% @if_true:=@if_true
def Q0:type_of% @Bool.or_false:=@Bool.or_false
def Q1:type_of% @Int.le_refl:=@Int.le_refl
def Q2:type_of% @Option.isNone_none:=@Option.isNone_none
def Q3:type_of% @List.take_of_length_le:=@List.take_of_length_le
def Q4:type_of% @List.mem_range:=@List.mem_range
def Q5:type_of% @List.map_append:=@List.map_append
def Q6:type_of% @Array.getElem?_eq_getElem:=@Array.getElem?_eq_getElem
def Q7:type_of% @Bool.or_true:=@Bool.or_true
def Q8:type_of% @Nat.zero_add:=@Nat.zero_add
def Q9:type_of% @Nat.lt_succ_self:=@Nat.lt_succ_self
def GA:type_of% @List.mem_flatMap:=@List.mem_flatMap
def GB:type_of% @List.drop_eq_getElem_cons:=@List.drop_eq_getElem_cons
def GC:type_of% @Bool.and_self:=@Bool.and_self
def GD:type_of% @Array.getD_eq_getD_getElem?:=@Array.getD_eq_getD_getElem?
def GE:type_of% @List.getElem?_take:=@List.getElem?_take
def GF:type_of% @List.take_add_one:=@List.take_add_one
def GG:type_of% @Option.getD_some:=@Option.getD_some
def GH:type_of% @Nat.mul_le_mul_right:=@Nat.mul_le_mul_right
def GI:type_of% @List.drop_zero:=@List.drop_zero
def GJ:type_of% @Nat.not_lt_zero:=@Nat.not_lt_zero
def GK:type_of% @List.take_zero:=@List.take_zero
def GL:type_of% @Bool.cond_eq_ite:=@Bool.cond_eq_ite
def GM:type_of% @Bool.or_eq_true:=@Bool.or_eq_true
def GN:type_of% @List.getElem?_drop:=@List.getElem?_drop
def GO:type_of% @List.mem_of_mem_take:=@List.mem_of_mem_take
def GP:type_of% @Nat.lt_or_ge:=@Nat.lt_or_ge
def GQ:type_of% @List.getElem?_map:=@List.getElem?_map
def GR:type_of% @List.take_append_drop:=@List.take_append_drop
def GS:type_of% @decide_eq_true_iff:=@decide_eq_true_iff
def GT:type_of% @List.pairwise_cons:=@List.pairwise_cons
def GU:type_of% @Nat.le_succ:=@Nat.le_succ
def GV:type_of% @List.mem_append_left:=@List.mem_append_left
def GW:type_of% @List.append_nil:=@List.append_nil
def GX:type_of% @Bool.eq_iff_iff:=@Bool.eq_iff_iff
def GY:type_of% @List.mem_append_right:=@List.mem_append_right
def GZ:type_of% @List.drop_succ_cons:=@List.drop_succ_cons
def Ga:type_of% @List.length_drop:=@List.length_drop
def Gb:type_of% @List.mem_of_getElem?:=@List.mem_of_getElem?
def Gc:type_of% @List.map_nil:=@List.map_nil
def Gd:type_of% @List.flatten_cons:=@List.flatten_cons
def Ge:type_of% @Bool.not_eq_true':=@Bool.not_eq_true'
def Gf:type_of% @List.nil_append:=@List.nil_append
def Gg:type_of% @Nat.min_eq_left:=@Nat.min_eq_left
def Gh:type_of% @List.length_set:=@List.length_set
def Gi:type_of% @Array.getElem?_setIfInBounds:=@Array.getElem?_setIfInBounds
def Gj:type_of% @List.map_congr_left:=@List.map_congr_left
def Gk:type_of% @List.length_replicate:=@List.length_replicate
def Gl:type_of% @Nat.beq_refl:=@Nat.beq_refl
def Gm:type_of% @List.length_eq_zero_iff:=@List.length_eq_zero_iff
def Gn:type_of% @List.getElem?_cons_zero:=@List.getElem?_cons_zero
def Gp:type_of% @List.mem_filter:=@List.mem_filter
def Gq:type_of% @List.eq_nil_of_length_eq_zero:=@List.eq_nil_of_length_eq_zero
def Gs:type_of% @List.sum_append:=@List.sum_append
def Gt:type_of% @if_false:=@if_false
def Gu:type_of% @List.mem_iff_getElem?:=@List.mem_iff_getElem?
def Gv:type_of% @Option.getD_none:=@Option.getD_none
def Gw:type_of% @Nat.succ_mul:=@Nat.succ_mul
def Gx:type_of% @Nat.add_mul:=@Nat.add_mul
def Gy:type_of% @Array.toArray_toList:=@Array.toArray_toList
def Gz:type_of% @decide_eq_false_iff_not:=@decide_eq_false_iff_not
def G2:type_of% @List.size_toArray:=@List.size_toArray
def G3:type_of% @List.getElem?_replicate:=@List.getElem?_replicate
def G4:type_of% @List.any_eq_false:=@List.any_eq_false
def G5:type_of% @List.length_nil:=@List.length_nil
def G6:type_of% @List.getElem_of_mem:=@List.getElem_of_mem
def G7:type_of% @Nat.mul_one:=@Nat.mul_one
def G8:type_of% @List.sum_cons:=@List.sum_cons
def G9:type_of% @List.mem_filterMap:=@List.mem_filterMap
def JA:type_of% @Array.getElem?_eq_some_iff:=@Array.getElem?_eq_some_iff
def JB:type_of% @Classical.byContradiction:=@Classical.byContradiction
def JC:type_of% @List.range_succ:=@List.range_succ
def JD:type_of% @Nat.mod_eq_of_lt:=@Nat.mod_eq_of_lt
def JE:type_of% @List.getElem_mem:=@List.getElem_mem
def JF:type_of% @List.drop_drop:=@List.drop_drop
def JG:type_of% @List.cons_append:=@List.cons_append
def JH:type_of% @List.any_eq_true:=@List.any_eq_true
def JI:type_of% @Nat.sub_self:=@Nat.sub_self
def JJ:type_of% @List.getElem?_set_self:=@List.getElem?_set_self
def JK:type_of% @List.length_filter_le:=@List.length_filter_le
def JL:type_of% @List.getElem?_eq_none:=@List.getElem?_eq_none
def JM:type_of% @of_decide_eq_true:=@of_decide_eq_true
def JN:type_of% @beq_iff_eq:=@beq_iff_eq
def JO:type_of% @Int.tdiv_eq_ediv_of_nonneg:=@Int.tdiv_eq_ediv_of_nonneg
def JP:type_of% @Nat.le_add_right:=@Nat.le_add_right
def JQ:type_of% @Nat.add_zero:=@Nat.add_zero
def JR:type_of% @List.mergeSort_perm:=@List.mergeSort_perm
def JS:type_of% @BitVec.toNat_ofNat:=@BitVec.toNat_ofNat
def JT:type_of% @Array.ext':=@Array.ext'
def JU:type_of% @Nat.ne_of_beq_eq_false:=@Nat.ne_of_beq_eq_false
def JV:type_of% @List.singleton_append:=@List.singleton_append
def JW:type_of% @false_iff:=@false_iff
def JX:type_of% @Nat.zero_testBit:=@Nat.zero_testBit
def JY:type_of% @Bool.not_eq_true:=@Bool.not_eq_true
def JZ:type_of% @List.mem_iff_getElem:=@List.mem_iff_getElem
def Ja:type_of% @List.getElem?_set_ne:=@List.getElem?_set_ne
inductive WG(α:Type) where
 |leaf
 |node (v:Option α) (l r:WG α)
def WG.get{α:Type}:WG α->Nat->Option α
 | .leaf,_=>none
 | .node v l r,k=>bif Nat.beq k 0 then v else bif Nat.beq (k % 2) 1 then l.get (k / 2)else r.get (k / 2-1)
def WG.put{α:Type}(v:Option α):Nat->Nat->WG α->WG α
 |0,_,t=>t
 |f+1,k,.leaf=>
  bif Nat.beq k 0 then .node v .leaf .leaf else
  bif Nat.beq (k % 2) 1 then .node none (WG.put v f (k / 2) .leaf) .leaf else .node none .leaf (WG.put v f (k / 2-1) .leaf)
 |f+1,k,.node u l r=>
  bif Nat.beq k 0 then .node v l r else
  bif Nat.beq (k % 2) 1 then .node u (WG.put v f (k / 2) l) r else .node u l (WG.put v f (k / 2-1) r)
def WG.set{α:Type}(t:WG α)(k:Nat)(v:α):WG α:=WG.put (some v) (k+1) k t
def WG.erase{α:Type}(t:WG α)(k:Nat):WG α:=WG.put none (k+1) k t
inductive Wz where
 |stuck
 |mov (x:Operand)
 |pick (c a b:Operand)
 |bin (op:BinOp) (x y:Operand)
 |binB (neg:Bool) (x y:Operand)
 |binP (op:BinOp) (t:TypeId) (x y:Operand)
 |isNil (kind:Nat) (neg:Bool) (x:Operand)
 |un (op:UnOp) (x:Operand)
 |conv (k:IntKind) (x:Operand)
 |convP (s d:TypeId) (x:Operand)
 |alloc (zero:List Value)
 |box (x:Operand)
 |build (zero:List Value) (parts:List (Nat×Nat×Operand))
 |buildSlice (len c:Nat) (zero:List Value) (parts:List (Nat×Nat×Operand))
 |load (agg:Bool) (n:Nat) (x:Operand)
 |store (n:Nat) (a x:Operand)
 |idx (c:Nat) (x i:Operand)
 |idxArr (len c:Nat) (x i:Operand)
 |fld (off:Nat) (x:Operand)
 |part (agg:Bool) (off n:Nat) (x:Operand)
 |elem (len:Nat) (agg:Bool) (n:Nat) (x i:Operand)
 |elemStr (x i:Operand)
 |mkSlice (c:Nat) (zero:List Value) (l cp:Operand)
 |slice (c:Nat) (x:Operand) (lo hi mx:Option Operand)
 |sliceStr (x:Operand) (lo hi:Option Operand)
 |sliceArr (len c:Nat) (x:Operand) (lo hi mx:Option Operand)
 |len (x:Operand)
 |lenMap (x:Operand)
 |lenStr (x:Operand)
 |lenC (n:Nat)
 |append (c:Nat) (s x:Operand)
 |copy (c:Nat) (d s:Operand)
 |maxmin (isMax:Bool) (xs:List Operand)
 |mkMap
 |lookup (ok:Bool) (zero:Value) (m k:Operand)
 |update (m k v:Operand)
 |delete (m k:Operand)
 |clear (m:Operand)
 |mkFunc (fn:Fn) (first captured:List Operand)
 |extract (x:Operand) (i:Nat)
 |nilCheck (x:Operand)
 |call (f:Operand) (args:List Operand)
 |dfr (f:Operand) (args:List Operand)
 |dfrClear (t:TypeId) (type:TypeId) (consts:Array Bool) (m:Operand)
 |cplx (x y:Operand)
 |cpart (im:Bool) (x:Operand)
 |mkIface (t:TypeId) (x:Operand)
 |assert (t:TypeId) (ok:Bool) (x:Operand)
 |invoke (x:Operand) (name:String) (args:List Operand)
 |typeOf (rt:TypeId) (x:Operand)
 |recover
 |rangeStr (x:Operand)
 |nextStr (x:Operand)
 |clearS (c:Nat) (zero:List Value) (x:Operand)
 |bytesStr (x:Operand)
structure WE where
 dst:Option Nat
 guard:Option (Nat×Bool)
 op:Wz
inductive WT where
 |skip
 |region (ops:List WE)
 |regionC (ops:List (WE×List Nat))
 |seq (a b:WT)
 |cond (c:Operand) (Sl aK:WT)
 |block (id:Nat) (body:WT)
 |loop (body:WT)
 |rangeFunc (f:Operand) (params:List Nat) (assign body:WT)
 |exit (id:Nat)
 |scope (body:WT)
 |label (l:Nat)
 |goto (l:Nat)
 |ret
structure SQ where
 ntmps:Nat
 results:List (Nat×Option (Bool×Nat))
 body:WT
structure W6 where
 state:LoopState
 pending:Option WT
 fn:FuncId
 tm:WG Value
 params:List Nat
 assign:WT
 body:WT
 defers:Nat
inductive Wp where
 |row (cells:List Value) (own:Bool) (lo:Nat)
 |map (es:List MapEntry) (clock:Nat)
 |loop (r:W6)
 |deferred (ds:Option (List Deferred))
 |iter (s:ByteArray) (pos:Nat)
structure WA where
 n:Nat
 tab:WG Wp
 mark:Nat
 wr:List Nat
def WA.get(h:WA)(g:Nat):Option Wp:=h.tab.get g
def WA.log(h:WA)(g:Nat):List Nat:=bif Nat.ble h.mark g then h.wr else g::h.wr
def WA.push(h:WA)(o:Wp):WA:=⟨h.n+1,h.tab.set h.n o,h.mark,h.wr⟩
def WA.set(h:WA)(g:Nat)(o:Wp):WA:=⟨h.n,h.tab.set g o,h.mark,h.log g⟩
def WA.kill(h:WA)(g:Nat):WA:=⟨h.n,h.tab.erase g,h.mark,h.log g⟩
structure WM where
 tm:WG Value
 dfs:List Deferred
 round:Option Nat
inductive WL where
 |normal
 |exit (id:Nat)
 |goto (l:Nat)
 |ret
def yX:Value->Bool
 | .bool _| .int _ _| .float _ _| .complex _ _ _| .string _| .pointer none| .slice none 0 0| .map none| .nilFunc| .nilIface=>true
 |_=>false
def yk(l:List Value):Bool:=l.all yX
def zC(t:WG Value)(k:Nat):Value:=(t.get k).getD undef
def ev(t:WG Value):Operand->Value
 | .tmp k=>zC t k
 | .const v=>v
 | .global g=> .pointer (some ⟨g,0,none⟩)
 | .func f=> .func (.func f) #[] #[]
def ze{α:Type}(P:Program):Sem α->Option α
 | .pure a=>some a
 | .program k=>ze P (k P)
 | .mark _ k=>ze P k
 |_=>none
def zj:BinOp->Value->Value->Option Value
 | .add,.int k a,.int k' b=>if k=k' then some (.int k (k.wrap (a+b)))else none
 | .sub,.int k a,.int k' b=>if k=k' then some (.int k (k.wrap (a-b)))else none
 | .mul,.int k a,.int k' b=>if k=k' then some (.int k (k.wrap (a*b)))else none
 | .quo,.int k a,.int k' b=>if k=k' then(if b=0 then none else some (.int k (k.wrap (a.tdiv b))))else none
 | .rem,.int k a,.int k' b=>if k=k' then(if b=0 then none else some (.int k (a.tmod b)))else none
 | .and,.int k a,.int k' b=>if k=k' then some (.int k (k.wrap (BitVec.ofInt k.bits a&&& BitVec.ofInt k.bits b).toNat))else none
 | .or,.int k a,.int k' b=>if k=k' then some (.int k (k.wrap (BitVec.ofInt k.bits a|||BitVec.ofInt k.bits b).toNat))else none
 | .xor,.int k a,.int k' b=>if k=k' then some (.int k (k.wrap (BitVec.ofInt k.bits a ^^^ BitVec.ofInt k.bits b).toNat))else none
 | .andNot,.int k a,.int k' b=>if k=k' then some (.int k (k.wrap (BitVec.ofInt k.bits a&&& ~~~BitVec.ofInt k.bits b).toNat))else none
 | .shl,.int k a,.int _ b=>if b<0 then none else some (.int k (k.wrap (a*2 ^ (min b.toNat k.bits))))
 | .shr,.int k a,.int _ b=>if b<0 then none else some (.int k (a.fdiv (2 ^ (min b.toNat k.bits))))
 | .eql,.int k a,.int k' b=>if k=k' then some (.bool (a == b))else none
 | .neq,.int k a,.int k' b=>if k=k' then some (.bool (a != b))else none
 | .lss,.int k a,.int k' b=>if k=k' then some (.bool (a<b))else none
 | .leq,.int k a,.int k' b=>if k=k' then some (.bool (a<=b))else none
 | .gtr,.int k a,.int k' b=>if k=k' then some (.bool (a>b))else none
 | .geq,.int k a,.int k' b=>if k=k' then some (.bool (a>=b))else none
 |_,_,_=>none
def closedC:Value->Bool
 | .agg cs=>cs.toList.all yX
 |v=>yX v
def zAJ:Value->Bool
 | .iface _ v=>closedC v
 |v=>closedC v
def zE1:Nat->Value->Option Bool
 |0,.slice a _ _=>some a.isNone
 |1,.map a=>some a.isNone
 |2,.func (.func _) _ _=>some false
 |2,.func (.yield _) _ _=>some false
 |2,.nilFunc=>some true
 |3,.pointer a=>some a.isNone
 |4,.iface _ _=>some false
 |4,.nilIface=>some true
 |_,_=>none
def unV:UnOp->Value->Option Value
 | .not,.bool b=>some (.bool !b)
 | .neg,.int k n=>some (.int k (k.wrap (0-n)))
 |_,_=>none
def cut(cells:List Value)(off n:Nat):Option (List Value):=
 bif Nat.ble (off+n) cells.length then some ((cells.drop off).take n)else none
def zX(cells:List Value)(off:Nat)(vs:List Value):List Value:=cells.take off++vs++cells.drop (off+vs.length)
def zI(agg:Bool)(l:List Value):Option Value:=
 bif agg then some (.agg l.toArray)else match l with
  |[v]=>some v
  |_=>none
def z0(h:WA)(g:Nat):Option (List Value):=
 match h.get g with
 |some (.row cells _ _)=>some cells
 |_=>none
def ZE:List Value->List (Nat×Nat×Value)->Option (List Value)
 |cells,[]=>some cells
 |cells,(off,size,v)::rest=>
  bif Nat.beq v.cells.size size&&Nat.ble (off+size) cells.length then ZE (zX cells off v.cells.toList) rest else none
def zr(t:WG Value)(l:List (Nat×Nat×Operand)):List (Nat×Nat×Value):=l.map fun(a,b,x)=>(a,b,ev t x)
def zi(zero:List Value):Nat->List Value
 |0=>[]
 |n+1=>zero++zi zero n
def room:Nat:=4294967296
def mk(h:WA)(cells:List Value)(len c:Nat):Value×WA:=
 (.slice (some ⟨h.n,0,none⟩) len c,h.push (.row cells true 0))
def yq(c:Nat)(h:WA):Value->Option (List Value)
 | .slice none 0 0=>some []
 | .slice (some a) len k=>bif Nat.beq len 0 then some []else
  bif Nat.beq k c&&a.spot.isNone then(match z0 h a.block with
   |some cells=>cut cells a.off (len*c)
   |none=>none)else none
 |_=>none
def zK(l:List Value):Bool:=l.all fun| .agg _| .tuple _=>false|_=>true
def yR(c:Nat)(s x:Value)(h:WA):Option (Value×WA):=
 match yq c h x with
 |none=>none
 |some []=>(match s with
  | .slice none 0 0=>some (s,h)
  | .slice (some _) _ _=>some (s,h)
  |_=>none)
 |some (y::ys)=>
  let n:=(y::ys).length / c
  bif !zK (y::ys)then none else
  match s with
  | .slice none 0 0=>bif Nat.ble n room then some (mk h (y::ys) n c)else none
  | .slice (some a) len k=>
   bif Nat.ble (len+n) room&&a.spot.isNone then
    bif Nat.beq k 0 then(bif Nat.beq len 0 then some (mk h (y::ys) n c)else none)else
    bif Nat.beq k c then match h.get a.block with
     |some (.row cells true lo)=>match cut cells a.off (len*c)with
      |some xs=>bif Nat.ble lo (a.off+len*c)then
        some (.slice (some ⟨h.n,0,none⟩) (len+n) c,(h.kill a.block).push (.row (xs++y::ys) true (lo-a.off)))
       else none
      |none=>none
     |_=>none
    else none
   else none
  |_=>none
def zk(h:WA)(a:Addr)(vs:List Value):Option WA:=
 match h.get a.block with
 |some (.row cells true lo)=>
  bif Nat.ble (a.off+vs.length) cells.length&&Nat.ble lo a.off&&a.spot.isNone&&zK vs then some (h.set a.block (.row (zX cells a.off vs) true lo))else none
 |_=>none
def BX:Value->Option Nat
 | .int _ (.ofNat n)=>some n
 |_=>none
def Zk(c:Nat)(x:Value)(lo hi mx:Option Nat):Option Value:=
 match x with
 | .slice none 0 0=>
  match lo.getD 0,hi.getD 0,mx.getD 0 with
  |0,0,0=>some x
  |_,_,_=>none
 | .slice (some a) len k=>
  let l:=lo.getD 0
  let e:=hi.getD len
  bif Nat.ble l e&&Nat.ble e len&&a.spot.isNone then
   match mx with
   |none=>bif Nat.beq k c then some (.slice (some ⟨a.block,a.off+l*c,none⟩) (e-l) c)else bif Nat.beq len 0 then some x else none
   |some m=>bif Nat.beq m l&&Nat.beq e l then some (.slice (some a) 0 0)else bif Nat.beq k c&&(Nat.ble e m&&Nat.ble m len)then some (.slice (some ⟨a.block,a.off+l*c,none⟩) (e-l) c)else none
  else bif Nat.beq len 0&&(Nat.beq l 0&&(Nat.beq e 0&&mx.isNone))then some x else none
 |_=>none
def zOw:Value->Option Nat
 | .slice _ n _=>some n
 |_=>none
def zDb:Value->Value->Option Bool
 | .int k a,.int k' b=>if k=k' then some (a == b)else none
 |_,_=>none
def Yo(k:Value):List MapEntry->Nat->Option (Option (Nat×Value))
 |[],_=>some none
 |e::es,i=>match zDb k e.key with
  |some true=>some (some (i,e.val))
  |some false=>Yo k es (i+1)
  |none=>none
def zAX(v:Value):List MapEntry->Nat->List MapEntry
 |[],_=>[]
 |e::es,0=>{e with val:=v}::es
 |e::es,i+1=>e::zAX v es i
def zGS:List MapEntry->Nat->List MapEntry
 |[],_=>[]
 |_::es,0=>es
 |e::es,i+1=>e::zGS es i
def zLk(isMax:Bool):Value->List Value->Option Value
 |x,[]=>some x
 | .int k a,.int k' b::r=>if k=k' then zLk isMax (.int k (if isMax then(if b>a then b else a)else(if b<a then b else a))) r else none
 |_,_=>none
abbrev zIA(G rt ty:Nat):Value:= .func (.via ty #[⟨rt,G,false⟩] 0 false) #[] #[]
def zI3:Value->Option (Nat×Nat×Nat)
 | .func (.via ty path _ _) _ _=>match path.toList with
  |[s]=>some (s.index,s.struct,ty)
  |_=>none
 |_=>none
def zFF(P:Program)(rt:TypeId):Value->Option Value
 | .iface ty _=>some (zIA P.globals.size rt ty)
 |_=>none
def zE9(P:Program)(ty:TypeId)(ok:Bool)(v:Value):Option Value:=
 let Hh (x:Value):Value:=if ok then .tuple #[x,.bool true]else x
 let lW:Option Value:=bif ok then(match(P.info? ty).bind (·.zero)with
  |some z=>bif closedC z then some (.tuple #[z,.bool false])else none
  |none=>none)else none
 match P.underlying ty,v with
 |some (.interface _),.nilIface=>lW
 |some (.interface want),.iface t _=>match P.info? t with
  |some i=>bif (lacking want i.methods).isEmpty then some (Hh v)else lW
  |none=>none
 |some _,.nilIface=>lW
 |some _,.iface t u=>bif Nat.beq t ty then some (Hh u)else lW
 |_,_=>none
def zAF(P:Program)(ty:TypeId)(name:String):Option FuncId:=
 match P.info? ty with
 |some i=>match i.methods.find? (·.name == name)with
  |some m=>bif m.path.isEmpty then match m.func with
   |some (f,ptr)=>match P.underlying ty with
    |some (.pointer _)=>bif ptr then some f else none
    |some _=>bif ptr then none else some f
    |none=>none
   |none=>none
   else none
  |none=>none
 |none=>none
def zAx(P:Program)(f:FuncId)(name:String):Bool:=
 match P.funcs[f]? with
 |some fn=>fn.name == name&&fn.body.isNone&&fn.origin == ""
 |none=>false
def Y4(P:Program)(G rt ty:Nat):Option Bool:=
 match zAF P rt "Comparable" with
 |some f=>bif zAx P f "(internal/reflectlite.rtype).Comparable"&&Nat.beq G P.globals.size&&(!(P.holdsPacked P.depth ty)&& !(P.packed ty))then(P.info? ty).map (·.comparable)else none
 |none=>none
def zFh:List Value->Option (List UInt8)
 |[]=>some []
 | .int .u8 n::l=>(zFh l).map (UInt8.ofNat n.toNat::·)
 |_=>none
structure Ex where
 exec:WT->WM->WA->Option (WL×WM×WA)
 call:FuncId->List Value->WA->Option (Value×WA)
def Ex.bot:Ex:=⟨fun _ _ _=>none,fun _ _ _=>none⟩
def zCr:List Value->Nat->WG Value->WG Value
 |[],_,t=>t
 |v::l,k,t=>zCr l (k+1) (t.set k v)
def zCE:List Nat->List Value->WG Value->WG Value
 |p::ps,v::vs,t=>zCE ps vs (t.set p v)
 |_,_,t=>t
def Zf(l:Nat)(r:W6)(h:WA):WL->Value×WA
 | .normal=>(.bool true,h.set l (.loop {r with state:= .ready,pending:=none}))
 | .ret=>(.bool false,h.set l (.loop {r with state:= .done,pending:=some .ret}))
 | .exit id=>(.bool false,h.set l (.loop {r with state:= .done,pending:=some (.exit id)}))
 | .goto g=>(.bool false,h.set l (.loop {r with state:= .done,pending:=some (.goto g)}))
def zBd(ih:Ex)(l:Nat)(r:W6)(args:List Value)(h:WA):Option (Value×WA):=
 match ih.exec r.assign ⟨zCE r.params args r.tm,[],some l⟩ h with
 |some (.normal,fr,h1)=>
  match h1.get l with
  |some (.loop r1)=>
   bif (match r1.state with| .ready=>true|_=>false)then
    match ih.exec r.body fr (h1.set l (.loop {r1 with state:= .busy}))with
    |some (e,gB,h2)=>
     match gB.dfs,h2.get l with
     |[],some (.loop r2)=>some (Zf l r2 h2 e)
     |_,_=>none
    |none=>none
   else none
  |_=>none
 |_=>none
def zBO(ih:Ex)(f:Value)(args:List Value)(h:WA):Option (Value×WA):=
 match f with
 | .func (.func f) first cap=>ih.call f (first.toList++args++cap.toList) h
 | .func (.yield l) _ _=>
  match h.get l with
  |some (.loop r)=>bif Nat.beq args.length r.params.length then zBd ih l r args h else none
  |_=>none
 |_=>none
def zS5:Value->Value->Option Value
 | .float k a,.float k' b=>if k=k' then some (.complex k a b)else none
 |_,_=>none
def zK9(im:Bool):Value->Option Value
 | .complex k a b=>some (.float k (if im then b else a))
 |_=>none
def YS:Value->Option Value
 | .pointer (some a)=>some (.pointer (some a))
 | .func (.func f) first cap=>some (.func (.func f) first cap)
 | .func (.yield l) first cap=>some (.func (.yield l) first cap)
 |_=>none
def zAu(P:Program)(ih:Ex)(name:String)(x:Value)(args:List Value)(h:WA):Option (Value×WA):=
 match x with
 | .iface ty v=>match zAF P ty name with
  |some f=>ih.call f (v::args) h
  |none=>none
 |v=>match zI3 v with
  |some (G,rt,ty)=>bif name == "Comparable"&&args.isEmpty then(Y4 P G rt ty).map fun b=>(.bool b,h)else none
  |none=>none
def zCY(x:Value)(h:WA):Option (Value×WA):=
 match x with
 | .string s=>some (.pointer (some ⟨h.n,0,none⟩),h.push (.iter s 0))
 |_=>none
def zD7(x:Value)(h:WA):Option (Value×WA):=
 match x with
 | .pointer (some a)=>bif Nat.beq a.off 0&&a.spot.isNone then(match h.get a.block with
  |some (.iter s pos)=>bif Nat.ble (pos+1) s.size then
    some (.tuple #[.bool true,.int .i64 pos,.int .i32 (Utf8.decode s pos).1],h.set a.block (.iter s (pos+(Utf8.decode s pos).2)))
   else some (.tuple #[.bool false],h)
  |_=>none)else none
 |_=>none
def zCP(c:Nat)(zero:List Value)(x:Value)(h:WA):Option (Value×WA):=
 match x with
 | .slice none 0 0=>some (.tuple #[],h)
 | .slice (some a) n k=>bif Nat.beq n 0 then some (.tuple #[],h)else
  bif Nat.beq k c then(zk h a (zi zero n)).map (.tuple #[],·)else none
 |_=>none
def zG9(h:WA)(x:Value):Option Value:=
 match yq 1 h x with
 |some l=>(zFh l).map fun b=> .string ⟨b.toArray⟩
 |none=>none
def val(d:Option Nat)(fr:WM)(v:Value):WM:=
 match d with
 |some d=>{fr with tm:=fr.tm.set d v}
 |none=>fr
def SM(t:WG Value):Option Operand->Option (Option Nat)
 |none=>some none
 |some x=>(BX (ev t x)).map some
def WK(P:Program)(ih:Ex)(t:WG Value)(h:WA):Wz->Option (Value×WA)
 | .stuck=>none
 | .mov x=>some (ev t x,h)
 | .pick c a b=>match ev t c with
  | .bool c=>some (if c then ev t a else ev t b,h)
  |_=>none
 | .bin op x y=>(zj op (ev t x) (ev t y)).map (·,h)
 | .binB neg x y=>match ev t x,ev t y with
  | .bool x,.bool y=>some (.bool (if neg then x != y else x == y),h)
  |_,_=>none
 | .binP op ty x y=>bif zAJ (ev t x)&&zAJ (ev t y)then
   match ze P (do eqGuard op ty x y (ev t x) (ev t y);binOp op ty (ev t x) (ev t y))with
   |some v=>bif yX v then some (v,h)else none
   |none=>none
  else none
 | .isNil kind neg x=>(zE1 kind (ev t x)).map fun b=>(.bool (if neg then !b else b),h)
 | .un op x=>(unV op (ev t x)).map (·,h)
 | .conv k x=>match ev t x with
  | .int _ n=>some (.int k (k.wrap n),h)
  |_=>none
 | .convP s d x=>bif yX (ev t x)then
   match ze P (convert s d (ev t x))with
   |some v=>bif yX v then some (v,h)else none
   |none=>none
  else none
 | .alloc zero=>some (.pointer (some ⟨h.n,0,none⟩),h.push (.row zero true 0))
 | .box x=>some (.pointer (some ⟨h.n,0,none⟩),h.push (.row (ev t x).cells.toList true 0))
 | .build zero parts=>(ZE zero (zr t parts)).map fun cells=>(.agg cells.toArray,h)
 | .buildSlice len c zero parts=>(ZE (zi zero len) (zr t parts)).map fun cells=>mk h cells len c
 | .load agg n x=>match ev t x with
  | .pointer (some a)=>bif a.spot.isNone then(((z0 h a.block).bind fun cells=>cut cells a.off n).bind (zI agg)).map (·,h)else none
  |_=>none
 | .store n a x=>match ev t a with
  | .pointer (some a)=>bif Nat.beq (ev t x).cells.size n then(zk h a (ev t x).cells.toList).map (undef,·)else none
  |_=>none
 | .idx c x i=>match ev t x,BX (ev t i)with
  | .slice (some a) len k,some i=>bif Nat.ble (i+1) len&&Nat.beq k c&&a.spot.isNone then some (.pointer (some ⟨a.block,a.off+i*c,none⟩),h)else none
  |_,_=>none
 | .idxArr len c x i=>match ev t x,BX (ev t i)with
  | .pointer (some a),some i=>bif Nat.ble (i+1) len&&a.spot.isNone then some (.pointer (some ⟨a.block,a.off+i*c,none⟩),h)else none
  |_,_=>none
 | .fld off x=>match ev t x with
  | .pointer (some a)=>bif a.spot.isNone then some (.pointer (some ⟨a.block,a.off+off,none⟩),h)else none
  |_=>none
 | .part agg off n x=>match ev t x with
  | .agg cs=>((cut cs.toList off n).bind (zI agg)).map (·,h)
  |_=>none
 | .elem len agg n x i=>match ev t x,BX (ev t i)with
  | .agg cs,some i=>bif Nat.ble (i+1) len then((cut cs.toList (i*n) n).bind (zI agg)).map (·,h)else none
  |_,_=>none
 | .elemStr x i=>match ev t x,BX (ev t i)with
  | .string s,some i=>match s[i]? with
   |some b=>some (.int .u8 b.toNat,h)
   |none=>none
  |_,_=>none
 | .mkSlice c zero l cp=>match BX (ev t l),BX (ev t cp)with
  |some l,some cp=>bif Nat.ble l cp&&Nat.ble cp room then some (.slice (some ⟨h.n,0,none⟩) l c,h.push (.row (zi zero l) true 0))else none
  |_,_=>none
 | .slice c x lo hi mx=>match SM t lo,SM t hi,SM t mx with
  |some lo,some hi,some mx=>(Zk c (ev t x) lo hi mx).map (·,h)
  |_,_,_=>none
 | .sliceStr x lo hi=>match ev t x,SM t lo,SM t hi with
  | .string s,some lo,some hi=>
   let l:=lo.getD 0
   let e:=hi.getD s.size
   bif Nat.ble l e&&Nat.ble e s.size then some (.string (s.extract l e),h)else none
  |_,_,_=>none
 | .sliceArr len c x lo hi mx=>match ev t x with
  | .pointer (some a)=>match SM t lo,SM t hi,mx,z0 h a.block with
   |some lo,some hi,none,some cells=>
    bif Nat.ble (lo.getD 0) (hi.getD len)&&Nat.ble (hi.getD len) len&&a.spot.isNone&&Nat.ble (a.off+len*c) cells.length then some (.slice (some ⟨a.block,a.off+lo.getD 0*c,none⟩) (hi.getD len-lo.getD 0) c,h)else none
   |_,_,_,_=>none
  |_=>none
 | .len x=>(zOw (ev t x)).map fun n=>(.int .i64 n,h)
 | .lenStr x=>match ev t x with
  | .string s=>some (.int .i64 s.size,h)
  |_=>none
 | .lenMap x=>match ev t x with
  | .map none=>some (.int .i64 0,h)
  | .map (some g)=>(match h.get g with
   |some (.map es _)=>some (.int .i64 es.length,h)
   |_=>none)
  |_=>none
 | .lenC n=>some (.int .i64 n,h)
 | .append c s x=>yR c (ev t s) (ev t x) h
 | .copy c d s=>match ev t d with
  | .slice (some a) len k=>match yq c h (ev t s)with
   |some ys=>
    let m:=min (ys.length / c) len
    bif Nat.beq m 0 then some (.int .i64 0,h)else
    bif Nat.beq k c&&a.spot.isNone then(zk h a (ys.take (m*c))).map fun h=>(.int .i64 m,h)else none
   |none=>none
  | .slice none 0 0=>match yq c h (ev t s)with
   |some _=>some (.int .i64 0,h)
   |none=>none
  |_=>none
 | .maxmin isMax xs=>match xs with
  |x::r=>(zLk isMax (ev t x) (r.map (ev t))).map (·,h)
  |_=>none
 | .mkMap=>some (.map (some h.n),h.push (.map [] 0))
 | .lookup ok zero m k=>
   let es:Option (List MapEntry):=match ev t m with
    | .map none=>some []
    | .map (some g)=>(match h.get g with
     |some (.map es _)=>some es
     |_=>none)
    |_=>none
   match es with
   |none=>none
   |some es=>match ev t k with
    | .int kk n=>(match Yo (.int kk n) es 0 with
     |some (some (_,v))=>some (if ok then .tuple #[v,.bool true]else v,h)
     |some none=>some (if ok then .tuple #[zero,.bool false]else zero,h)
     |none=>none)
    |_=>none
 | .update m k v=>match ev t m,ev t k with
  | .map (some g),.int kk n=>(match h.get g with
   |some (.map es clock)=>(match Yo (.int kk n) es 0 with
    |some (some (i,_))=>some (undef,h.set g (.map (zAX (ev t v) es i) clock))
    |some none=>some (undef,h.set g (.map (es++[{key:= .int kk n,val:=ev t v,born:=clock}]) (clock+1)))
    |none=>none)
   |_=>none)
  |_,_=>none
 | .delete m k=>match ev t m,ev t k with
  | .map (some g),.int kk n=>(match h.get g with
   |some (.map es clock)=>(match Yo (.int kk n) es 0 with
    |some (some (i,_))=>some (.tuple #[],h.set g (.map (zGS es i) clock))
    |some none=>some (.tuple #[],h.set g (.map es clock))
    |none=>none)
   |_=>none)
  |_,_=>none
 | .clear m=>match ev t m with
  | .map (some g)=>match h.get g with
   |some (.map _ clock)=>some (.tuple #[],h.set g (.map [] clock))
   |_=>none
  |_=>none
 | .mkFunc fn first cap=>match fn with
  | .func f=>some (.func (.func f) (first.map (ev t)).toArray (cap.map (ev t)).toArray,h)
  |_=>none
 | .extract x i=>match ev t x with
  | .tuple vs=>match vs[i]? with
   |some v=>some (v,h)
   |none=>none
  |_=>none
 | .nilCheck x=>(YS (ev t x)).map (·,h)
 | .call f args=>zBO ih (ev t f) (args.map (ev t)) h
 | .dfr .. | .dfrClear .. | .recover=>none
 | .cplx x y=>(zS5 (ev t x) (ev t y)).map (·,h)
 | .cpart im x=>(zK9 im (ev t x)).map (·,h)
 | .mkIface ty x=>some (.iface ty (ev t x),h)
 | .assert ty ok x=>(zE9 P ty ok (ev t x)).map (·,h)
 | .invoke x name args=>zAu P ih name (ev t x) (args.map (ev t)) h
 | .typeOf rt x=>(zFF P rt (ev t x)).map (·,h)
 | .rangeStr x=>zCY (ev t x) h
 | .nextStr x=>zD7 (ev t x) h
 | .clearS c zero x=>zCP c zero (ev t x) h
 | .bytesStr x=>(zG9 h (ev t x)).map (·,h)
def zy(P:Program)(ih:Ex)(t:WG Value)(rd:Option Nat)(h:WA)(op:Wz):Option (Value×List Deferred×WA):=
 match op with
 | .dfr f args=>match rd,ev t f with
  |none,.func (.func f) first cap=>some (undef,[{target:= .fn (.func f) cap,args:=first++(args.map (ev t)).toArray}],h)
  |_,_=>none
 | .dfrClear ty type consts m=>match rd,ev t m with
  |none,.map (some g)=>some (undef,[{target:= .builtin .clear #[ty] type consts,args:=#[.map (some g)]}],h)
  |_,_=>none
 | .recover=>match rd with
  |none=>some (.nilIface,[],h)
  |some _=>none
 |op=>match WK P ih t h op with
  |some (v,h)=>some (v,[],h)
  |none=>none
def zP(t:WG Value):Option (Nat×Bool)->Bool
 |none=>true
 |some (j,want)=>match zC t j with
  | .bool b=>b == want
  |_=>false
def yO(P:Program)(ih:Ex)(o:WE)(fr:WM)(h:WA):Option (WM×WA):=
 bif zP fr.tm o.guard then match zy P ih fr.tm fr.round h o.op with
  |some (v,ds,h)=>some (val o.dst {fr with dfs:=ds++fr.dfs} v,h)
  |none=>none
 else some (val o.dst fr undef,h)
def yd(P:Program)(ih:Ex):List WE->WM->WA->Option (WM×WA)
 |[],fr,h=>some (fr,h)
 |o::l,fr,h=>match yO P ih o fr h with
  |some (fr,h)=>yd P ih l fr h
  |none=>none
def zc(t:WG Value)(o:WE):Option Nat:=
 bif zP t o.guard then(match o.op with
  | .load _ _ x| .sliceArr _ _ x _ _ _=>(match ev t x with
   | .pointer (some a)=>some a.block
   |_=>none)
  | .lookup _ _ m _| .lenMap m=>(match ev t m with
   | .map (some g)=>some g
   |_=>none)
  |_=>none)else none
def Y6(t:WG Value)(h:WA):Wz->Option (Nat×Nat×List Value)
 | .load _ n x=>(match ev t x with
  | .pointer (some a)=>((z0 h a.block).bind fun cells=>cut cells a.off n).map fun c=>(a.off,n,c)
  |_=>none)
 |_=>none
def eqV:Value->Value->Bool
 | .int k a,.int k' b=>decide (k=k')&&a == b
 | .bool a,.bool b=>a == b
 | .slice none a b,.slice none c d=>Nat.beq a c&&Nat.beq b d
 | .slice (some x) a b,.slice (some y) c d=>Nat.beq x.block y.block&&Nat.beq x.off y.off&&x.spot.isNone&&y.spot.isNone&&Nat.beq a c&&Nat.beq b d
 | .pointer none,.pointer none=>true
 | .pointer (some x),.pointer (some y)=>Nat.beq x.block y.block&&Nat.beq x.off y.off&&x.spot.isNone&&y.spot.isNone
 | .map none,.map none=>true
 | .map (some a),.map (some b)=>Nat.beq a b
 |_,_=>false
def zRt:List Value->List Value->Bool
 |[],[]=>true
 |a::l,b::m=>eqV a b&&zRt l m
 |_,_=>false
def zCi(h:WA)(g:Nat):Option (Nat×Nat×List Value)->Bool
 |some (off,n,cells)=>(match(z0 h g).bind fun row=>cut row off n with
  |some c=>zRt c cells
  |none=>false)
 |none=>false
def zE:Wz->Nat
 | .load .. | .lookup .. | .lenMap _| .sliceArr .. =>1
 | .alloc _| .box _| .buildSlice .. | .mkSlice .. | .mkMap=>3
 | .stuck| .store .. | .append .. | .copy .. | .update .. | .delete .. | .clear _| .call .. | .dfr .. | .dfrClear .. | .invoke .. | .recover| .rangeStr _| .nextStr _| .clearS .. | .bytesStr _=>2
 |_=>0
def yh(t:WG Value):Wz->Option (Wp×(Nat->Value))
 | .alloc zero=>some (.row zero true 0,fun g=> .pointer (some ⟨g,0,none⟩))
 | .box x=>some (.row (ev t x).cells.toList true 0,fun g=> .pointer (some ⟨g,0,none⟩))
 | .buildSlice len c zero parts=>(ZE (zi zero len) (zr t parts)).map fun cells=>(.row cells true 0,fun g=> .slice (some ⟨g,0,none⟩) len c)
 | .mkSlice c zero l cp=>match BX (ev t l),BX (ev t cp)with
  |some l,some cp=>bif Nat.ble l cp&&Nat.ble cp room then some (.row (zi zero l) true 0,fun g=> .slice (some ⟨g,0,none⟩) l c)else none
  |_,_=>none
 | .mkMap=>some (.map [] 0,fun g=> .map (some g))
 |_=>none
def WA.lay(h:WA)(g:Nat)(o:Wp):WA:=⟨h.n,h.tab.set g o,h.mark,h.log g⟩
def yC(P:Program)(ih:Ex)(g:Nat)(o:WE)(fr:WM)(h:WA):Option (WM×WA):=
 bif Nat.beq (zE o.op) 3 then
  bif zP fr.tm o.guard then match yh fr.tm o.op with
   |some (ob,f)=>some (val o.dst fr (f g),h.lay g ob)
   |none=>none
  else some (val o.dst fr undef,h)
 else yO P ih o fr h
def yD(P:Program)(ih:Ex):List (WE×List Nat)->Nat->Nat->List (Nat×Nat)->List (Nat×Nat×Option (Nat×Nat×List Value))->List (Nat×Nat)->WM->WA->Option (WM×WA×List (Nat×Nat))
 |[],_,_,ws,_,_,fr,h=>some (fr,h,ws)
 |(o,un)::l,i,g,ws,rs,bs,fr,h=>
  match yC P ih g o fr {h with mark:=h.n,wr:=[]} with
  |none=>none
  |some (ae,h')=>
   let ok:=(match zc fr.tm o with
    |some g=>(ws.all fun(j,g')=> !(Nat.beq g g'&&un.contains j))&&bs.all fun(j,n)=> !un.contains j||Nat.ble (g+1) n
    |none=>true)&&rs.all fun(j,g,vw)=> !(un.contains j&&h'.wr.contains g)||zCi h' g vw
   bif ok then yD P ih l (i+1) (bif Nat.beq (zE o.op) 3 then g+1 else g) (h'.wr.map (fun g=>(i,g))++ws) (match zc fr.tm o with
    |some g=>(i,g,Y6 fr.tm h o.op)::rs
    |none=>rs) ((i,h.n)::bs) ae h'
   else none
def YZ(P:Program)(ih:Ex)(ops:List (WE×List Nat))(fr:WM)(h:WA):Option (WM×WA):=
 match yD P ih ops 0 h.n [] [] [] fr {h with n:=h.n+(ops.filter fun x=>Nat.beq (zE x.1.op) 3).length} with
 |some (ae,h',ws)=>some (ae,{h' with mark:=h.mark,wr:=((ws.map (·.2)).filter fun g=> !Nat.ble h.mark g)++h.wr})
 |none=>none
def yG:WT->Nat->Option WT
 | .seq a b,l=>
  match yG a l with
  |some rest=>some (.seq rest b)
  |none=>yG b l
 | .label l',l=>if l' == l then some .skip else none
 |_,_=>none
def zG3:Nat:=4294967296
def Z5(ih:Ex):Nat->WT->WT->WM->WA->Option (WL×WM×WA)
 |0,_,_,_,_=>none
 |n+1,b,c,fr,h=>match ih.exec c fr h with
  |some (.goto l,fr,h)=>match yG b l with
   |some rest=>Z5 ih n b rest fr h
   |none=>some (.goto l,fr,h)
  |r=>r
def zAl(ih:Ex)(f:Value)(params:List Nat)(assign body:WT)(fr:WM)(d:Nat)(mark:List Deferred)(h:WA):Option (WL×WM×WA):=
 match zBO ih f [.func (.yield h.n) #[] #[]] (h.push (.loop {state:= .ready,pending:=none,fn:=0,tm:=fr.tm,params,assign,body,defers:=d}))with
 |none=>none
 |some (_,h2)=>match h2.get h.n with
  |some (.loop r)=>
   match r.state with
   | .busy=>none
   |_=>match r.pending with
    |none=>some (.normal,{fr with dfs:=mark++fr.dfs},h2.set h.n (.loop {r with state:= .exhausted}))
    |some .ret=>some (.ret,{fr with dfs:=mark++fr.dfs},h2.set h.n (.loop {r with state:= .exhausted}))
    |some (.exit id)=>some (.exit id,{fr with dfs:=mark++fr.dfs},h2.set h.n (.loop {r with state:= .exhausted}))
    |some (.goto g)=>some (.goto g,{fr with dfs:=mark++fr.dfs},h2.set h.n (.loop {r with state:= .exhausted}))
    |some _=>none
  |_=>none
def zBa(ih:Ex)(f:Value)(params:List Nat)(assign body:WT)(fr:WM)(h:WA):Option (WL×WM×WA):=
 match fr.round with
 |none=>zAl ih f params assign body fr h.n [{target:= .collected h.n,args:=#[]}] (h.push (.deferred (some [])))
 |some l=>match h.get l with
  |some (.loop r)=>zAl ih f params assign body fr r.defers [] h
  |_=>none
def zo(P:Program)(ih:Ex)(c:WT)(fr:WM)(h:WA):Option (WL×WM×WA):=
 match c with
 | .skip| .label _=>some (.normal,fr,h)
 | .region ops=>(yd P ih ops fr h).map fun(fr,h)=>(.normal,fr,h)
 | .regionC ops=>(YZ P ih ops fr h).map fun(fr,h)=>(.normal,fr,h)
 | .seq a b=>match ih.exec a fr h with
  |some (.normal,fr,h)=>ih.exec b fr h
  |r=>r
 | .cond c a b=>match ev fr.tm c with
  | .bool true=>ih.exec a fr h
  | .bool false=>ih.exec b fr h
  |_=>none
 | .block id b=>match ih.exec b fr h with
  |some (.exit eI,fr,h)=>if eI=id then some (.normal,fr,h)else some (.exit eI,fr,h)
  |r=>r
 | .loop b=>match ih.exec b fr h with
  |some (.normal,fr,h)=>ih.exec (.loop b) fr h
  |r=>r
 | .exit id=>some (.exit id,fr,h)
 | .goto l=>some (.goto l,fr,h)
 | .ret=>some (.ret,fr,h)
 | .scope b=>Z5 ih zG3 b b fr h
 | .rangeFunc f params assign body=>zBa ih (ev fr.tm f) params assign body fr h
def Y3(h:WA)(t:WG Value):Nat×Option (Bool×Nat)->Option Value
 |(k,none)=>some (zC t k)
 |(k,some (agg,n))=>match zC t k with
  | .pointer (some a)=>bif a.spot.isNone then((z0 h a.block).bind fun cells=>cut cells a.off n).bind (zI agg)else none
  |_=>none
def yI(h:WA)(t:WG Value):List (Nat×Option (Bool×Nat))->Option (List Value)
 |[]=>some []
 |r::l=>match Y3 h t r with
  |none=>none
  |some v=>match yI h t l with
   |none=>none
   |some vs=>some (v::vs)
def one:List Value->Value
 |[v]=>v
 |l=> .tuple l.toArray
def yi(ih:Ex):List Deferred->WA->Option WA
 |[],h=>some h
 |d::ds,h=>match d.target with
  | .fn (.func f) cap=>match ih.call f (d.args.toList++cap.toList) h with
   |some (_,h)=>yi ih ds h
   |none=>none
  | .builtin .clear _ _ _=>match d.args.toList with
   |[.map (some g)]=>match h.get g with
    |some (.map _ clock)=>yi ih ds (h.set g (.map [] clock))
    |_=>none
   |_=>none
  | .collected g=>match h.get g with
   |some (.deferred (some []))=>yi ih ds (h.set g (.deferred none))
   |_=>none
  |_=>none
def zDn(P:Program)(tab:FuncId->Option SQ)(ih:Ex)(f:FuncId)(args:List Value)(h:WA):Option (Value×WA):=
 match tab f with
 |none=>none
 |some fn=>
  match ih.exec fn.body ⟨zCr args 0 .leaf,[],none⟩ h with
  |some (e,fr,h)=>
   bif (match e with| .normal| .ret=>true|_=>false)then
    match yi ih fr.dfs h with
    |none=>none
    |some h=>match yI h fr.tm fn.results with
     |none=>none
     |some vs=>some (one vs,h)
   else none
  |none=>none
structure Ws where
 code:FuncId->Option SQ
 stub:FuncId->Option (List Value->WA->Option (Value×WA))
def zBl(P:Program)(tab:Ws)(ih:Ex)(f:FuncId)(args:List Value)(h:WA):Option (Value×WA):=
 match tab.stub f with
 |some s=>s args h
 |none=>zDn P tab.code ih f args h
def BE(P:Program)(tab:Ws):Nat->Ex
 |0=>Ex.bot
 |n+1=>⟨zo P (BE P tab n),zBl P tab (BE P tab n)⟩
def oM(d s:Nat):WE:=⟨some d,none,.mov (.tmp s)⟩
def oK(d:Nat)(v:Value):WE:=⟨some d,none,.mov (.const v)⟩
def oN(d:Nat)(i:Int):WE:=⟨some d,none,.mov (.const (.int .i64 i))⟩
def oZ(d:Nat):WE:=⟨some d,none,.mov (.const (.bool false))⟩
def oF(o d s:Nat):WE:=⟨some d,none,.fld o (.tmp s)⟩
def oL(d s:Nat):WE:=⟨some d,none,.load false 1 (.tmp s)⟩
def oA(n d s:Nat):WE:=⟨some d,none,.load true n (.tmp s)⟩
def oB(o:BinOp)(d x y:Nat):WE:=⟨some d,none,.bin o (.tmp x) (.tmp y)⟩
def oC(o:BinOp)(d x:Nat)(i:Int):WE:=⟨some d,none,.bin o (.tmp x) (.const (.int .i64 i))⟩
def oD(o:BinOp)(d x:Nat)(i:Int):WE:=⟨some d,none,.bin o (.tmp x) (.const (.int .u8 i))⟩
def oI(c d x y:Nat):WE:=⟨some d,none,.idx c (.tmp x) (.tmp y)⟩
def oS(n a x:Nat):WE:=⟨none,none,.store n (.tmp a) (.tmp x)⟩
def oQ(d s:Nat):WE:=⟨some d,none,.len (.tmp s)⟩
def oP(d a b:Nat):WE:=⟨some d,none,.pick (.tmp a) (.tmp b) (.const (.bool false))⟩
def oO(d a b:Nat):WE:=⟨some d,none,.pick (.tmp a) (.const (.bool true)) (.tmp b)⟩
def oX(d s:Nat):WE:=⟨some d,none,.box (.tmp s)⟩
def oE(d s i:Nat):WE:=⟨some d,none,.extract (.tmp s) i⟩
def oW(d s:Nat):WE:=⟨some d,none,.un .not (.tmp s)⟩
def oY(c d x y:Nat):WE:=⟨some d,none,.append c (.tmp x) (.tmp y)⟩
def o1(d f a:Nat):WE:=⟨some d,none,.call (.func f) [.tmp a]⟩
def o2(d f a b:Nat):WE:=⟨some d,none,.call (.func f) [.tmp a,.tmp b]⟩
def o3(d f a b c:Nat):WE:=⟨some d,none,.call (.func f) [.tmp a,.tmp b,.tmp c]⟩
def o4(d f a b c e:Nat):WE:=⟨some d,none,.call (.func f) [.tmp a,.tmp b,.tmp c,.tmp e]⟩
def oG(j:Nat)(o:WE):WE:=⟨o.dst,some (j,true),o.op⟩
def oH(j:Nat)(o:WE):WE:=⟨o.dst,some (j,false),o.op⟩
def oR(l:List WE):WT:= .region l
def oT(c e:Nat):WT:= .cond (.tmp c) .skip (.exit e)
def ZK(P:Program)(t:TypeId):Option Nat:=(P.info? t).map (·.size)
def zEO(P:Program)(t:TypeId):Option Bool:=
 match P.underlying t with
 |some (.struct _)|some (.array _ _)=>some true
 |some _=>some false
 |none=>none
def zKc(P:Program)(t:TypeId):Option Value:=(P.info? t).bind (·.zero)
def zAD(P:Program)(t:TypeId):Option (List Value):=
 match zKc P t,ZK P t with
 |some v,some n=>bif yk v.cells.toList&&Nat.beq v.cells.size n then some v.cells.toList else none
 |_,_=>none
def Zg(P:Program)(e:TypeId):Option Nat:=
 match P.info? e with
 |some i=>bif Nat.ble 1 i.size&&Nat.ble 1 i.bytes&&Nat.ble i.bytes 1024&&(match i.zero with|some z=>Nat.beq z.cells.size i.size|none=>false)then some i.size else none
 |none=>none
def yZ(P:Program)(t:TypeId):Option TypeId:=
 match P.underlying t with
 |some (.slice e)=>some e
 |_=>none
def Zm(P:Program):Operand->Bool
 | .const v=>yX v
 | .global g=>Nat.ble (g+1) P.globals.size
 |_=>true
def zCs(P:Program)(l:List Operand):Bool:=l.all (Zm P)
def Yc(place:Nat->Option (Nat×Nat)):List (Nat×Operand)->Option (List (Nat×Nat×Operand))
 |[]=>some []
 |(i,x)::l=>match place i,Yc place l with
  |some (o,n),some r=>some ((o,n,x)::r)
  |_,_=>none
def zIe(P:Program)(fs:Array Field)(i:Nat):Option (Nat×Nat):=
 match fs[i]? with
 |some f=>(ZK P f.type).map fun n=>(f.offset,n)
 |none=>none
def zAh(P:Program)(b:Builtin)(args:List Operand)(ts:List TypeId):Option Wz:=
 match b,args,ts with
 | .len,[x],[t]=>match P.underlying t with
  |some (.array n _)=>some (.lenC n)
  |some (.pointer a)=>match P.underlying a with
   |some (.array n _)=>some (.lenC n)
   |_=>none
  |some .string=>some (.lenStr x)
  |some (.slice _)=>some (.len x)
  |some (.map _ _)=>some (.lenMap x)
  |_=>none
 | .append,[s,x],t::u::_=>match yZ P t with
  |some e=>match Zg P e,P.underlying u with
   |_,some (.int _)=>none
   |some c,some (.slice e')=>bif e' == e then some (.append c s x)else none
   |_,_=>none
  |none=>none
 | .copy,[d,s],t::_=>match yZ P t with
  |some e=>(Zg P e).map fun c=> .copy c d s
  |none=>none
 | .max,xs,_=>some (.maxmin true xs)
 | .min,xs,_=>some (.maxmin false xs)
 | .delete,[m,k],t::_=>match P.underlying t with
  |some (.map kt _)=>(match P.underlying kt with
   |some (.int _)=>some (.delete m k)
   |_=>none)
  |_=>none
 | .clear,[m],t::_=>match P.underlying t with
  |some (.map _ _)=>some (.clear m)
  |some (.slice e)=>match Zg P e,zAD P e with
   |some n,some z=>some (.clearS n z m)
   |_,_=>none
  |_=>none
 |_,_,_=>none
def zAV(P:Program)(b:Builtin)(args:List Operand)(ts:List TypeId):Option Wz:=
 match b,args with
 | .complex,[x,y]=>some (.cplx x y)
 | .real,[x]=>some (.cpart false x)
 | .imag,[x]=>some (.cpart true x)
 | .recover,[]=>some .recover
 |b,args=>zAh P b args ts
def zMI(P:Program):Option TypeId:=(P.cutTypes.find? (·.1 == "internal/reflectlite.rtype")).map (·.2)
def zM1(P:Program)(f:Operand)(args:List Operand):Wz:=
 match f,args with
 | .func g,[x]=>bif zAx P g "internal/reflectlite.TypeOf" then(match zMI P with
  |some rt=> .typeOf rt x
  |none=> .call f args)else .call f args
 |_,_=> .call f args
def Y1:TypeDesc->Option Nat
 | .slice _=>some 0
 | .map _ _=>some 1
 | .func _ _ _=>some 2
 | .pointer _=>some 3
 | .interface _=>some 4
 |_=>none
def zA6:Nat->Operand->Bool
 |0,.const (.slice none 0 0)=>true
 |1,.const (.map none)=>true
 |2,.const .nilFunc=>true
 |3,.const (.pointer none)=>true
 |4,.const .nilIface=>true
 |_,_=>false
def SW(P:Program)(o:Oper):Option Wz:=
 bif !(zCs P o.op.operands.toList)then none else
 match o.op with
 | .move x| .assign x=>some (.mov x)
 | .pick c a b=>some (.pick c a b)
 | .alloc e=>(zAD P e).map .alloc
 | .box _ x=>some (.box x)
 | .build t parts=>match zAD P t,P.underlying t with
  |some z,some (.struct fs)=>bif !(fs.toList.all fun f=>(ZK P f.type).isSome)then none else(Yc (zIe P fs) parts.toList).map (.build z)
  |some z,some (.array _ e)=>match ZK P e with
   |some n=>(Yc (fun i=>some (i*n,n)) parts.toList).map (.build z)
   |none=>none
  |_,_=>none
 | .buildSlice t len parts=>match yZ P t with
  |some e=>match Zg P e,zAD P e with
   |some n,some z=>bif Nat.ble (len*n) 65536 then(Yc (fun i=>some (i*n,n)) parts.toList).map (.buildSlice len n z)else none
   |_,_=>none
  |none=>none
 | .load t x=>match zEO P t,ZK P t with
  |some a,some n=>some (.load a n x)
  |_,_=>none
 | .store t a x=>(ZK P t).map fun n=> .store n a x
 | .nilCheck x=>some (.nilCheck x)
 | .binOp op t x y _=>match P.underlying t with
  |some (.int _)=>some (.bin op x y)
  |some .bool=>(match op with
   | .eql=>some (.binB false x y)
   | .neq=>some (.binB true x y)
   |_=>none)
  |some (.struct _)|some (.array _ _)|some .string|some (.float _)|some (.complex _)=>some (.binP op t x y)
  |some d=>match Y1 d with
   |some k=>(match op,zA6 k x,zA6 k y with
    | .eql,_,true=>some (.isNil k false x)
    | .neq,_,true=>some (.isNil k true x)
    | .eql,true,_=>some (.isNil k false y)
    | .neq,true,_=>some (.isNil k true y)
    |_,_,_=>bif Nat.beq k 4 then some (.binP op t x y)else none)
   |none=>none
  |none=>none
 | .unOp op _ x=>some (.un op x)
 | .convert s d x=>match P.underlying s,P.underlying d with
  |some (.int _),some (.int k)=>some (.conv k x)
  |some (.int _),some .string|some .string,some .string|some (.int _),some (.float _)|some (.float _),some (.float _)|some (.float _),some (.int _)=>some (.convP s d x)
  |some (.slice e),some .string=>(match P.underlying e with
   |some (.int .u8)=>(match Zg P e with
    |some 1=>some (.bytesStr x)
    |_=>none)
   |_=>none)
  |_,_=>none
 | .makeInterface t x=>match P.underlying t with
  |some (.interface _)=>none
  |some _=>some (.mkIface t x)
  |none=>none
 | .typeAssert x _ t ok=>some (.assert t ok x)
 | .range t x=>match P.underlying t with
  |some .string=>some (.rangeStr x)
  |_=>none
 | .next it true=>some (.nextStr it)
 | .makeFunc fn first captured=>some (.mkFunc fn first.toList captured.toList)
 | .makeMap t none=>match P.underlying t with
  |some (.map _ _)=>some .mkMap
  |_=>none
 | .makeSlice t l c=>match yZ P t with
  |some e=>match Zg P e,zAD P e with
   |some n,some z=>some (.mkSlice n z l c)
   |_,_=>none
  |none=>none
 | .slice t x lo hi mx=>bif mx.isSome&&hi.isNone then none else match P.underlying t with
  |some (.slice e)=>(Zg P e).map fun c=> .slice c x lo hi mx
  |some .string=>bif mx.isSome then none else some (.sliceStr x lo hi)
  |some (.array n e)=>(Zg P e).map fun c=> .sliceArr n c x lo hi mx
  |_=>none
 | .fieldAddr t x f=>match P.underlying t with
  |some (.struct fs)=>match fs[f]? with
   |some f=>match ZK P f.type with
    |some (_+1)=>some (.fld f.offset x)
    |_=>none
   |none=>none
  |_=>none
 | .field t x f=>match P.underlying t with
  |some (.struct fs)=>match fs[f]? with
   |some f=>match zEO P f.type,ZK P f.type with
    |some a,some n=>some (.part a f.offset n x)
    |_,_=>none
   |none=>none
  |_=>none
 | .indexAddr t x i=>match P.underlying t with
  |some (.slice e)=>(Zg P e).map fun c=> .idx c x i
  |some (.array n e)=>(Zg P e).map fun c=> .idxArr n c x i
  |_=>none
 | .index t x i=>match P.underlying t with
  |some (.array n e)=>match zEO P e,ZK P e with
   |some a,some c=>some (.elem n a c x i)
   |_,_=>none
  |some .string=>some (.elemStr x i)
  |_=>none
 | .lookup t m k ok=>match P.underlying t with
  |some (.map kt e)=>match P.underlying kt,zKc P e with
   |some (.int _),some z=>bif yk z.cells.toList then some (.lookup ok z m k)else none
   |_,_=>none
  |_=>none
 | .mapUpdate t m k v| .insert t m k v=>match P.underlying t with
  |some (.map kt _)=>(match P.underlying kt with
   |some (.int _)=>some (.update m k v)
   |_=>none)
  |_=>none
 | .extract x i=>some (.extract x i)
 | .call c=>match c.callee with
  | .value f=>some (zM1 P f c.args.toList)
  | .builtin b=>zAV P b c.args.toList c.argTypes.toList
  | .invoke x name=>some (.invoke x name c.args.toList)
 | .defer c=>match c.callee with
  | .value f=>some (.dfr f c.args.toList)
  | .builtin .clear=>match c.args.toList,c.argTypes.toList with
   |[m],[t]=>match P.underlying t with
    |some (.map _ _)=>some (.dfrClear t o.type (c.args.map fun| .const _=>true|_=>false) m)
    |_=>none
   |_,_=>none
  |_=>none
 |_=>none
def zD5(P:Program)(nt:Nat)(ops:Array Oper)(o:Oper):Option WE:=
 bif (match o.dst with|some d=>Nat.ble (d+1) nt|none=>true)then
  let op:=(SW P o).getD .stuck
  match o.guard with
   |none=>some ⟨o.dst,none,op⟩
   |some (j,want)=>match(ops[j]?).bind (·.dst)with
    |some s=>some ⟨o.dst,some (s,want),op⟩
    |none=>none
 else none
def Yy(P:Program)(nt:Nat)(ops:Array Oper):List Oper->Option (List WE)
 |[]=>some []
 |o::l=>match zD5 P nt ops o,Yy P nt ops l with
  |some a,some b=>some (a::b)
  |_,_=>none
def zFy:Option Operand->List Operand
 |some x=>[x]
 |none=>[]
def zGh:Wz->List Operand
 | .stuck| .alloc _| .lenC _| .mkMap| .recover=>[]
 | .mov x| .cpart _ x| .mkIface _ x| .assert _ _ x| .typeOf _ x| .rangeStr x| .nextStr x| .clearS _ _ x| .bytesStr x| .un _ x| .conv _ x| .convP _ _ x| .box x| .load _ _ x| .fld _ x| .part _ _ _ x| .len x| .lenMap x| .lenStr x| .extract x _| .nilCheck x| .isNil _ _ x| .clear x=>[x]
 | .pick c a b=>[c,a,b]
 | .bin _ x y| .binB _ x y| .binP _ _ x y| .store _ x y| .idx _ x y| .idxArr _ _ x y| .elem _ _ _ x y| .elemStr x y| .mkSlice _ _ x y| .append _ x y| .copy _ x y| .lookup _ _ x y| .delete x y| .cplx x y=>[x,y]
 | .update m k v=>[m,k,v]
 | .build _ parts| .buildSlice _ _ _ parts=>parts.map (·.2.2)
 | .slice _ x lo hi mx| .sliceArr _ _ x lo hi mx=>x::(zFy lo++zFy hi++zFy mx)
 | .sliceStr x lo hi=>x::(zFy lo++zFy hi)
 | .maxmin _ xs=>xs
 | .mkFunc _ first cap=>first++cap
 | .call f args| .dfr f args| .invoke f _ args=>f::args
 | .dfrClear _ _ _ m=>[m]
def zRc(l:List Operand):List Nat:=l.filterMap fun| .tmp t=>some t|_=>none
def YD(a:WE):List Nat:=zRc (zGh a.op)++(match a.guard with|some (s,_)=>[s]|none=>[])
def Zx:List Oper->List Nat->List Nat
 |[],acc=>acc
 |o::l,acc=>Zx l (acc++[o.after.toList.foldl (fun s e=>bif Region.binds .any e then s|||2 ^ e.on|||acc.getD e.on 0 else s) 0])
def zFI(ops:Array Oper):Bool:=
 ops.toList.zipIdx.all fun(o,i)=>o.after.toList.all fun e=> !Region.binds .any e||Nat.ble (e.on+1) i
def zH1(b:List Nat)(x y:Nat×WE):Bool:=
 let(i,ai):=x
 let(j,aj):=y
 (b.getD j 0).testBit i||
  (!(Nat.beq (zE aj.op) 2&&Nat.ble 2 (zE ai.op))&&
   (match ai.dst with
    |some d=> !(YD aj).contains d&&(match aj.dst with|some d'=> !Nat.beq d d'|none=>true)
    |none=>true)&&
   (match aj.dst with
    |some d=> !(YD ai).contains d
    |none=>true))
def zFB(b:List Nat):List (Nat×WE)->Bool
 |[]=>true
 |x::l=>l.all (zH1 b x)&&zFB b l
def zVX(b:List Nat)(before:List (Nat×Wz))(j:Nat)(op:Wz):List Nat:=
 before.filterMap fun(i,o)=>bif !(b.getD j 0).testBit i&&((Nat.beq (zE o) 1&&Nat.beq (zE op) 2)||(Nat.ble 2 (zE o)&&Nat.beq (zE op) 1))then some i else none
def zCd(b:List Nat):List (Nat×Wz)->Nat->List WE->List (WE×List Nat)
 |_,_,[]=>[]
 |before,j,a::l=>(a,zVX b before j a.op)::zCd b (before++[(j,a.op)]) (j+1) l
def zHD(ops:Array Oper)(as:List WE):Option WT:=
 let b:=Zx ops.toList []
 bif zFI ops&&zFB b ((List.range ops.size).zip as)then some (.regionC (zCd b [] 0 as))else none
def yN(P:Program)(nt:Nat):Code->Option WT
 | .skip=>some .skip
 | .region _ ops draw=>match Yy P nt ops ops.toList with
  |some as=>bif draw then zHD ops as else some (.region as)
  |none=>none
 | .seq a b=>match yN P nt a,yN P nt b with
  |some a,some b=>some (.seq a b)
  |_,_=>none
 | .cond c a b=>match Zm P c,yN P nt a,yN P nt b with
  |true,some a,some b=>some (.cond c a b)
  |_,_,_=>none
 | .block id b=>(yN P nt b).map (.block id)
 | .loop b=>(yN P nt b).map .loop
 | .rangeFunc f ps a b=>match Zm P f,yN P nt a,yN P nt b with
  |true,some a,some b=>bif ps.toList.all (fun p=>Nat.ble (p+1) nt)then some (.rangeFunc f ps.toList a b)else none
  |_,_,_=>none
 | .exit id=>some (.exit id)
 | .scope b=>(yN P nt b).map .scope
 | .label l=>some (.label l)
 | .goto l=>some (.goto l)
 | .ret=>some .ret
 | .refuse _=>none
def Yb(P:Program):List ResultVar->Option (List (Nat×Option (Bool×Nat)))
 |[]=>some []
 | .tmp t::l=>(Yb P l).map ((t,none)::·)
 | .cell a t::l=>match zEO P t,ZK P t,Yb P l with
  |some g,some n,some r=>some ((a,some (g,n))::r)
  |_,_,_=>none
def zGJ(P:Program)(f:FuncId):Option SQ:=
 match P.funcs[f]? with
 |some fn=>match fn.body,Yb P fn.results.toList with
  |some c,some rs=>bif fn.name == "runtime.NumGoroutine" then none else
   match yN P fn.ntmps c with
   |some b=>some ⟨fn.ntmps,rs,b⟩
   |none=>none
  |_,_=>none
 |none=>none
def zDP{α:Type}(v:Option α):∀ (f k:Nat) (t:WG α) (j:Nat),k<f->(WG.put v f k t).get j=if j=k then v else t.get j:=by
 intro f;induction f with
 |zero=>intro k t j h;omega
 |succ f ih=>
  intro k t j h;have hb:∀ a b:Nat,Nat.beq a b=decide (a=b):=fun a b=>by
   rw[GX];simp
  cases t with
  |leaf=>
   simp only[WG.put,hb];by_cases hk:k=0
   ·subst hk;simp only[WG.get];by_cases hj:j=0<;>simp[hj,WG.get,hb]
   ·by_cases ho:k % 2=1
    ·simp only[hk,ho,decide_true,decide_false,cond_true,QU,WG.get,hb];rw[ih (k / 2) .leaf (j / 2) ω];by_cases hj:j=0
     ·have:¬j=k:=ω
      simp[hj,WG.get];intro h;omega
     ·by_cases eJ:j % 2=1
      ·have:(j / 2=k / 2)↔j=k:=ω
       simp[hj,eJ,WG.get,this]
      ·have:¬j=k:=ω
       simp[hj,eJ,WG.get,this]
    ·simp only[hk,ho,decide_false,QU,WG.get,hb];rw[ih (k / 2-1) .leaf (j / 2-1) ω];by_cases hj:j=0
     ·simp[hj,WG.get];intro h;omega
     ·by_cases eJ:j % 2=1
      ·have:¬j=k:=ω
       simp[hj,eJ,WG.get,this]
      ·have:(j / 2-1=k / 2-1)↔j=k:=ω
       simp[hj,eJ,WG.get,this]
  |node u l r=>
   simp only[WG.put,hb];by_cases hk:k=0
   ·subst hk;simp only[decide_true,cond_true,WG.get,hb];by_cases hj:j=0<;>simp[hj]
   ·by_cases ho:k % 2=1
    ·simp only[hk,ho,decide_true,decide_false,cond_true,QU,WG.get,hb];rw[ih (k / 2) l (j / 2) ω];by_cases hj:j=0
     ·simp[hj];intro h;omega
     ·by_cases eJ:j % 2=1
      ·have:(j / 2=k / 2)↔j=k:=ω
       simp[hj,eJ,this]
      ·have:¬j=k:=ω
       simp[hj,eJ,this]
    ·simp only[hk,ho,decide_false,QU,WG.get,hb];rw[ih (k / 2-1) r (j / 2-1) ω];by_cases hj:j=0
     ·simp[hj];intro h;omega
     ·by_cases eJ:j % 2=1
      ·have:¬j=k:=ω
       simp[hj,eJ,this]
      ·have:(j / 2-1=k / 2-1)↔j=k:=ω
       simp[hj,eJ,this]
def zU{α:Type}(t:WG α)(k:Nat)(v:α)(j:Nat):(t.set k v).get j=if j=k then some v else t.get j:=
 zDP _ _ _ _ _ ω
def zGC{α:Type}(t:WG α)(k j:Nat):(t.erase k).get j=if j=k then none else t.get j:=
 zDP _ _ _ _ _ ω
def zg(t:WG Value)(k:Nat)(v:Value)(j:Nat):zC (t.set k v) j=if j=k then v else zC t j:=by
 unfold zC;rw[zU];split<;>rfl
def zM(h:WA)(o:Wp)(g:Nat):(h.push o).get g=if g=h.n then some o else h.get g:=zU _ _ _ _
def zn(h:WA)(k:Nat)(o:Wp)(g:Nat):(h.set k o).get g=if g=k then some o else h.get g:=zU _ _ _ _
def yn(h:WA)(k g:Nat):(h.kill k).get g=if g=k then none else h.get g:=zGC _ _ _
structure Pl where
 b:Nat
 base:Nat
 n:Nat
inductive WI(σ:Nat->Option Pl):Value->Value->Prop
 |bool (b:Bool):WI σ (.bool b) (.bool b)
 |int (k:IntKind) (n:Int):WI σ (.int k n) (.int k n)
 |float (k:FloatKind) (n:Nat):WI σ (.float k n) (.float k n)
 |complex (k:FloatKind) (a b:Nat):WI σ (.complex k a b) (.complex k a b)
 |string (s:ByteArray):WI σ (.string s) (.string s)
 |pnil:WI σ (.pointer none) (.pointer none)
 |ptr {g off:Nat} {pl:Pl} (h:σ g=some pl):WI σ (.pointer (some ⟨g,off,none⟩)) (.pointer (some ⟨pl.b,pl.base+off,none⟩))
 |snil:WI σ (.slice none 0 0) (.slice none 0 0)
 |slice {g off len c cap:Nat} {pl:Pl} (h:σ g=some pl) (hc:0<c) (hl:len<=cap) (hn:pl.base+off+cap*c<=pl.n):
   WI σ (.slice (some ⟨g,off,none⟩) len c) (.slice (some ⟨pl.b,pl.base+off,none⟩) len cap)
 |szero (a x:Addr) (c:Nat):WI σ (.slice (some a) 0 c) (.slice (some x) 0 0)
 |mnil:WI σ (.map none) (.map none)
 |map {g:Nat} {pl:Pl} (h:σ g=some pl):WI σ (.map (some g)) (.map (some pl.b))
 |nilFunc:WI σ .nilFunc .nilFunc
 |func (f:FuncId) {a a' c c':Array Value} (ha:a.size=a'.size) (hc:c.size=c'.size)
   (ra:∀ (i:Nat) (x y:Value),a[i]?=some x->a'[i]?=some y->WI σ x y) (rc:∀ (i:Nat) (x y:Value),c[i]?=some x->c'[i]?=some y->WI σ x y):
   WI σ (.func (.func f) a c) (.func (.func f) a' c')
 |yield {l:Nat} {pl:Pl} (h:σ l=some pl):WI σ (.func (.yield l) #[] #[]) (.func (.yield pl.b) #[] #[])
 |rtype (G rt ty:Nat):WI σ (.func (.via ty #[⟨rt,G,false⟩] 0 false) #[] #[]) (.iface rt (.agg #[.pointer (some ⟨G,ty,none⟩)]))
 |nilIface:WI σ .nilIface .nilIface
 |iface (t:TypeId) {v v':Value} (h:WI σ v v'):WI σ (.iface t v) (.iface t v')
 |agg {a a':Array Value} (ha:a.size=a'.size) (ra:∀ (i:Nat) (x y:Value),a[i]?=some x->a'[i]?=some y->WI σ x y):WI σ (.agg a) (.agg a')
 |tuple {a a':Array Value} (ha:a.size=a'.size) (ra:∀ (i:Nat) (x y:Value),a[i]?=some x->a'[i]?=some y->WI σ x y):WI σ (.tuple a) (.tuple a')
def Le(σ σ':Nat->Option Pl):Prop:=∀ g pl,σ g=some pl->σ' g=some pl
def Le.refl(σ:Nat->Option Pl):Le σ σ:=fun _ _ h=>h
def Le.trans{a b c:Nat->Option Pl}(h:Le a b)(k:Le b c):Le a c:=fun _ _ x=>k _ _ (h _ _ x)
def WI.mono{σ σ':Nat->Option Pl}(hs:Le σ σ'){v v':Value}(h:WI σ v v'):WI σ' v v':=by
 induction h with
 |bool b=>exact .bool b
 |int k n=>exact .int k n
 |float k n=>exact .float k n
 |complex k a b=>exact .complex k a b
 |string s=>exact .string s
 |pnil=>exact .pnil
 |ptr h=>exact .ptr (hs _ _ h)
 |snil=>exact .snil
 |slice h hc hl hn=>exact .slice (hs _ _ h) hc hl hn
 |szero a x c=>exact .szero a x c
 |mnil=>exact .mnil
 |map h=>exact .map (hs _ _ h)
 |nilFunc=>exact .nilFunc
 |func f ha hc _ _ ia ic=>exact .func f ha hc ia ic
 |yield h=>exact .yield (hs _ _ h)
 |rtype G rt ty=>exact .rtype G rt ty
 |nilIface=>exact .nilIface
 |iface t _ ih=>exact .iface t ih
 |agg ha _ ia=>exact .agg ha ia
 |tuple ha _ ia=>exact .tuple ha ia
def WI.undef(σ:Nat->Option Pl):WI σ undef undef:= .tuple rfl (fun i x y h=>by simp at h)
def VK(σ:Nat->Option Pl):∀ {v:Value},yX v=true->WI σ v v
 | .bool b,_=> .bool b
 | .int k n,_=> .int k n
 | .float k n,_=> .float k n
 | .complex k a b,_=> .complex k a b
 | .string s,_=> .string s
 | .pointer none,_=> .pnil
 | .slice none 0 0,_=> .snil
 | .map none,_=> .mnil
 | .nilFunc,_=> .nilFunc
 | .nilIface,_=> .nilIface
def WI.closed_eq{σ:Nat->Option Pl}{v v':Value}(h:WI σ v v')(hc:yX v=true):v'=v:=by
 cases h<;>simp_all [yX]
def WQ(σ:Nat->Option Pl)(l l':List Value):Prop:=l.length=l'.length/\∀ (i:Nat) (x y:Value),l[i]?=some x->l'[i]?=some y->WI σ x y
def WQ.mono{σ σ':Nat->Option Pl}(hs:Le σ σ'){l l':List Value}(h:WQ σ l l'):WQ σ' l l':=⟨h.1,fun i x y a b=>(h.2 i x y a b).mono hs⟩
def WQ.nil(σ:Nat->Option Pl):WQ σ [] []:=⟨rfl,fun i x y h=>by simp at h⟩
def WQ.cons{σ:Nat->Option Pl}{x y:Value}{l l':List Value}(h:WI σ x y)(hl:WQ σ l l'):WQ σ (x::l) (y::l'):=
 ⟨by simp[hl.1],fun i a b ha hb=>by
  cases i with
  |zero=>simp at ha hb;subst ha hb;exact h
  |succ i=>simp at ha hb;exact hl.2 i a b ha hb⟩
def WQ.append{σ:Nat->Option Pl}{a a' b b':List Value}(h:WQ σ a a')(k:WQ σ b b'):WQ σ (a++b) (a'++b'):=
 ⟨by simp[h.1,k.1],fun i x y hx hy=>by
  by_cases hi:i<a.length
  ·rw[Qg hi]at hx;rw[Qg (by rw[<-h.1];exact hi)]at hy;exact h.2 i x y hx hy
  ·rw[Qk ω]at hx;rw[Qk (by rw[<-h.1];omega)]at hy;rw[<-h.1]at hy;exact k.2 _ x y hx hy⟩
def WQ.drop{σ:Nat->Option Pl}{a a':List Value}(h:WQ σ a a')(n:Nat):WQ σ (a.drop n) (a'.drop n):=
 ⟨by simp[h.1],fun i x y hx hy=>by rw[GN]at hx hy;exact h.2 _ x y hx hy⟩
def WQ.take{σ:Nat->Option Pl}{a a':List Value}(h:WQ σ a a')(n:Nat):WQ σ (a.take n) (a'.take n):=
 ⟨by simp[h.1],fun i x y hx hy=>by
  rw[GE]at hx hy;split at hx<;>simp_all;exact h.2 _ x y hx hy⟩
def VM(σ:Nat->Option Pl){l:List Value}(h:yk l=true):WQ σ l l:=
 ⟨rfl,fun i x y hx hy=>by
  have:x=y:=by rw[hx]at hy;exact Qm hy
  subst this;exact VK σ (QX.1 h x (Gb hx))⟩
def WQ.get{σ:Nat->Option Pl}{l l':List Value}(h:WQ σ l l'){i:Nat}{x:Value}(hx:l[i]?=some x):∃ y,l'[i]?=some y/\WI σ x y:=by
 have hi:i<l.length:=(QS.1 hx).1;have hy:l'[i]?=some (l'[i]'(by rw[<-h.1];exact hi)):=QB _;exact⟨_,hy,h.2 i _ _ hx hy⟩
def WI.cells{σ:Nat->Option Pl}{v v':Value}(h:WI σ v v'):WQ σ v.cells.toList v'.cells.toList:=by
 cases h with
 |agg ha ra=>exact⟨by simpa [Value.cells]using ha,fun i x y hx hy=>ra i x y (by simpa [Value.cells]using hx) (by simpa [Value.cells]using hy)⟩
 |bool b=>exact .cons (.bool b) (.nil _)
 |int k n=>exact .cons (.int k n) (.nil _)
 |float k n=>exact .cons (.float k n) (.nil _)
 |complex k a b=>exact .cons (.complex k a b) (.nil _)
 |string s=>exact .cons (.string s) (.nil _)
 |pnil=>exact .cons .pnil (.nil _)
 |ptr h=>exact .cons (.ptr h) (.nil _)
 |snil=>exact .cons .snil (.nil _)
 |slice h hc hl hn=>exact .cons (.slice h hc hl hn) (.nil _)
 |szero a x c=>exact .cons (.szero a x c) (.nil _)
 |mnil=>exact .cons .mnil (.nil _)
 |map h=>exact .cons (.map h) (.nil _)
 |nilFunc=>exact .cons .nilFunc (.nil _)
 |func f ha hc ra rc=>exact .cons (.func f ha hc ra rc) (.nil _)
 |yield h=>exact .cons (.yield h) (.nil _)
 |rtype G rt ty=>exact .cons (.rtype G rt ty) (.nil _)
 |nilIface=>exact .cons .nilIface (.nil _)
 |iface t h=>exact .cons (.iface t h) (.nil _)
 |tuple ha ra=>exact .cons (.tuple ha ra) (.nil _)
def VW{σ:Nat->Option Pl}{l l':List Value}(h:WQ σ l l'):WI σ (.agg l.toArray) (.agg l'.toArray):=
 .agg (by simpa using h.1) (fun i x y hx hy=>h.2 i x y (by simpa using hx) (by simpa using hy))
def zE5(P:Program)(nt:Nat)(c:Code)(a:WT):Prop:=yN P nt c=some a
def zMn:Option WT->Option Code->Prop
 |none,none=>True
 |some .ret,some .ret=>True
 |some (.exit i),some (.exit j)=>i=j
 |some (.goto i),some (.goto j)=>i=j
 |_,_=>False
structure B9(P:Program)(σ:Nat->Option Pl)(r:W6)(r':Loop):Prop where
 state:r'.state=r.state
 pending:zMn r.pending r'.pending
 tm:∀ k,WI σ (zC r.tm k) (r'.tmps.getD k Go.undef)
 params:r'.params.toList=r.params
 code:∃ nt,nt<=r'.tmps.size/\(∀ p∈r.params,p<nt)/\zE5 P nt r'.assign r.assign/\zE5 P nt r'.body r.body
 defers:∃ pl,σ r.defers=some pl/\r'.defers=pl.b
def Bl(σ:Nat->Option Pl)(es aF:List MapEntry):Prop:=
 es.length=aF.length/\∀ (i:Nat) (e e':MapEntry),es[i]?=some e->aF[i]?=some e'->e'.key=e.key/\e'.born=e.born/\WI σ e.val e'.val
def BY(P:Program)(σ:Nat->Option Pl)(pl:Pl)(o:Wp)(w:World):Prop:=
 match o with
 | .row cells own _=>∃ c elem fr,w.heap[pl.b]?=some (.cells c elem fr)/\c.size=pl.n/\pl.base+cells.length<=pl.n/\
   (∀ i x,cells[i]?=some x->∃ y,c[pl.base+i]?=some y/\WI σ x y)/\(own=true->fr=(0,0))
 | .map es clock=>∃ aF,w.heap[pl.b]?=some (.map aF clock)/\Bl σ es aF.toList
 | .loop r=>∃ r',w.heap[pl.b]?=some (.loop r')/\B9 P σ r r'
 | .deferred none=>w.heap[pl.b]?=some (.deferred none)
 | .deferred (some ds)=>ds=[]/\w.heap[pl.b]?=some (.deferred (some []))
 | .iter s pos=>pl.base=0/\w.heap[pl.b]?=some (.stringIter s pos)
def zCx:Wp->Bool
 | .row _ own _=>own
 |_=>true
def BZ(pl:Pl)(o:Wp)(bW:Pl)(o':Wp):Prop:=
 match o,o' with
 | .row cells own lo,.row dg ph i7=>¬(own=true/\ph=true)/\(own=true->bW.base+dg.length<=pl.base+lo)/\(ph=true->pl.base+cells.length<=bW.base+i7)
 |_,_=>False
structure Wd(P:Program)(B:Nat)(σ:Nat->Option Pl)(h:WA)(w:World):Prop where
 globals:∀ g,g<P.globals.size->∃ pl,σ g=some pl/\pl.b=g/\pl.base=0
 lt:∀ g pl,σ g=some pl->g<h.n/\pl.b<w.heap.size
 live:∀ g o,h.get g=some o->∃ pl,σ g=some pl/\BY P σ pl o w/\(zCx o=true->B<=pl.b)
 apart:∀ g o g' o' pl bW,h.get g=some o->h.get g'=some o'->g≠g'->σ g=some pl->σ g'=some bW->pl.b=bW.b->BZ pl o bW o'
 le:B<=w.heap.size
def zK0(σ:Nat->Option Pl)(h:WA)(b:Nat):Prop:=∃ g o pl,h.get g=some o/\zCx o=true/\σ g=some pl/\pl.b=b
structure W2(P:Program)(B:Nat)(σ:Nat->Option Pl)(h:WA)(w:World)(σ':Nat->Option Pl)(h':WA)(w':World):Prop where
 le:Le σ σ'
 rel:Wd P B σ' h' w'
 os:w'.os=w.os
 tape:w'.tape=w.tape
 output:w'.output=w.output
 size:w.heap.size<=w'.heap.size
 kept:∀ b,b<w.heap.size->¬zK0 σ h b->w'.heap[b]?=w.heap[b]?
 from_:∀ b,zK0 σ' h' b->w.heap.size<=b\/zK0 σ h b
 old:h.n<=h'.n/\∀ g,g<h.n->σ' g=σ g
def W2.refl{P:Program}{B:Nat}{σ:Nat->Option Pl}{h:WA}{w:World}(hr:Wd P B σ h w):W2 P B σ h w σ h w:=
 ⟨.refl _,hr,rfl,rfl,rfl,QF _,fun _ _ _=>rfl,fun _ h=> .inr h,QF _,fun _ _=>rfl⟩
def W2.trans{P:Program}{B:Nat}{σ σ' Hj:Nat->Option Pl}{h h' ef:WA}{w w' rY:World}(e:W2 P B σ h w σ' h' w')(f:W2 P B σ' h' w' Hj ef rY):
  W2 P B σ h w Hj ef rY where
 le:=e.le.trans f.le
 rel:=f.rel
 os:=f.os.trans e.os
 tape:=f.tape.trans e.tape
 output:=f.output.trans e.output
 size:=QM e.size f.size
 kept:=fun b hb ho=>(f.kept b (QG hb e.size) (fun tL=>(e.from_ b tL).elim (fun h=>by omega) ho)).trans (e.kept b hb ho)
 from_:=fun b ho=>(f.from_ b ho).elim (fun h=> .inl (QM e.size h)) (e.from_ b)
 old:=⟨QM e.old.1 f.old.1,fun g hg=>(f.old.2 g (QG hg e.old.1)).trans (e.old.2 g hg)⟩
def Wd.drew{P:Program}{B:Nat}{σ:Nat->Option Pl}{h:WA}{w:World}(n:Nat)(hr:Wd P B σ h w):Wd P B σ h {w with drawn:=n}:=by
 refine⟨hr.globals,hr.lt,fun g o hg=> ?_,hr.apart,hr.le⟩;obtain⟨pl,h1,h2,h3⟩:=hr.live g o hg;exact⟨pl,h1,by cases o with
  |deferred ds=>cases ds<;>exact h2
  |_=>exact h2,h3⟩
def W2.drew{P:Program}{B:Nat}{σ:Nat->Option Pl}{h:WA}{w:World}(n:Nat)(hr:Wd P B σ h w):W2 P B σ h w σ h {w with drawn:=n}:=
 ⟨.refl _,hr.drew n,rfl,rfl,rfl,QF _,fun _ _ _=>rfl,fun _ h=> .inr h,QF _,fun _ _=>rfl⟩
def W2.below{P:Program}{B:Nat}{σ σ':Nat->Option Pl}{h h':WA}{w w':World}(hr:Wd P B σ h w)(e:W2 P B σ h w σ' h' w'):RowKit.Below B w w':=
 ⟨e.os,e.tape,e.output,e.size,fun b hb=>e.kept b (QG hb hr.le) (fun⟨g,o,pl,h1,h2,h3,h4⟩=>by
  obtain⟨bW,h5,_,h7⟩:=hr.live g o h1;rw[h3]at h5;cases h5;have:=h7 h2;omega)⟩
def BY.keep{P:Program}{σ σ':Nat->Option Pl}{pl:Pl}{o:Wp}{w w':World}(hs:Le σ σ')(hb:w'.heap[pl.b]?=w.heap[pl.b]?)(h:BY P σ pl o w):BY P σ' pl o w':=by
 cases o with
 |row cells own lo=>
  obtain⟨c,elem,fr,h1,h2,h3,h4,h5⟩:=h;exact⟨c,elem,fr,hb.trans h1,h2,h3,fun i x hx=>let⟨y,a,b⟩:=h4 i x hx;⟨y,a,b.mono hs⟩,h5⟩
 |map es clock=>
  obtain⟨aF,h1,h2⟩:=h;exact⟨aF,hb.trans h1,h2.1,fun i e e' a b=>let⟨x,y,z⟩:=h2.2 i e e' a b;⟨x,y,z.mono hs⟩⟩
 |loop r=>
  obtain⟨r',h1,h2⟩:=h;exact⟨r',hb.trans h1,⟨h2.state,h2.pending,fun k=>(h2.tm k).mono hs,h2.params,h2.code,let⟨pl,a,b⟩:=h2.defers;⟨pl,hs _ _ a,b⟩⟩⟩
 |deferred ds=>
  cases ds with
  |none=>exact hb.trans h
  |some ds=>exact⟨h.1,hb.trans h.2⟩
 |iter s pos=>exact⟨h.1,hb.trans h.2⟩
def yu(σ:Nat->Option Pl)(g:Nat)(pl:Pl):Nat->Option Pl:=fun k=>if k=g then some pl else σ k
def YV{P:Program}{B:Nat}{σ:Nat->Option Pl}{h:WA}{w:World}(hr:Wd P B σ h w)(pl:Pl):Le σ (yu σ h.n pl):=fun g p hg=>by
 unfold yu;have:=(hr.lt g p hg).1;rw[QC ω];exact hg
def yB(σ:Nat->Option Pl)(g:Nat)(pl:Pl):yu σ g pl g=some pl:=QJ rfl
def Wd.push{P:Program}{B:Nat}{σ:Nat->Option Pl}{h:WA}{w w':World}{O:Obj}{o:Wp}{n:Nat}(hr:Wd P B σ h w)(hh:w'.heap=w.heap.push O)
  (hd:w'.os=w.os/\w'.tape=w.tape/\w'.output=w.output)
  (ho:BY P (yu σ h.n ⟨w.heap.size,0,n⟩) ⟨w.heap.size,0,n⟩ o w'):W2 P B σ h w (yu σ h.n ⟨w.heap.size,0,n⟩) (h.push o) w':=by
 have hsz:w'.heap.size=w.heap.size+1:=by rw[hh];simp
 have hle:=YV hr ⟨w.heap.size,0,n⟩;have cW:∀ b,b<w.heap.size->w'.heap[b]?=w.heap[b]?:=fun b hb=>by
  rw[hh,Array.getElem?_push_lt hb,Q6 hb]
 have bD:h.get h.n=none:=by
  cases hg:h.get h.n with
  |none=>rfl
  |some o=>obtain⟨pl,h1,_⟩:=hr.live _ _ hg;have:=(hr.lt _ _ h1).1;omega
 have ab:∀ g pl,yu σ h.n ⟨w.heap.size,0,n⟩ g=some pl->g=h.n/\pl=⟨w.heap.size,0,n⟩\/g≠h.n/\σ g=some pl:=fun g pl hg=>by
  unfold yu at hg;split at hg
  ·exact .inl ⟨by assumption,(Qm hg).symm⟩
  ·exact .inr ⟨by assumption,hg⟩
 refine⟨hle,⟨fun g hg=> ?_,fun g pl hg=> ?_,fun g o' hg=> ?_,?_,by rw[hsz];have:=hr.le;omega⟩,hd.1,hd.2.1,hd.2.2,ω,fun b hb _=>cW b hb,fun b ⟨g,o',pl,h1,h2,h3,h4⟩=> ?_,GU _,fun g hg=>QC (Nat.ne_of_lt hg)⟩
 ·obtain⟨pl,h1,h2⟩:=hr.globals g hg;exact⟨pl,hle _ _ h1,h2⟩
 ·rcases ab g pl hg with⟨rfl,rfl⟩|⟨_,h1⟩
  ·exact⟨by simp[WA.push],by simp[hsz]⟩
  ·have:=hr.lt g pl h1;exact⟨by simp[WA.push];omega,ω⟩
 ·rw[zM]at hg;split at hg
  ·rename_i e;subst e;cases hg;exact⟨_,yB _ _ _,ho,fun _=>hr.le⟩
  ·obtain⟨pl,h1,h2,h3⟩:=hr.live g o' hg;exact⟨pl,hle _ _ h1,h2.keep hle (cW _ (hr.lt _ _ h1).2),h3⟩
 ·intro g o1 g' o2 pl bW h1 h2 ah h3 h4 hb;rw[zM]at h1 h2;rcases ab g pl h3 with⟨e,rfl⟩|⟨e,i9⟩<;>rcases ab g' bW h4 with⟨e',rfl⟩|⟨e',g9⟩
  ·exact absurd (e.trans e'.symm) ah
  ·have:=(hr.lt _ _ g9).2;simp at hb;omega
  ·have:=(hr.lt _ _ i9).2;simp at hb;omega
  ·rw[QC e]at h1;rw[QC e']at h2;exact hr.apart g o1 g' o2 pl bW h1 h2 ah i9 g9 hb
 ·rw[zM]at h1;rcases ab g pl h3 with⟨e,rfl⟩|⟨e,i9⟩
  ·left;rw[<-h4];exact QF _
  ·rw[QC e]at h1;exact .inr ⟨g,o',pl,h1,h2,i9,h4⟩
def Wd.put{P:Program}{B:Nat}{σ:Nat->Option Pl}{h:WA}{w w':World}{O':Obj}{g:Nat}{o o':Wp}{pl:Pl}(hr:Wd P B σ h w)(hg:h.get g=some o)(fH:zCx o=true)
  (Hk:zCx o'=true) (hp:σ g=some pl)
  (hh:w'.heap.size=w.heap.size/\w'.heap[pl.b]?=some O'/\∀ b,b≠pl.b->w'.heap[b]?=w.heap[b]?) (hd:w'.os=w.os/\w'.tape=w.tape/\w'.output=w.output)
  (ho:BY P σ pl o' w')
  (dh:∀ g2 o2 b7,h.get g2=some o2->g2≠g->σ g2=some b7->b7.b=pl.b->BZ pl o b7 o2->BY P σ b7 o2 w->BY P σ b7 o2 w'/\BZ pl o' b7 o2):
  W2 P B σ h w σ (h.set g o') w':=by
 have sym:∀ {pl o bW o'},BZ pl o bW o'->BZ bW o' pl o:=fun {pl o bW o'} h=>by
  cases o<;>cases o'<;>first|exact h.elim|exact⟨fun x=>h.1 ⟨x.2,x.1⟩,h.2.2,h.2.1⟩
 refine⟨.refl _,⟨hr.globals,fun k p hk=>⟨(hr.lt k p hk).1,by rw[hh.1];exact(hr.lt k p hk).2⟩,fun k o2 hk=> ?_,?_,by rw[hh.1];exact hr.le⟩,hd.1,hd.2.1,hd.2.2,ω,fun b hb dy=>hh.2.2 b fun e=>dy ⟨g,o,pl,hg,fH,hp,e.symm⟩,?_,QF _,fun _ _=>rfl⟩
 ·rw[zn]at hk;split at hk
  ·rename_i e;subst e;cases hk;obtain⟨bW,h1,_,h3⟩:=hr.live k o hg;rw[hp]at h1;cases h1;exact⟨pl,hp,ho,fun _=>h3 fH⟩
  ·rename_i e;obtain⟨b7,h1,h2,h3⟩:=hr.live k o2 hk;refine⟨b7,h1,?_,h3⟩;by_cases hb:b7.b=pl.b
   ·exact(dh k o2 b7 hk e h1 hb (hr.apart g o k o2 pl b7 hg hk (fun x=>e x.symm) hp h1 hb.symm) h2).1
   ·exact h2.keep (.refl _) (hh.2.2 _ hb)
 ·intro k o1 k' o2 p1 p2 h1 h2 ah h3 h4 hb;rw[zn]at h1 h2;split at h1<;>split at h2
  ·rename_i e e';exact absurd (e.trans e'.symm) ah
  ·rename_i e e';subst e;cases h1;rw[hp]at h3;cases h3;obtain⟨b7,h5,h6,_⟩:=hr.live k' o2 h2;rw[h4]at h5;cases h5;exact(dh k' o2 p2 h2 e' h4 hb.symm (hr.apart k o k' o2 pl p2 hg h2 ah hp h4 hb) h6).2
  ·rename_i e e';subst e';cases h2;rw[hp]at h4;cases h4;obtain⟨Kx,h5,h6,_⟩:=hr.live k o1 h1;rw[h3]at h5;cases h5;exact sym (dh k o1 p1 h1 e h3 hb (hr.apart k' o k o1 pl p1 hg h1 (fun x=>ah x.symm) hp h3 hb.symm) h6).2
  ·exact hr.apart k o1 k' o2 p1 p2 h1 h2 ah h3 h4 hb
 ·rintro b ⟨k,o2,p,h1,h2,h3,h4⟩;rw[zn]at h1;split at h1
  ·rename_i e;subst e;exact .inr ⟨k,o,p,hg,fH,h3,h4⟩
  ·exact .inr ⟨k,o2,p,h1,h2,h3,h4⟩
open Go.RowKit
def WW(P:Program)(B:Nat)(σ:Nat->Option Pl)(h:WA)(w:World)(s:Sem Next)(v:Value)(h':WA):Prop:=
 ∃ σ' w',((∃ cv,s.run P w=.ok (.value cv) w'/\WI σ' v cv)\/(s.run P w=.ok .skip w'/\v=Go.undef))/\W2 P B σ h w σ' h' w'
section
variable {P:Program}{B:Nat}{σ:Nat->Option Pl}{h:WA}{w:World}
def WW.same{s:Sem Value}{v cv:Value}(hr:Wd P B σ h w)(hs:s.run P w=.ok cv w)(hv:WI σ v cv):
  WW P B σ h w (do pure (.value (<-s))) v h:=⟨σ,w,.inl ⟨cv,by simp[hs],hv⟩,W2.refl hr⟩
def zBA(hr:Wd P B σ h w){t:WG Value}{a:Act}(ht:∀ k,WI σ (zC t k) (a.tmps.getD k Go.undef)){x:Operand}(ho:Zm P x=true):WI σ (ev t x) (a.eval x):=by
 cases x with
 |tmp k=>exact ht k
 |const v=>exact VK σ ho
 |global g=>
  have hg:g<P.globals.size:=by simp[Zm]at ho;omega
  obtain⟨pl,h1,h2,h3⟩:=hr.globals g hg;have:=WI.ptr (off:=0) h1;rw[h2,h3]at this;exact this
 |func f=>exact .func f rfl rfl (fun i x y h=>by simp at h) (fun i x y h=>by simp at h)
def zRE{op:BinOp}{x y x' y' v:Value}(hx:WI σ x x')(hy:WI σ y y')(hv:zj op x y=some v)(ty:TypeId):
  (binOp op ty x' y').run P w=.ok v w/\WI σ v v:=by
 have hc:yX x=true/\yX y=true/\yX v=true:=by
  unfold zj at hv;split at hv<;>first
   |(cases hv;done)
   |(simp only[Option.ite_none_right_eq_some,Option.ite_none_left_eq_some,QA]at hv
     first|(obtain⟨_,rfl⟩:=hv;exact⟨rfl,rfl,rfl⟩)|(obtain⟨_,_,rfl⟩:=hv;exact⟨rfl,rfl,rfl⟩))
 obtain⟨cx,cy,cv⟩:=hc;have ex:=hx.closed_eq cx;have ey:=hy.closed_eq cy;subst ex ey;refine⟨?_,VK σ cv⟩;unfold zj at hv;split at hv<;>first
  |(cases hv;done)
  |(simp only[Option.ite_none_right_eq_some,Option.ite_none_left_eq_some,QA]at hv
    first
     |(obtain⟨rfl,rfl⟩:=hv;simp[binOp,Op.intArith,Op.intBits,Op.intCmp];done)
     |(obtain⟨rfl,hb,rfl⟩:=hv;simp[binOp,Op.intDiv,hb];done)
     |(obtain⟨hb,rfl⟩:=hv;simp[binOp,Op.shift,hb];done))
def zSI{op:UnOp}{x x' v:Value}(hx:WI σ x x')(hv:unV op x=some v):(Op.unary op x').run P w=.ok v w/\WI σ v v:=by
 unfold unV at hv;split at hv<;>first|(cases hv;done)|skip
 ·cases hx;simp only[QA]at hv;subst hv;exact⟨rfl,.bool _⟩
 ·cases hx;simp only[QA]at hv;subst hv;exact⟨by simp[Op.unary,Op.intArith],.int _ _⟩
def zEi{α:Type}(s:Sem α){a:α}:ze P s=some a->s.run P w=.ok a w:=by
 induction s with
 |pure b=>intro h;simp[ze]at h;simp[h]
 |program k ih=>intro h;simp only[ze]at h;simp only[Sem.run];exact ih _ h
 |mark m k ih=>intro h;simp only[ze]at h;simp only[Sem.run];exact ih h
 |_=>intro h;simp[ze]at h
def zKV{d:TypeDesc}{ty:TypeId}{k:Nat}{x x' c:Value}{z:Operand}{b:Bool}(hd:P.underlying ty=some d)(hk:Y1 d=some k)(hx:WI σ x x')(hv:zE1 k x=some b)(hc:zA6 k z=true)(hz:z=.const c):
  ∀ (y:Operand) (neg:Bool),
   ((do eqGuard (if neg then .neq else .eql) ty y z x' c;binOp (if neg then .neq else .eql) ty x' c:Sem Value).run P w=.ok (.bool (if neg then !b else b)) w)/\
   ((do eqGuard (if neg then .neq else .eql) ty z y c x';binOp (if neg then .neq else .eql) ty c x':Sem Value).run P w=.ok (.bool (if neg then !b else b)) w):=by
 have hE:∀ {v u:Value} {r:Bool},(∀ D,(Op.equalIn (D+1) ty v u).run P w=.ok r w)->(Op.equal ty v u).run P w=.ok r w:=fun h=>h 9999;subst hz;intro y neg;cases d with
 |slice e=>
  simp only[Y1,QA]at hk;subst hk;have bH:c=.slice none 0 0:=by
   unfold zA6 at hc;split at hc<;>first|(cases hc;done)|skip
   all_goals (rename_i h;first|(cases h;rfl)|(rename_i h2;cases h2;rfl)|simp_all)
  subst bH;cases hx<;>simp only[zE1]at hv<;>first|(cases hv;done)|skip
  all_goals
   simp only[QA]at hv
   subst hv
   cases neg<;>simp only[eqGuard,binOp]<;>refine⟨?_,?_⟩<;>(simp;rw[hE (fun D=>by rw[Op.equalIn,Sem.run_bind,run_underlying hd];rfl)];rfl)
 |map e f=>
  simp only[Y1,QA]at hk;subst hk;have bH:c=.map none:=by
   unfold zA6 at hc;split at hc<;>first|(cases hc;done)|skip
   all_goals (rename_i h;first|(cases h;rfl)|(rename_i h2;cases h2;rfl)|simp_all)
  subst bH;cases hx<;>simp only[zE1]at hv<;>first|(cases hv;done)|skip
  all_goals
   simp only[QA]at hv
   subst hv
   cases neg<;>simp only[eqGuard,binOp]<;>refine⟨?_,?_⟩<;>(simp;rw[hE (fun D=>by rw[Op.equalIn,Sem.run_bind,run_underlying hd];rfl)];rfl)
 |func e f g=>
  simp only[Y1,QA]at hk;subst hk;have bH:c=.nilFunc:=by
   unfold zA6 at hc;split at hc<;>first|(cases hc;done)|skip
   all_goals (rename_i h;first|(cases h;rfl)|(rename_i h2;cases h2;rfl)|simp_all)
  subst bH;cases hx<;>simp only[zE1]at hv<;>first|(cases hv;done)|skip
  all_goals
   simp only[QA]at hv
   subst hv
   cases neg<;>simp only[eqGuard,binOp]<;>refine⟨?_,?_⟩<;>(simp;rw[hE (fun D=>by rw[Op.equalIn,Sem.run_bind,run_underlying hd];rfl)];rfl)
 |pointer e=>
  simp only[Y1,QA]at hk;subst hk;have bH:c=.pointer none:=by
   unfold zA6 at hc;split at hc<;>first|(cases hc;done)|skip
   all_goals (rename_i h;first|(cases h;rfl)|(rename_i h2;cases h2;rfl)|simp_all)
  subst bH;cases hx<;>simp only[zE1]at hv<;>first|(cases hv;done)|skip
  all_goals
   simp only[QA]at hv
   subst hv
   cases neg<;>simp only[eqGuard,binOp]<;>refine⟨?_,?_⟩<;>(simp;rw[hE (fun D=>by rw[Op.equalIn,Sem.run_bind,run_underlying hd];rfl)];rfl)
 |interface e=>
  simp only[Y1,QA]at hk;subst hk;have bH:c=.nilIface:=by
   unfold zA6 at hc;split at hc<;>first|(cases hc;done)|skip
   all_goals (rename_i h;first|(cases h;rfl)|(rename_i h2;cases h2;rfl)|simp_all)
  subst bH;cases hx<;>simp only[zE1]at hv<;>first|(cases hv;done)|skip
  all_goals
   simp only[QA]at hv
   subst hv
   cases neg<;>simp only[eqGuard,binOp]<;>refine⟨?_,?_⟩<;>(simp;rw[hE (fun D=>by rw[Op.equalIn,Sem.run_bind,run_underlying hd];rfl)];rfl)
 |_=>simp[Y1]at hk
def WI.closedC_eq{v v':Value}(h:WI σ v v')(hc:closedC v=true):v'=v:=by
 cases h with
 |agg ha ra=>
  rename_i a a';congr 1;apply Array.ext ha.symm;intro i h1 h2;have hx:a[i]?=some a[i]:=Q6 _;have hy:a'[i]?=some a'[i]:=Q6 _;exact(ra i _ _ hx hy).closed_eq (QX.1 hc _ (by simp))
 |_=>simp_all [closedC,yX]
def WI.closedD_eq{v v':Value}(h:WI σ v v')(hc:zAJ v=true):v'=v:=by
 cases h with
 |iface t h=>rw[h.closedC_eq hc]
 |agg ha ra=>exact(WI.agg ha ra).closedC_eq hc
 |_=>simp_all [zAJ,closedC,yX]
def WI.closedC{v:Value}(hc:Am.closedC v=true):WI σ v v:=by
 cases v with
 |agg cs=>
  refine WI.agg rfl fun i x y hx hy=> ?_;rw[hx]at hy;cases hy;exact VK σ (QX.1 hc x (Gb (by simpa using hx)))
 |_=>exact VK σ hc
def zDQ{cells xs:List Value}{off n:Nat}(hc:cut cells off n=some xs):off+n<=cells.length/\xs=(cells.drop off).take n/\xs.length=n:=by
 unfold cut at hc;cases hb:Nat.ble (off+n) cells.length with
 |false=>simp[hb]at hc
 |true=>
  have:off+n<=cells.length:=QP hb;simp[hb]at hc;subst hc;exact⟨this,rfl,by simp;omega⟩
def zAz{agg:Bool}{xs ys:List Value}{v:Value}(hl:WQ σ xs ys)(hv:zI agg xs=some v):
  ∃ cv,zI agg ys=some cv/\WI σ v cv:=by
 unfold zI at *;cases agg with
 |true=>simp at hv |-;subst hv;exact VW hl
 |false=>
  simp only[QU]at *;match xs,ys,hl with
  |[x],[y],hl=>cases hv;exact⟨y,rfl,hl.2 0 _ _ rfl rfl⟩
  |[x],[],hl=>have:=hl.1;simp at this
  |[x],_::_::_,hl=>have:=hl.1;simp at this
  |[],_,_=>cases hv
  |_::_::_,_,_=>cases hv
def zHl(hr:Wd P B σ h w){g:Nat}{cells:List Value}(hg:z0 h g=some cells):
  ∃ pl,σ g=some pl/\pl.base+cells.length<=pl.n/\∀ i x,cells[i]?=some x->∃ y,w.cell? ⟨pl.b,pl.base+i,none⟩=some y/\WI σ x y:=by
 unfold z0 at hg;split at hg
 ·rename_i c own lo a9;cases hg;obtain⟨pl,h1,⟨cc,elem,fr,h2,h3,h4,h5,_⟩,_⟩:=hr.live _ _ a9;exact⟨pl,h1,h4,fun i x hx=>let⟨y,a,b⟩:=h5 i x hx;⟨y,by simp[World.cell?,h2,a],b⟩⟩
 ·cases hg
def zCR(hr:Wd P B σ h w){g off n:Nat}{cells xs:List Value}(hg:z0 h g=some cells)(hc:cut cells off n=some xs):
  ∃ pl ys,σ g=some pl/\WQ σ xs ys/\ys.length=n/\pl.base+off+n<=pl.n/\∀ j v,ys[j]?=some v->w.cell? ⟨pl.b,pl.base+off+j,none⟩=some v:=by
 obtain⟨pl,h1,h2,h3⟩:=zHl hr hg;obtain⟨h4,h5,h6⟩:=zDQ hc;have key:∀ j,j<n->∃ x y,xs[j]?=some x/\w.cell? ⟨pl.b,pl.base+off+j,none⟩=some y/\WI σ x y:=fun j hj=>by
  have hx:xs[j]?=cells[off+j]?:=by rw[h5,GE,QJ hj,GN]
  have:cells[off+j]?=some (cells[off+j]'ω):=QB _;obtain⟨y,a,b⟩:=h3 (off+j) _ this;exact⟨_,y,hx.trans this,by rw[Nat.add_assoc];exact a,b⟩
 refine⟨pl,(List.range n).map fun j=>(w.cell? ⟨pl.b,pl.base+off+j,none⟩).getD Go.undef,h1,⟨by simp[h6],fun i x y hx hy=> ?_⟩,by simp,ω,fun j v hv=> ?_⟩
 ·have hi:i<n:=by have:=(QS.1 hx).1;omega
  obtain⟨x',y',a,b,c⟩:=key i hi;rw[a]at hx;cases hx;simp[hi,b]at hy;subst hy;exact c
 ·have hj:j<n:=by have:=(QS.1 hv).1;simpa using this
  obtain⟨x',y',a,b,c⟩:=key j hj;simp[hj,b]at hv;subst hv;exact b
def zCJ{t:TypeId}{agg:Bool}{n:Nat}{b o:Nat}{ys:List Value}{v:Value}(ha:zEO P t=some agg)(hn:ZK P t=some n)(hl:ys.length=n)
  (hc:∀ j v,ys[j]?=some v->w.cell? ⟨b,o+j,none⟩=some v) (hv:zI agg ys=some v):(loadVar t ⟨b,o,none⟩).run P w=.ok v w:=by
 unfold zEO at ha;cases hu:P.underlying t with
 |none=>simp[hu]at ha
 |some d=>
  have hsz:(P.info? t).map (·.size)=some ys.length:=by rw[hl];exact hn
  cases agg with
  |true=>
   have hd:d.isRow=true:=by cases d<;>simp_all [TypeDesc.isRow]
   simp[zI]at hv;subst hv;exact run_loadVar_mid w b o t ys d hc hu hd hsz
  |false=>
   simp only[zI,QU]at hv;have hy:ys=[v]:=by
    match ys,hv with
    |[y],hv=>cases hv;rfl
   subst hy;have h0:=hc 0 v rfl;have AZ:(isAgg t).run P w=.ok false w:=by
    unfold isAgg;rw[Sem.run_bind,run_underlying hu w];cases d<;>simp_all
   simp only[JQ]at h0;simp[loadVar,AZ,run_load,h0]
def zDq{xs ys:List Value}(hl:WQ σ xs ys)(h1:zK xs=true):∀ v∈ys,v.oneCell'=true:=by
 intro v hv;obtain⟨i,hi⟩:=Gu.1 hv;have aD:i<xs.length:=by rw[hl.1];exact(QS.1 hi).1
 obtain⟨x,hx⟩:∃ x,xs[i]?=some x:=⟨_,QB aD⟩;have hr:=hl.2 i _ _ hx hi;have:=QX.1 h1 x (Gb hx);cases hr<;>simp_all [Value.oneCell']
def zBG(cells vs:List Value)(off i:Nat)(ho:off+vs.length<=cells.length):
  (zX cells off vs)[i]?=if i<off then cells[i]? else if i<off+vs.length then vs[i-off]? else cells[i]?:=by
 unfold zX;have ht:(cells.take off).length=off:=by simp;omega
 by_cases h1:i<off
 ·rw[QJ h1,Qd,Qg ω,GE,QJ h1]
 ·rw[QC h1];by_cases h2:i<off+vs.length
  ·rw[QJ h2,Qd,Qk ω,ht,Qg ω]
  ·rw[QC h2,Qk (by simp;omega),GN];congr 1;simp;omega
def zG8(w:World)(b:Nat)(cs cur:Array Value)(t:TypeId)(fr:Nat×Nat)(hb:w.heap[b]?=some (.cells cur t fr)):
  (w.setRow b cs).heap.size=w.heap.size/\(w.setRow b cs).heap[b]?=some (.cells cs t fr)/\∀ k,k≠b->(w.setRow b cs).heap[k]?=w.heap[k]?:=by
 refine⟨by simp[World.setRow],by simp[World.setRow,Array.getElem?_modify,hb],fun k hk=> ?_⟩;simp only[World.setRow,Array.getElem?_modify];rw[QC ω]
def zDC(hr:Wd P B σ h w){g off b o:Nat}{vs ys:List Value}{h':WA}(hp:WI σ (.pointer (some ⟨g,off,none⟩)) (.pointer (some ⟨b,o,none⟩)))(hl:WQ σ vs ys)
  (hs:zk h ⟨g,off,none⟩ vs=some h'):∃ w',(storeCells ⟨b,o,none⟩ ys).run P w=.ok () w'/\W2 P B σ h w σ h' w':=by
 unfold zk at hs;split at hs
 ·rename_i cells lo a9;cases hc:(Nat.ble (off+vs.length) cells.length&&Nat.ble lo off&&(none:Option Nat).isNone&&zK vs)with
  |false=>simp only[hc,QU]at hs;cases hs
  |true=>
   simp only[hc,cond_true,QA]at hs;subst hs;simp only[QI]at hc;obtain⟨⟨⟨c1,c2⟩,_⟩,c3⟩:=hc;have c1:off+vs.length<=cells.length:=QP c1;have c2:lo<=off:=QP c2;obtain⟨pl,h1,⟨cc,elem,fr,h2,h3,h4,h5,h6⟩,h7⟩:=hr.live _ _ a9;cases h6 rfl;cases hp with
   |ptr hp=>
    rw[h1]at hp;cases hp;have aM:=run_storeCells_at P pl.b (pl.base+off) elem ys 0 cc w h2 (by rw[<-hl.1];omega) (zDq hl c3);refine⟨_,aM,?_⟩;have b9:(List.take (pl.base+off+0) cc.toList++ys++List.drop (pl.base+off+0+ys.length) cc.toList)=zX cc.toList (pl.base+off) ys:=rfl;rw[b9];have hlen:(zX cc.toList (pl.base+off) ys).length=pl.n:=by
     unfold zX;simp[<-hl.1];omega
    have iG:=zG8 w pl.b (zX cc.toList (pl.base+off) ys).toArray cc elem (0,0) h2;have fI:∀ i,(zX cc.toList (pl.base+off) ys).toArray[i]?=if i<pl.base+off then cc[i]? else if i<pl.base+off+ys.length then ys[i-(pl.base+off)]? else cc[i]?:=fun i=>by
     have:=zBG cc.toList ys (pl.base+off) i (by rw[<-hl.1];simp;omega);simpa using this
    refine hr.put a9 rfl rfl h1 iG ⟨rfl,rfl,rfl⟩ ⟨_,elem,(0,0),iG.2.1,by simpa using hlen,?_,fun i x hx=> ?_,fun _=>rfl⟩ ?_
    ·simp[zX];omega
    ·rw[zBG cells vs off i c1]at hx;rw[fI];by_cases e1:i<off
     ·rw[QJ e1]at hx;rw[QJ ω];exact h5 i x hx
     ·rw[QC e1]at hx;rw[QC ω];by_cases e2:i<off+vs.length
      ·rw[QJ e2]at hx;rw[QJ (by rw[<-hl.1];omega)];obtain⟨y,a,b⟩:=hl.get hx;exact⟨y,by rw[<-a];congr 1;omega,b⟩
      ·rw[QC e2]at hx;rw[QC (by rw[<-hl.1];omega)];exact h5 i x hx
    ·intro g2 o2 b7 k1 k2 k3 k4 k5 k6;cases o2 with
     |row eZ dI Hl=>
      obtain⟨a1,a2,a3⟩:=k5;have a2:=a2 rfl;have dy:dI=false:=by cases dI<;>simp_all
      subst dy;obtain⟨c2,e2,f2,b1,b2,b3,b4,b5⟩:=k6;rw[k4,h2]at b1;cases b1;refine⟨⟨_,elem,(0,0),by rw[k4];exact iG.2.1,by rw[<-b2];simpa [h3]using hlen,b3,fun i x hx=> ?_,fun h=>by cases h⟩,⟨a1,fun _=>a2,fun h=>by cases h⟩⟩;obtain⟨y,d1,d2⟩:=b4 i x hx;have hi:i<eZ.length:=(QS.1 hx).1;exact⟨y,by rw[fI,QJ ω];exact d1,d2⟩
     |_=>exact k5.elim
 ·cases hs
def zDx(hr:Wd P B σ h w){xs ys:List Value}(hl:WQ σ xs ys)(extra:List Value)(elem:TypeId)(lo:Nat):
  W2 P B σ h w (yu σ h.n ⟨w.heap.size,0,ys.length+extra.length⟩) (h.push (.row xs true lo)) (w.alloc (.cells (ys++extra).toArray elem)):=by
 refine hr.push rfl ⟨rfl,rfl,rfl⟩ ⟨(ys++extra).toArray,elem,(0,0),by show(w.heap.push _)[w.heap.size]?=_;simp,by simp,by simp[hl.1],fun i x hx=> ?_,fun _=>rfl⟩;obtain⟨y,a,b⟩:=hl.get hx;refine⟨y,?_,b.mono (YV hr _)⟩;have hi:i<ys.length:=(QS.1 a).1;simp only[Q8,List.getElem?_toArray];rw[Qg hi];exact a
def Wd.grow(hr:Wd P B σ h w){g off m lo:Nat}{pl:Pl}{cells xs ys iH:List Value}{cc:Array Value}{elem:TypeId}(hg:h.get g=some (.row cells true lo))(hp:σ g=some pl)
  (hx:cut cells off m=some xs) (hl:WQ σ ys iH) (rZ:lo<=off+m) (hb:w.heap[pl.b]?=some (.cells cc elem (0,0))) (hn:pl.base+off+m+ys.length<=pl.n):
  W2 P B σ h w (yu σ h.n ⟨pl.b,pl.base+off,pl.n⟩) ((h.kill g).push (.row (xs++ys) true (lo-off))) (w.setRow pl.b (zX cc.toList (pl.base+off+m) iH).toArray):=by
 obtain⟨c1,c2,c3⟩:=zDQ hx;obtain⟨xh,h1,⟨Sm,Hm,fr,h2,h3,h4,h5,h6⟩,h7⟩:=hr.live _ _ hg;rw[hp]at h1;cases h1;rw[hb]at h2;cases h2;have hlen:(zX cc.toList (pl.base+off+m) iH).length=pl.n:=by
  unfold zX;simp[<-hl.1];omega
 have iG:=zG8 w pl.b (zX cc.toList (pl.base+off+m) iH).toArray cc elem (0,0) hb;have fI:∀ i,(zX cc.toList (pl.base+off+m) iH).toArray[i]?=if i<pl.base+off+m then cc[i]? else if i<pl.base+off+m+iH.length then iH[i-(pl.base+off+m)]? else cc[i]?:=fun i=>by
  have:=zBG cc.toList iH (pl.base+off+m) i (by rw[<-hl.1];simp;omega);simpa using this
 have hle:Le σ (yu σ h.n ⟨pl.b,pl.base+off,pl.n⟩):=YV hr _;have ab:∀ k p,yu σ h.n ⟨pl.b,pl.base+off,pl.n⟩ k=some p->k=h.n/\p=⟨pl.b,pl.base+off,pl.n⟩\/k≠h.n/\σ k=some p:=fun k p hk=>by
  unfold yu at hk;split at hk
  ·exact .inl ⟨by assumption,(Qm hk).symm⟩
  ·exact .inr ⟨by assumption,hk⟩
 have kL:g<h.n:=(hr.lt _ _ hp).1;have A3:BY P (yu σ h.n ⟨pl.b,pl.base+off,pl.n⟩) ⟨pl.b,pl.base+off,pl.n⟩ (.row (xs++ys) true (lo-off)) (w.setRow pl.b (zX cc.toList (pl.base+off+m) iH).toArray):=by
  refine⟨_,elem,(0,0),iG.2.1,by simpa using hlen,by simp[c3];omega,fun i x hi=> ?_,fun _=>rfl⟩;simp only[fI];by_cases e1:i<m
  ·rw[Qg ω,c2,GE,QJ e1,GN]at hi;rw[QJ ω];obtain⟨y,a,b⟩:=h5 _ _ hi;exact⟨y,by rw[<-a];congr 1;omega,b.mono hle⟩
  ·rw[Qk ω,c3]at hi;have cN:i-m<ys.length:=(QS.1 hi).1;rw[QC ω,QJ (by rw[<-hl.1];omega)];obtain⟨y,a,b⟩:=hl.get hi;exact⟨y,by rw[<-a];congr 1;omega,b.mono hle⟩
 have hold:∀ k o,k≠g->h.get k=some o->∃ p,σ k=some p/\BY P (yu σ h.n ⟨pl.b,pl.base+off,pl.n⟩) p o (w.setRow pl.b (zX cc.toList (pl.base+off+m) iH).toArray)/\(zCx o=true->B<=p.b)/\
   (p.b=pl.b->BZ ⟨pl.b,pl.base+off,pl.n⟩ (.row (xs++ys) true (lo-off)) p o):=fun k o hk Hn=>by
  obtain⟨p,k1,k2,k3⟩:=hr.live k o Hn;by_cases aR:p.b=pl.b
  ·have pj:=hr.apart g _ k o pl p hg Hn (fun e=>hk e.symm) hp k1 aR.symm;cases o with
   |row eZ dI Hl=>
    obtain⟨a1,a2,a3⟩:=pj;have a2:=a2 rfl;have dy:dI=false:=by cases dI<;>simp_all
    subst dy;obtain⟨Sn,e2,f2,b1,b2,b3,b4,b5⟩:=k2;rw[aR,hb]at b1;cases b1;refine⟨p,k1,⟨_,elem,(0,0),by rw[aR];exact iG.2.1,by rw[<-b2,h3];simpa using hlen,b3,fun i x hi=> ?_,fun h=>by cases h⟩,k3,fun _=>by unfold BZ;exact⟨(fun h=>by cases h.2),(fun _=>by show _<=pl.base+off+(lo-off);omega),(fun h=>by cases h)⟩⟩;obtain⟨y,d1,d2⟩:=b4 i x hi;have af:i<eZ.length:=(QS.1 hi).1;exact⟨y,by rw[fI,QJ ω];exact d1,d2.mono hle⟩
   |_=>exact pj.elim
  ·exact⟨p,k1,k2.keep hle (iG.2.2 _ aR),k3,fun e=>absurd e aR⟩
 have sym:∀ {pl o bW o'},BZ pl o bW o'->BZ bW o' pl o:=fun {pl o bW o'} h=>by
  cases o<;>cases o'<;>first|exact h.elim|exact⟨fun x=>h.1 ⟨x.2,x.1⟩,h.2.2,h.2.1⟩
 have hY:∀ k o,((h.kill g).push (.row (xs++ys) true (lo-off))).get k=some o->k=h.n/\o=.row (xs++ys) true (lo-off)\/k≠h.n/\k≠g/\h.get k=some o:=fun k o hk=>by
  rw[zM]at hk;split at hk
  ·exact .inl ⟨by assumption,(Qm hk).symm⟩
  ·rename_i e;rw[yn]at hk;split at hk
   ·cases hk
   ·exact .inr ⟨e,by assumption,hk⟩
 refine⟨hle,⟨fun k hk=> ?_,fun k p hk=> ?_,fun k o hk=> ?_,?_,by rw[iG.1];exact hr.le⟩,rfl,rfl,rfl,by rw[iG.1];exact QF _,fun b eK dy=>iG.2.2 b fun e=>dy ⟨g,_,pl,hg,rfl,hp,e.symm⟩,?_,GU _,fun k hk=>QC (Nat.ne_of_lt hk)⟩
 ·obtain⟨p,k1,k2⟩:=hr.globals k hk;exact⟨p,hle _ _ k1,k2⟩
 ·rcases ab k p hk with⟨rfl,rfl⟩|⟨_,k1⟩
  ·exact⟨by simp[WA.push,WA.kill],by rw[iG.1];exact(hr.lt _ _ hp).2⟩
  ·have:=hr.lt _ _ k1;exact⟨by simp[WA.push,WA.kill];omega,by rw[iG.1];exact this.2⟩
 ·rcases hY k o hk with⟨rfl,rfl⟩|⟨e,e2,k1⟩
  ·exact⟨_,yB _ _ _,A3,fun _=>h7 rfl⟩
  ·obtain⟨p,a1,a2,a3,_⟩:=hold k o e2 k1;exact⟨p,hle _ _ a1,a2,a3⟩
 ·intro k o1 k' o2 p p' h1 h2 ah h3 h4 aR;rcases hY k o1 h1 with⟨e,rfl⟩|⟨e,e2,k1⟩<;>rcases hY k' o2 h2 with⟨e',rfl⟩|⟨e',gC,k2⟩
  ·exact absurd (e.trans e'.symm) ah
  ·obtain⟨q,a1,_,_,a4⟩:=hold k' o2 gC k2;have hq:p'=q:=by have:=hle _ _ a1;rw[h4]at this;exact Qm this
   subst hq;subst e;rw[yB]at h3;cases h3;exact a4 aR.symm
  ·obtain⟨q,a1,_,_,a4⟩:=hold k o1 e2 k1;have hq:p=q:=by have:=hle _ _ a1;rw[h3]at this;exact Qm this
   subst hq;subst e';rw[yB]at h4;cases h4;exact sym (a4 aR)
  ·obtain⟨q,a1,_⟩:=hold k o1 e2 k1;obtain⟨q',Ho,_⟩:=hold k' o2 gC k2;have hq:p=q:=by have:=hle _ _ a1;rw[h3]at this;exact Qm this
   have di:p'=q':=by have:=hle _ _ Ho;rw[h4]at this;exact Qm this
   subst hq di;exact hr.apart k o1 k' o2 p p' k1 k2 ah a1 Ho aR
 ·rintro b ⟨k,o,p,k1,k2,k3,k4⟩;rcases hY k o k1 with⟨rfl,rfl⟩|⟨e,e2,k1⟩
  ·rw[yB]at k3;cases k3;exact .inr ⟨g,_,pl,hg,rfl,hp,k4⟩
  ·rcases ab k p k3 with⟨e',_⟩|⟨_,k3⟩
   ·exact absurd e' e
   ·exact .inr ⟨k,o,p,k1,k2,k3,k4⟩
def Wd.kill(hr:Wd P B σ h w)(g:Nat):W2 P B σ h w σ (h.kill g) w:=by
 have hk:∀ k o,(h.kill g).get k=some o->h.get k=some o:=fun k o hk=>by
  rw[yn]at hk;split at hk
  ·cases hk
  ·exact hk
 exact⟨.refl _,⟨hr.globals,hr.lt,fun k o a=>hr.live k o (hk k o a),fun k o k' o' p p' a b=>hr.apart k o k' o' p p' (hk _ _ a) (hk _ _ b),hr.le⟩,rfl,rfl,rfl,QF _,fun _ _ _=>rfl,
  fun b ⟨k,o,p,a,c⟩=> .inr ⟨k,o,p,hk _ _ a,c⟩,QF _,fun _ _=>rfl⟩
end
section
variable {P:Program}{B:Nat}{σ:Nat->Option Pl}{h:WA}{w:World}
def Yu{t:TypeId}{n:Nat}(ht:ZK P t=some n):∃ i,P.info? t=some i/\i.size=n:=by
 unfold ZK at ht;cases hi:P.info? t with
 |none=>simp[hi]at ht
 |some i=>exact⟨i,rfl,by simpa [hi]using ht⟩
def yp{e:TypeId}{c:Nat}(ht:Zg P e=some c):∃ i z,P.info? e=some i/\i.size=c/\0<c/\1<=i.bytes/\i.bytes<=1024/\i.zero=some z/\z.cells.size=c:=by
 unfold Zg at ht;cases hi:P.info? e with
 |none=>simp[hi]at ht
 |some i=>
  simp only[hi]at ht;cases hz:i.zero with
  |none=>simp[hz]at ht
  |some z=>
   simp only[hz]at ht;cases hc:(Nat.ble 1 i.size&&Nat.ble 1 i.bytes&&Nat.ble i.bytes 1024&&Nat.beq z.cells.size i.size)with
   |false=>simp[hc]at ht
   |true=>
    simp only[hc,cond_true,QA]at ht;simp only[QI]at hc;obtain⟨⟨⟨c1,c2⟩,c3⟩,c4⟩:=hc;have c1:=QP c1;have c2:=QP c2;have c3:=QP c3;have c4:=QN c4;exact⟨i,z,rfl,ht,ω,c2,c3,hz,ω⟩
def yE{t:TypeId}{i:TypeInfo}(hi:P.info? t=some i):(sizeOf t).run P w=.ok i.size w:=by simp[sizeOf,typeInfo,hi]
def Y2(b o j:Nat):(⟨b,o,none⟩:Addr).add j=⟨b,o+j,none⟩:=by unfold Addr.add;split<;>simp_all
def zDL{t e:TypeId}{i:TypeInfo}(ht:P.underlying t=some (.slice e))(hi:P.info? e=some i)(b o len cap n:Nat)(k:IntKind)(hn:n<len):
  (Instr.indexAt t (.slice (some ⟨b,o,none⟩) len cap) (.int k n)).run P w=.ok (.pointer (some ⟨b,o+n*i.size,none⟩)) w:=by
 simp[Instr.indexAt,asIntOf,run_underlying ht,yE hi,hn,Y2]
def zD2{t e:TypeId}{i:TypeInfo}{len:Nat}(ht:P.underlying t=some (.array len e))(hi:P.info? e=some i)(b o n:Nat)(k:IntKind)(hn:n<len):
  (Instr.indexAt t (.pointer (some ⟨b,o,none⟩)) (.int k n)).run P w=.ok (.pointer (some ⟨b,o+n*i.size,none⟩)) w:=by
 simp[Instr.indexAt,Instr.sureAddr,asIntOf,run_underlying ht,yE hi,hn,Y2]
def zKM{t:TypeId}{fs:Array Field}{f:Field}{k n:Nat}(ht:P.underlying t=some (.struct fs))(hf:fs[k]?=some f)(hn:ZK P f.type=some (n+1))(b o:Nat):
  (Instr.fieldAt t (.pointer (some ⟨b,o,none⟩)) k).run P w=.ok (.pointer (some ⟨b,o+f.offset,none⟩)) w:=by
 obtain⟨i,hi,hs⟩:=Yu hn;simp[Instr.fieldAt,Instr.sureAddr,fieldPlace,run_underlying ht,hf,yE hi,hs,Y2]
def zG5{t:TypeId}{b:Bool}(ht:zEO P t=some b):(isAgg t).run P w=.ok b w:=by
 unfold zEO at ht;cases hu:P.underlying t with
 |none=>simp[hu]at ht
 |some d=>
  unfold isAgg;rw[Sem.run_bind,run_underlying hu w];cases d<;>simp_all
def zKD{t:TypeId}{agg:Bool}{n off:Nat}{cs:Array Value}{v:Value}{ys:List Value}(ha:zEO P t=some agg)(hn:ZK P t=some n)(hc:cut cs.toList off n=some ys)(hv:zI agg ys=some v):
  (Go.part t cs off).run P w=.ok v w:=by
 obtain⟨i,hi,hs⟩:=Yu hn;obtain⟨c1,c2,c3⟩:=zDQ hc;cases agg with
 |true=>
  simp[zI]at hv;subst hv;simp[Go.part,zG5 ha,yE hi,hs];rw[c2];apply JT;simp[List.take_drop]
 |false=>
  simp only[zI,QU]at hv;match ys,hv with
  |[y],hv=>
   cases hv;have eh:n=1:=by simpa using c3.symm
   subst eh;have:cs[off]?=some v:=by
    have h0:(List.take 1 (List.drop off cs.toList))[0]?=some v:=by rw[<-c2];rfl
    rw[GE,QJ ω,GN]at h0;simpa using h0
   simp[Go.part,zG5 ha,this]
def zMH{xs xi ys:List Value}(hl:WQ σ xs xi){off n:Nat}(hc:cut xs off n=some ys):∃ iH,cut xi off n=some iH/\WQ σ ys iH:=by
 obtain⟨c1,c2,c3⟩:=zDQ hc;refine⟨(xi.drop off).take n,?_,by rw[c2];exact(hl.drop _).take _⟩;unfold cut;have:Nat.ble (off+n) xi.length=true:=by rw[<-hl.1];exact QK c1
 rw[this];rfl
def zN7{t:TypeId}{fs:Array Field}{f:Field}{k n:Nat}{agg:Bool}{cs:Array Value}{v:Value}{ys:List Value}(ht:P.underlying t=some (.struct fs))(hf:fs[k]?=some f)
  (ha:zEO P f.type=some agg) (hn:ZK P f.type=some n) (hc:cut cs.toList f.offset n=some ys) (hv:zI agg ys=some v):(Instr.field t (.agg cs) k).run P w=.ok v w:=by
 simp[Instr.field,run_underlying ht,hf,asAgg,zKD ha hn hc hv]
def zEx{t e:TypeId}{len n c:Nat}{agg:Bool}{cs:Array Value}{k:IntKind}{v:Value}{ys:List Value}(ht:P.underlying t=some (.array len e))(ha:zEO P e=some agg)
  (he:ZK P e=some c) (hn:n<len) (hc:cut cs.toList (n*c) c=some ys) (hv:zI agg ys=some v):(Instr.index t (.agg cs) (.int k n)).run P w=.ok v w:=by
 obtain⟨i,hi,hs⟩:=Yu he;simp[Instr.index,run_underlying ht,asIntOf,hn,yE hi,hs,zKD ha he hc hv]
def zAK{v v':Value}{n:Nat}(hv:WI σ v v')(hn:BX v=some n):∃ k,v'=.int k n:=by
 unfold BX at hn;split at hn
 ·cases hv;cases hn;exact⟨_,rfl⟩
 ·cases hn
def zDO(ps:List (Nat×Value))(place:Nat->Option (Nat×Nat)):∀ (xs zs:List Value) (qs:List (Nat×Nat×Value)) (r:List Value),WQ σ xs zs->
  ps.length=qs.length->(∀ (j i:Nat) (v:Value) (o n:Nat) (u:Value),ps[j]?=some (i,v)->qs[j]?=some (o,n,u)->place i=some (o,n)/\WI σ u v)->ZE xs qs=some r->∃ ys,Instr.fill place zs.toArray ps=some ys.toArray/\WQ σ r ys:=by
 induction ps with
 |nil=>
  intro xs zs qs r hl hlen _ hr;cases qs with
  |nil=>simp[ZE]at hr;subst hr;exact⟨zs,rfl,hl⟩
  |cons q qs=>simp at hlen
 |cons p ps ih=>
  intro xs zs qs r hl hlen hp hr;cases qs with
  |nil=>simp at hlen
  |cons q qs=>
   obtain⟨i,v⟩:=p;obtain⟨o,n,u⟩:=q;obtain⟨h1,h2⟩:=hp 0 i v o n u rfl rfl;simp only[ZE]at hr;cases hb:(Nat.beq u.cells.size n&&Nat.ble (o+n) xs.length)with
   |false=>simp[hb]at hr
   |true=>
    simp only[hb,cond_true]at hr;simp only[QI]at hb;have b1:=QN hb.1;have b2:=QP hb.2;have hc:=h2.cells;have hsz:v.cells.size=n:=by have:=hc.1;simp at this;omega
    have A4:WQ σ (zX xs o u.cells.toList) (zX zs o v.cells.toList):=by
     unfold zX;have e:o+u.cells.toList.length=o+v.cells.toList.length:=by rw[hc.1]
     rw[e];exact((hl.take _).append hc).append (hl.drop _)
    obtain⟨ys,e1,e2⟩:=ih (zX xs o u.cells.toList) (zX zs o v.cells.toList) qs r A4 (by simpa using hlen) (fun j=>hp (j+1)) hr;refine⟨ys,?_,e2⟩;simp only[Instr.fill,h1];have:¬(v.cells.size≠n\/o+v.cells.size>zs.toArray.size):=by
     have:=hl.1;simp;omega
    simp only[GM,Qc];rw[QC (by simpa using this)];have tM:v.cells.zipIdx.foldl (fun cs (c,j)=>cs.setIfInBounds (o+j) c) zs.toArray=(zX zs o v.cells.toList).toArray:=by
     have key:∀ (l:List Value) (k:Nat) (acc:Array Value),o+k+l.length<=acc.size->(l.zipIdx k).foldl (fun cs (c,j)=>cs.setIfInBounds (o+j) c) acc=(zX acc.toList (o+k) l).toArray:=by
      intro l;induction l with
      |nil=>intro k acc _;simp[zX]
      |cons x l cj=>
       intro k acc hk;simp only[Qn]at hk;simp only[List.zipIdx_cons,List.foldl_cons];rw[cj (k+1) _ (by simp;omega)];apply JT;apply List.ext_getElem?;intro i;have e1:=zBG (acc.setIfInBounds (o+k) x).toList l (o+(k+1)) i (by simp;omega);have e2:=zBG acc.toList (x::l) (o+k) i (by simp;omega);simp only[]at *;rw[e1,e2];simp only[Qn,Array.getElem?_toList,Gi];by_cases c1:i<o+k
       ·have a1:i<o+(k+1):=ω
        have a2:¬o+k=i:=ω
        simp[c1,a1,a2]
       ·by_cases c2:i=o+k
        ·have a1:o+k<o+(k+1):=ω
         have a2:o+k<acc.size:=ω
         have a3:o+k<o+k+(l.length+1):=ω
         subst c2;simp[a2]
        ·have a1:¬i<o+(k+1):=ω
         have a2:¬o+k=i:=ω
         by_cases c3:i<o+(k+1)+l.length
         ·have a3:i<o+k+(l.length+1):=ω
          have a4:i-(o+k)=(i-(o+(k+1)))+1:=ω
          simp[c1,a1,a3,c3,a4]
         ·have a3:¬i<o+k+(l.length+1):=ω
          simp[c1,a1,a2,a3,c3]
     have:=key v.cells.toList 0 zs.toArray (by have:=hl.1;simp;omega);simp only[JQ]at this;rw[<-this];rw[<-Array.foldl_toList,Array.toList_zipIdx]
    rw[tM];exact e1
end
section
variable {P:Program}{B:Nat}{σ:Nat->Option Pl}{h:WA}{w:World}
def Src(P:Program)(c:Nat)(x:Value)(n:Nat)(ys:List Value)(w:World):Prop:=
 (∀ w',(Builtin.lenOf x).run P w'=.ok n w')/\ys.length=n*c/\∀ k,k<=n->∀ d,(Builtin.firstCells c k x).run P {w with drawn:=d}=.ok (ys.take (k*c)).toArray {w with drawn:=d}
def zDY(hr:Wd P B σ h w){c:Nat}{x x':Value}{xs:List Value}(hc:0<c)(hx:WI σ x x')(hs:yq c h x=some xs):
  ∃ n ys,WQ σ xs ys/\Src P c x' n ys w:=by
 unfold yq at hs;split at hs
 ·cases hx;cases hs;exact⟨0,[],.nil _,fun w'=>by simp[Builtin.lenOf],by simp,fun k hk d=>by
   have:k=0:=ω
   subst this;simp[Builtin.firstCells]⟩
 ·rename_i a len k;have hzero:∀ v,WI σ (.slice (some a) 0 k) v->∃ n ys,WQ σ [] ys/\Src P c v n ys w:=fun v hv=>by
   have:∃ y cap,v=.slice (some y) 0 cap:=by cases hv<;>exact⟨_,_,rfl⟩
   obtain⟨y,cap,rfl⟩:=this;exact⟨0,[],.nil _,fun w'=>by simp[Builtin.lenOf],by simp,fun k hk d=>by
    have:k=0:=ω
    subst this;simp[Builtin.firstCells,loadCells,loadCellsFrom]⟩
  cases hb:Nat.beq len 0 with
  |true=>
   have:=QN hb;subst this;simp at hs;subst hs;exact hzero _ hx
  |false=>
   have ah:len≠0:=JU hb;simp only[hb,QU]at hs;cases aI:(Nat.beq k c&&a.spot.isNone)with
   |false=>simp[aI]at hs
   |true=>
    simp only[aI,cond_true]at hs;split at hs
    ·rename_i cells cX;obtain⟨pl,ys,h1,h2,h3,h4,h5⟩:=zCR hr cX hs;cases hx with
     |szero=>exact absurd rfl ah
     |slice hp bH hl hn=>
      simp only at cX h1 h5;rw[h1]at hp;cases hp;refine⟨len,ys,h2,fun w'=>by simp[Builtin.lenOf],by rw[h3],fun k' hk d=> ?_⟩;have hlen:(ys.take (k'*c)).length=k'*c:=by
       rw[Qp,h3];exact Gg (GH _ hk)
      have:=run_loadCells_list (P:=P) {w with drawn:=d} ⟨pl.b,pl.base+_,none⟩ (ys.take (k'*c)) (fun j v hj=>by
       rw[Y2];have dY:ys[j]?=some v:=by
        rw[GE]at hj;split at hj
        ·exact hj
        ·cases hj
       exact h5 j v dY)
      rw[hlen]at this;simp only[Builtin.firstCells];exact this
    ·cases hs
 ·cases hs
def Src.len{c n:Nat}{x:Value}{ys:List Value}(hc:0<c)(hs:Src P c x n ys w):ys.length / c=n:=by rw[hs.2.1,Nat.mul_div_cancel _ hc]
def zCC{t u e e' ty:TypeId}{i:TypeInfo}(ht:P.underlying t=some (.slice e))(hu:P.underlying u=some (.slice e'))(hi:P.info? e=some i){x:Value}{base:Option Addr}{len cap:Nat}
  {ts:List TypeId} (hs:Src P i.size x 0 [] w) (hl:len<=cap):
  (Builtin.append_ (t::u::ts).toArray ty #[.slice base len cap,x]).run P w=.ok (.slice base len cap) w:=by
 have h1:=hs.1 w;have h2:=hs.2.2 0 (QF _) w.drawn;simp at h2;cases base with
 |none=>simp[Builtin.append_,run_underlying ht,run_underlying hu,yE hi,h1,hl,h2]
 |some a=>simp[Builtin.append_,run_underlying ht,run_underlying hu,yE hi,h1,hl,h2,storeCells]
def zJ5{t u e e' ty elem:TypeId}{i:TypeInfo}(ht:P.underlying t=some (.slice e))(hu:P.underlying u=some (.slice e'))(hi:P.info? e=some i){x:Value}{b o len cap n:Nat}{ys:List Value}
  {ts:List TypeId} {cc:Array Value} (hs:Src P i.size x n ys w) (hl:len+n<=cap) (hb:w.heap[b]?=some (.cells cc elem (0,0))) (hn:o+len*i.size+ys.length<=cc.size) (h1:∀ v∈ys,v.oneCell'=true):
  (Builtin.append_ (t::u::ts).toArray ty #[.slice (some ⟨b,o,none⟩) len cap,x]).run P w=
   .ok (.slice (some ⟨b,o,none⟩) (len+n) cap) (w.setRow b (zX cc.toList (o+len*i.size) ys).toArray):=by
 have e1:=hs.1 w;have e2:=hs.2.2 n (QF _) w.drawn;rw[Q3 (by rw[hs.2.1];exact QF _)]at e2;have e3:=run_storeCells_at P b (o+len*i.size) elem ys 0 cc w hb ω h1;have e4:(List.take (o+len*i.size+0) cc.toList++ys++List.drop (o+len*i.size+0+ys.length) cc.toList)=zX cc.toList (o+len*i.size) ys:=rfl;rw[e4]at e3;simp[Builtin.append_,run_underlying ht,run_underlying hu,yE hi,e1,hl,e2,Y2,e3]
def zJV{t u e e' ty:TypeId}{i:TypeInfo}{z:Value}(ht:P.underlying t=some (.slice e))(hu:P.underlying u=some (.slice e'))(hi:P.info? e=some i)(hz:i.zero=some z){x:Value}{base:Option Addr}{len cap n:Nat}{xs ys:List Value}
  {ts:List TypeId} (hs:Src P i.size x n ys w) (hg:cap<len+n) (hx:∀ d,(Builtin.firstCells i.size len (.slice base len cap)).run P {w with drawn:=d}=.ok xs.toArray {w with drawn:=d})
  (hm:len+n<=room) (h1:1<=i.bytes) (h2:i.bytes<=1024):
  (Builtin.append_ (t::u::ts).toArray ty #[.slice base len cap,x]).run P w=
   .ok (.slice (some ⟨w.heap.size,0,none⟩) (len+n) (grownCap w (len+n) cap e))
    ({w with drawn:=w.drawn+1}.alloc (.cells (xs++ys++(Builtin.zeroCells z.cells (grownCap w (len+n) cap e-(len+n))).toList).toArray e)):=by
 have e1:=hs.1 w;have e2:=hs.2.2 n (QF _) (w.drawn+1);rw[Q3 (by rw[hs.2.1];exact QF _)]at e2;have e3:=hx (w.drawn+1);have hr:room=4294967296:=rfl;have hn:¬(len+n<=cap):=ω
 have aW:¬(i.bytes=0):=ω
 have hmul:(len+n)*i.bytes<=140737488355328:=by
  calc (len+n)*i.bytes<=4294967296*1024:=Nat.mul_le_mul ω h2
   _<=_:=by decide
 have Ky:¬(281474976710656<Builtin.nextslicecap (len+n) cap*i.bytes):=by have:=growslice_fits (bytes:=i.bytes) hg hmul;omega
 have b9:xs.toArray++ys.toArray++Builtin.zeroCells z.cells (grownCap w (len+n) cap e-(len+n))=(xs++ys++(Builtin.zeroCells z.cells (grownCap w (len+n) cap e-(len+n))).toList).toArray:=by
  apply JT;simp
 rw[<-b9];have e2:(Builtin.firstCells i.size n x).run P w.drew=.ok ys.toArray w.drew:=e2;have e3:(Builtin.firstCells i.size len (.slice base len cap)).run P w.drew=.ok xs.toArray w.drew:=e3;simp[Builtin.append_,run_underlying ht,run_underlying hu,yE hi,typeInfo,zeroValue,hi,hz,e1,hn,aW,Ky,Question.forced,newRow,grownCap,e2,e3];have e5:(xs++ys).toArray=xs.toArray++ys.toArray:=by simp
 rw[e5,Array.append_assoc]
def WI.slice_inv{a:Addr}{len k:Nat}{v:Value}(hv:WI σ (.slice (some a) len k) v):
  (∃ pl cap,σ a.block=some pl/\0<k/\len<=cap/\pl.base+a.off+cap*k<=pl.n/\v=.slice (some ⟨pl.b,pl.base+a.off,none⟩) len cap)\/(∃ x,len=0/\v=.slice (some x) 0 0):=by
 cases hv with
 |slice hp hc hl hn=>exact .inl ⟨_,_,hp,hc,hl,hn,rfl⟩
 |szero a x c=>exact .inr ⟨x,rfl,rfl⟩
section
variable {t u e e' ty:TypeId}{ts:List TypeId}{i:TypeInfo}{z:Value}(ht:P.underlying t=some (.slice e))(hu:P.underlying u=some (.slice e'))(hi:P.info? e=some i)(hz:i.zero=some z)
 (dj:z.cells.size=i.size) (a8:0<i.size) (dM:1<=i.bytes) (aI:i.bytes<=1024)
include ht hu hi hz dj a8 dM aI
def zCp(hr:Wd P B σ h w){x':Value}{base:Option Addr}{len cap n:Nat}{as xs zs ys:List Value}{lo:Nat}(hS:Src P i.size x' n ys w)(hl:WQ σ (as++xs) (zs++ys))(Hp:zs.length=len*i.size)
  (hf:∀ d,(Builtin.firstCells i.size len (.slice base len cap)).run P {w with drawn:=d}=.ok zs.toArray {w with drawn:=d}) (aD:cap<len+n) (r7:len+n<=room):
  ∃ σ' w' cv,(Builtin.append_ (t::u::ts).toArray ty #[.slice base len cap,x']).run P w=.ok cv w'/\WI σ' (.slice (some ⟨h.n,0,none⟩) (len+n) i.size) cv/\
   W2 P B σ h w σ' (h.push (.row (as++xs) true lo)) w':=by
 have aM:=zJV (ts:=ts) (ty:=ty) (base:=base) (len:=len) (cap:=cap) (xs:=zs) ht hu hi hz hS aD hf r7 dM aI;have nh:=grownCap_ge w (len+n) cap e;have gD:=hr.drew (w.drawn+1);refine⟨_,_,_,aM,WI.slice (pl:=⟨w.heap.size,0,_⟩) (yB _ h.n _) a8 nh ?_,(W2.drew (w.drawn+1) hr).trans (zDx gD hl _ e lo)⟩;simp only[Q8];have e1:(Builtin.zeroCells z.cells (grownCap w (len+n) cap e-(len+n))).toList.length=(grownCap w (len+n) cap e-(len+n))*i.size:=by simp[Builtin.zeroCells,dj]
 have e2:(zs++ys).length=(len+n)*i.size:=by simp[Hp,hS.2.1,Gx]
 rw[e1,e2,<-Gx];have:len+n+(grownCap w (len+n) cap e-(len+n))=grownCap w (len+n) cap e:=ω
 rw[this];exact QF _
def zLl(hr:Wd P B σ h w){s' x':Value}{a:Addr}{len n lo:Nat}{cells xs ys dS:List Value}(hS:Src P i.size x' n ys w)(hl:WQ σ xs ys)(aT:zK xs=true)
  (hs:WI σ (.slice (some a) len i.size) s') (a9:h.get a.block=some (.row cells true lo)) (bI:cut cells a.off (len*i.size)=some dS) (rZ:lo<=a.off+len*i.size) (r7:len+n<=room) (eh:0<n):
  ∃ σ' w' cv,(Builtin.append_ (t::u::ts).toArray ty #[s',x']).run P w=.ok cv w'/\WI σ' (.slice (some ⟨h.n,0,none⟩) (len+n) i.size) cv/\
   W2 P B σ h w σ' ((h.kill a.block).push (.row (dS++xs) true (lo-a.off))) w':=by
 obtain⟨pl,h1,⟨cc,elem,fr,h2,h3,h4,h5,h6⟩,h7⟩:=hr.live _ _ a9;cases h6 rfl;have cX:z0 h a.block=some cells:=by unfold z0;rw[a9]
 obtain⟨bW,zs,k1,k2,k3,k4,k5⟩:=zCR hr cX bI;rw[h1]at k1;cases k1;have hk:=hr.kill a.block;have jv:∀ (base:Option Addr) (cap:Nat),(∀ d,(Builtin.firstCells i.size len (.slice base len cap)).run P {w with drawn:=d}=.ok zs.toArray {w with drawn:=d})->cap<len+n->
   ∃ σ' w' cv,(Builtin.append_ (t::u::ts).toArray ty #[.slice base len cap,x']).run P w=.ok cv w'/\WI σ' (.slice (some ⟨h.n,0,none⟩) (len+n) i.size) cv/\
    W2 P B σ h w σ' ((h.kill a.block).push (.row (dS++xs) true (lo-a.off))) w':=fun base cap hf aD=>by
  obtain⟨σ',w',cv,a1,a2,a3⟩:=zCp (lo:=lo-a.off) (ts:=ts) (ty:=ty) ht hu hi hz dj a8 dM aI hk.rel hS (k2.append hl) k3 hf aD r7;exact⟨σ',w',cv,a1,a2,hk.trans a3⟩
 rcases hs.slice_inv with⟨b7,cap,hp,_,fu,hn,rfl⟩|⟨y,rfl,rfl⟩
 ·rw[h1]at hp;cases hp;by_cases hfit:len+n<=cap
  ·have hmul:(len+n)*i.size<=cap*i.size:=GH _ hfit;have tN:ys.length=n*i.size:=hS.2.1;rw[Gx]at hmul;have lX:pl.base+a.off+len*i.size+ys.length<=cc.size:=by rw[h3,tN];omega
   have aM:=zJ5 (ts:=ts) (ty:=ty) (len:=len) (cap:=cap) ht hu hi hS hfit h2 lX (zDq hl aT);have iI:=hr.grow (ys:=xs) a9 h1 bI hl rZ h2 (by rw[hl.1,<-h3];omega);refine⟨_,_,_,aM,?_,iI⟩;have:=WI.slice (σ:=yu σ h.n ⟨pl.b,pl.base+a.off,pl.n⟩) (g:=h.n) (off:=0) (len:=len+n) (c:=i.size) (cap:=cap) (pl:=⟨pl.b,pl.base+a.off,pl.n⟩) (yB _ _ _) a8 hfit (by simp only[JQ];omega);simpa using this
  ·refine jv _ cap (fun d=> ?_) ω;have:=run_loadCells_list (P:=P) {w with drawn:=d} ⟨pl.b,pl.base+a.off,none⟩ zs (fun j v hj=>by rw[Y2];exact k5 j v hj);rw[k3]at this;simp only[Builtin.firstCells];exact this
 ·exact jv _ 0 (fun d=>by
   have:zs=[]:=by have:=k3;simp at this;exact this
   subst this;simp[Builtin.firstCells,loadCells,loadCellsFrom]) ω
end
def zKt(hr:Wd P B σ h w){t u e e' ty:TypeId}{c:Nat}{s x s' x' v:Value}{h':WA}{ts:List TypeId}(ht:P.underlying t=some (.slice e))(hu:P.underlying u=some (.slice e'))(he:Zg P e=some c)
  (hs:WI σ s s') (hx:WI σ x x') (ha:yR c s x h=some (v,h')):
  ∃ σ' w' cv,(Builtin.append_ (t::u::ts).toArray ty #[s',x']).run P w=.ok cv w'/\WI σ' v cv/\W2 P B σ h w σ' h' w':=by
 obtain⟨i,z,hi,hsz,a8,dM,aI,hz,dj⟩:=yp he;subst hsz;unfold yR at ha;split at ha
 ·cases ha
 ·rename_i aX;obtain⟨n,ys,hl,hS⟩:=zDY hr a8 hx aX;have xj:ys=[]:=by have:=hl.1;simpa using this.symm
  subst xj;have kM:n=0:=by
   have h2:=hS.2.1;simp only[G5]at h2;rcases Nat.mul_eq_zero.1 h2.symm with h|h<;>omega
  subst kM;split at ha
  ·cases ha;cases hs;exact⟨σ,w,_,zCC ht hu hi hS (QF _),.snil,W2.refl hr⟩
  ·cases ha;rcases hs.slice_inv with⟨pl,cap,_,_,hl,_,rfl⟩|⟨y,rfl,rfl⟩
   ·exact⟨σ,w,_,zCC ht hu hi hS hl,hs,W2.refl hr⟩
   ·exact⟨σ,w,_,zCC ht hu hi hS (QF _),hs,W2.refl hr⟩
  ·cases ha
 ·rename_i y0 Hq aX;obtain⟨n,ys,hl,hS⟩:=zDY hr a8 hx aX;have hlen:(y0::Hq).length / i.size=n:=by rw[hl.1];exact hS.len a8
  have eh:0<n:=by
   rcases Nat.eq_zero_or_pos n with h0|h0
   ·subst h0;have:=hS.2.1;rw[<-hl.1]at this;simp at this
   ·exact h0
  clear aX;generalize y0::Hq=xs at *;simp only[hlen]at ha;cases aT:zK xs with
  |false=>simp[aT]at ha
  |true=>
  simp only[aT,Qe,QU]at ha;split at ha
  ·cases aN:Nat.ble n room with
   |false=>simp[aN]at ha
   |true=>
    simp only[aN,cond_true,QA,mk,QE]at ha;obtain⟨rfl,rfl⟩:=ha;cases hs;have r7:=QP aN;have:=zCp (lo:=0) (ts:=ts) (ty:=ty) (base:=none) (len:=0) (cap:=0) (as:=[]) (zs:=[]) ht hu hi hz dj a8 dM aI hr hS (by simpa using hl) (by simp) (fun d=>by simp[Builtin.firstCells]) ω ω;simpa using this
  ·rename_i a len k;cases aN:(Nat.ble (len+n) room&&a.spot.isNone)with
   |false=>simp[aN]at ha
   |true=>
   simp only[aN,cond_true]at ha;simp only[QI]at aN;have r7:=QP aN.1;cases kN:Nat.beq k 0 with
   |true=>
    simp only[kN,cond_true]at ha;cases eM:Nat.beq len 0 with
    |false=>simp[eM]at ha
    |true=>
     have e1:=QN eM;have e2:=QN kN;subst e1 e2;simp only[eM,cond_true,QA,mk,QE]at ha;obtain⟨rfl,rfl⟩:=ha;rcases hs.slice_inv with⟨pl,cap,_,bH,_⟩|⟨y,_,rfl⟩
     ·omega
     ·have:=zCp (lo:=0) (ts:=ts) (ty:=ty) (base:=some y) (len:=0) (cap:=0) (as:=[]) (zs:=[]) ht hu hi hz dj a8 dM aI hr hS (by simpa using hl) (by simp) (fun d=>by simp[Builtin.firstCells,loadCells,loadCellsFrom]) ω ω;simpa using this
   |false=>
   simp only[kN,QU]at ha;cases A5:Nat.beq k i.size with
   |false=>simp[A5]at ha
   |true=>
   have Kz:=QN A5;subst Kz;simp only[A5,cond_true]at ha;split at ha
   ·rename_i cells lo a9;split at ha
    ·rename_i dS bI;cases rZ:Nat.ble lo (a.off+len*i.size)with
     |false=>simp[rZ]at ha
     |true=>
     simp only[rZ,cond_true,QA,QE]at ha;obtain⟨rfl,rfl⟩:=ha;exact zLl ht hu hi hz dj a8 dM aI hr hS hl aT hs a9 bI (QP rZ) r7 eh
    ·cases ha
   ·cases ha
  ·cases ha
end
section
variable {P:Program}{B:Nat}{σ:Nat->Option Pl}{h:WA}{w:World}
def yA(z:List Value)(n:Nat):(zi z n).length=n*z.length:=by
 induction n with
 |zero=>simp[zi]
 |succ n ih=>simp[zi,ih,Gx];omega
def zPX(z:List Value)(hz:0<z.length):∀ (n i:Nat),i<n*z.length->(zi z n)[i]?=z[i % z.length]?:=by
 intro n;induction n with
 |zero=>intro i h;simp at h
 |succ n ih=>
  intro i h;simp only[zi];by_cases hi:i<z.length
  ·rw[Qg hi,JD hi]
  ·have h':i-z.length<n*z.length:=by rw[Gx]at h;omega
   rw[Qk ω,ih _ h',Nat.mod_eq_sub_mod (show z.length<=i by omega)]
def zBN(z:Array Value)(hz:0<z.size)(n:Nat):((Array.range (n*z.size)).map (z[· % z.size]!)).toList=zi z.toList n:=by
 apply List.ext_getElem?;intro i;by_cases hi:i<n*z.size
 ·rw[zPX z.toList (by simpa using hz) n i (by simpa using hi)];have hm:i % z.size<z.size:=Nat.mod_lt _ hz;simp[hi,hm]
 ·have:=yA z.toList n;rw[JL (by simp;omega),JL (by simp at this;omega)]
def zAr{z:List Value}(hz:yk z=true):∀ n,yk (zi z n)=true
 |0=>rfl
 |n+1=>by simp only[zi,yk,List.all_append,QI];exact⟨hz,zAr hz n⟩
def ZG{t:TypeId}{zs:List Value}(hz:zAD P t=some zs):∃ i z,P.info? t=some i/\i.zero=some z/\zs=z.cells.toList/\z.cells.size=i.size/\yk zs=true:=by
 unfold zAD zKc ZK at hz;cases hi:P.info? t with
 |none=>simp[hi]at hz
 |some i=>
  cases dd:i.zero with
  |none=>simp[hi,dd]at hz
  |some z=>
   simp only[hi,dd,QV,QL]at hz;cases hc:(yk z.cells.toList&&Nat.beq z.cells.size i.size)with
   |false=>simp[hc]at hz
   |true=>
    simp only[hc,cond_true,QA]at hz;simp only[QI]at hc;exact⟨i,z,rfl,dd,hz.symm,QN hc.2,by rw[<-hz];exact hc.1⟩
def zJ8(hr:Wd P B σ h w){t e:TypeId}{c l cp:Nat}{zs:List Value}{k k':IntKind}(ht:P.underlying t=some (.slice e))(he:Zg P e=some c)(hz:zAD P e=some zs)
  (h1:l<=cp) (h2:cp<=room):
  ∃ σ' w' cv,(Instr.makeSlice t (.int k l) (.int k' cp)).run P w=.ok cv w'/\WI σ' (.slice (some ⟨h.n,0,none⟩) l c) cv/\W2 P B σ h w σ' (h.push (.row (zi zs l) true 0)) w':=by
 obtain⟨i,z,hi,hsz,a8,dM,aI,dd,dj⟩:=yp he;obtain⟨i',z',af,gE,rfl,kO,aO⟩:=ZG hz;rw[hi]at af;cases af;rw[dd]at gE;cases gE;have aN:room=4294967296:=rfl;have hl:(IntKind.i64.wrap (l:Int))=l:=IntWalk.i64_in _ ω;have lY:(IntKind.i64.wrap (cp:Int))=cp:=IntWalk.i64_in _ ω;have gF:¬((281474976710656:Int)<(i.bytes:Int)*(cp:Int)):=by
  have:i.bytes*cp<=1024*4294967296:=Nat.mul_le_mul aI ω;have h3:((i.bytes*cp:Nat):Int)<=((1024*4294967296:Nat):Int):=Int.ofNat_le.2 this;rw[Int.natCast_mul]at h3;omega
 have gG:WQ σ (zi z.cells.toList l) ((zi z.cells.toList l)):=by
  refine VM σ ?_;clear lY hl h1;induction l with
  |zero=>rfl
  |succ l ih=>simp only[zi,yk,List.all_append,QI];exact⟨aO,ih⟩
 have cO:zi z.cells.toList cp=zi z.cells.toList l++zi z.cells.toList (cp-l):=by
  have:∀ a b,zi z.cells.toList (a+b)=zi z.cells.toList a++zi z.cells.toList b:=fun a b=>by
   induction a with
   |zero=>simp[zi]
   |succ a ih=>rw[Nat.succ_add];simp[zi,ih]
  rw[<-this];congr 1;omega
 have aG:((Array.range (cp*i.size)).map (z.cells[· % z.cells.size]!))=(zi z.cells.toList l++zi z.cells.toList (cp-l)).toArray:=by
  apply JT;rw[<-cO,<-zBN z.cells ω cp];simp[kO]
 have tO:=zDx hr gG (zi z.cells.toList (cp-l)) e 0;refine⟨_,_,.slice (some ⟨w.heap.size,0,none⟩) l cp,?_,WI.slice (pl:=⟨w.heap.size,0,_⟩) (yB _ _ _) a8 h1 ?_,tO⟩
 ·rw[<-aG];by_cases hn:cp=0
  ·subst hn;have:l=0:=ω
   subst this;have w0:IntKind.i64.wrap 0=0:=by decide
   have bE:Array.range 0=#[]:=rfl;simp[Instr.makeSlice,asInt,asIntOf,run_underlying ht,typeInfo,hi,yE hi,newRow,w0,bE]
  ·have iJ:¬(cp*i.size=0):=by
    intro h0;rcases Nat.mul_eq_zero.1 h0 with h|h<;>omega
   have pk:¬((cp:Int)<0):=ω
   have jw:¬((l:Int)<0):=ω
   have jx:¬cp<l:=ω
   have tP:¬i.size=0:=ω
   simp[Instr.makeSlice,asInt,asIntOf,run_underlying ht,typeInfo,hi,yE hi,newRow,hl,lY,gF,zeroValue,dd,pk,jw,jx];intro h0;exact absurd h0 iJ
 ·simp only[Q8,yA];rw[<-Gx];have:l+(cp-l)=cp:=ω
  rw[this];have:z.cells.toList.length=c:=by simpa using dj
  rw[this];exact QF _
end
section
variable {P:Program}{B:Nat}{σ:Nat->Option Pl}{h:WA}{w:World}
def zRQ(hr:Wd P B σ h w){t e ty:TypeId}{c m:Nat}{a:Addr}{len k:Nat}{d' s s':Value}{ys:List Value}{ts:List TypeId}(ht:P.underlying t=some (.slice e))(he:Zg P e=some c)
  (hd:WI σ (.slice (some a) len k) d') (hs:WI σ s s') (aX:yq c h s=some ys) (hm:m=min (ys.length / c) len):
  (m=0->(Builtin.copy_ (t::ts).toArray ty #[d',s']).run P w=.ok (.int .i64 0) w)/\
  (∀ h',m≠0->k=c->a.spot=none->zk h a (ys.take (m*c))=some h'->∃ w',(Builtin.copy_ (t::ts).toArray ty #[d',s']).run P w=.ok (.int .i64 m) w'/\W2 P B σ h w σ h' w'):=by
 obtain⟨i,z,hi,hsz,a8,dM,aI,dd,dj⟩:=yp he;subst hsz;obtain⟨n,zs,hl,hS⟩:=zDY hr a8 hs aX;have hn:ys.length / i.size=n:=by rw[hl.1];exact hS.len a8
 rw[hn]at hm;have e1:=hS.1 w;have e2:=hS.2.2 m ω w.drawn;have iK:Nat.min n len=m:=hm.symm;constructor
 ·intro h0;rw[h0]at e2 iK;have:∃ y cp,d'=.slice (some y) len cp:=by cases hd<;>exact⟨_,_,rfl⟩
  obtain⟨y,cp,rfl⟩:=this;simp at e2;simp[Builtin.copy_,run_underlying ht,e1,iK,yE hi,e2,storeCells,goInt]
 ·intro h' h0 hk dZ aL;subst hk;cases hd with
  |szero=>simp at hm;omega
  |slice hp bH fu lZ=>
   rename_i g off cap pl;have Hr:WQ σ (ys.take (m*i.size)) (zs.take (m*i.size)):=hl.take _;obtain⟨w',r1,r2⟩:=zDC hr (WI.ptr hp) Hr aL;exact⟨w',by simp[Builtin.copy_,run_underlying ht,e1,iK,yE hi,e2,r1,goInt],r2⟩
end
section
variable {P:Program}{B:Nat}{σ:Nat->Option Pl}{h:WA}{w:World}
def YU(k:IntKind)(n y:Nat)(code:BoundsCode)(hn:n<=y):(Instr.sliceBound (.int k n) y code).run P w=.ok n w:=by
 simp[Instr.sliceBound,asIntOf,hn]
def BV(o:Option Nat)(v:Option Value):Prop:=match o with
 |none=>v=none
 |some n=>∃ k,v=some (.int k n)
def Zb{sl:Bool}{len cap l E m:Nat}{lo hi mx:Option Nat}{i7 af ni:Option Value}(h1:BV lo i7)(h2:BV hi af)(h3:BV mx ni)(hl:lo.getD 0=l)(hE:hi.getD len=E)(hm:mx.getD cap=m)
  (iL:mx.isSome=true->hi.isSome=true) (b1:l<=E) (b2:E<=m) (b3:m<=cap) (b4:mx=none->E<=cap):(Instr.sliceBounds sl len cap i7 af ni).run P w=.ok (l,E,m) w:=by
 cases mx with
 |none=>
  cases h3;simp at hm;subst hm;cases hi with
  |none=>
   cases h2;simp at hE;subst hE;cases lo with
   |none=>cases h1;simp at hl;subst hl;simp[Instr.sliceBounds]
   |some n=>obtain⟨k,rfl⟩:=h1;simp at hl;subst hl;simp[Instr.sliceBounds,YU,b1]
  |some e0=>
   obtain⟨k,rfl⟩:=h2;simp at hE;subst hE;cases lo with
   |none=>cases h1;simp at hl;subst hl;simp[Instr.sliceBounds,YU,b2]
   |some n=>obtain⟨k,rfl⟩:=h1;simp at hl;subst hl;simp[Instr.sliceBounds,YU,b1,b2]
 |some m0=>
  obtain⟨k,rfl⟩:=h3;simp at hm;subst hm;cases hi with
  |none=>simp at iL
  |some e0=>
   obtain⟨k,rfl⟩:=h2;simp at hE;subst hE;cases lo with
   |none=>cases h1;simp at hl;subst hl;simp[Instr.sliceBounds,YU,b2,b3]
   |some n=>obtain⟨k,rfl⟩:=h1;simp at hl;subst hl;simp[Instr.sliceBounds,YU,b1,b2,b3]
def ZV{t e:TypeId}{i:TypeInfo}(ht:P.underlying t=some (.slice e))(eo:P.info? e=some i){a:Option Addr}{len cap l E m:Nat}{lo hi mx:Option Value}(hb:(Instr.sliceBounds true len cap lo hi mx).run P w=.ok (l,E,m) w):
  (Instr.sliceAt t (.slice a len cap) lo hi mx).run P w=.ok (.slice (if m=l then a else a.map (·.add (l*i.size))) (E-l) (m-l)) w:=by
 simp[Instr.sliceAt,Instr.slice,run_underlying ht,yE eo,hb]
def zLb{t e:TypeId}{c:Nat}{x x' v:Value}{lo hi mx:Option Nat}{i7 af ni:Option Value}(ht:P.underlying t=some (.slice e))(he:Zg P e=some c)(hx:WI σ x x')
  (h1:BV lo i7) (h2:BV hi af) (h3:BV mx ni) (iL:mx.isSome=true->hi.isSome=true) (hs:Zk c x lo hi mx=some v):
  ∃ cv,(Instr.sliceAt t x' i7 af ni).run P w=.ok cv w/\WI σ v cv:=by
 obtain⟨i,z,eo,hsz,a8,dM,aI,dd,dj⟩:=yp he;subst hsz;unfold Zk at hs;split at hs
 ·split at hs
  ·rename_i e1 e2 e3;cases hs;cases hx;have hb:=Zb (P:=P) (w:=w) (sl:=true) (len:=0) (cap:=0) h1 h2 h3 e1 e2 e3 iL (QF _) (QF _) (QF _) (fun _=>QF _);exact⟨_,ZV ht eo hb,by simp;exact .snil⟩
  ·cases hs
 ·rename_i a len k;simp only at hs;generalize hl:lo.getD 0=l at hs;generalize hE:hi.getD len=E at hs;have zero:∀ {l E:Nat},len=0->lo.getD 0=l->hi.getD len=E->l=0->E=0->mx=none->∃ cv,(Instr.sliceAt t x' i7 af ni).run P w=.ok cv w/\WI σ (.slice (some a) len k) cv:=fun {l E} l0 hl hE e2 e1 kP=>by
   subst kP l0;cases hx with
   | @slice _ _ _ _ cap pl hp bH fu hn=>
    have hb:=Zb (P:=P) (w:=w) (sl:=true) (len:=0) (cap:=cap) h1 h2 h3 hl hE rfl iL ω (by simp;omega) (by simp) (fun _=>by omega);refine⟨_,ZV ht eo hb,?_⟩;subst e1 e2;simp;split
    ·exact .slice hp bH fu hn
    ·simp only[Y2,JQ];exact .slice hp bH fu hn
   |szero=>
    have hb:=Zb (P:=P) (w:=w) (sl:=true) (len:=0) (cap:=0) h1 h2 h3 hl hE rfl iL ω (by simp;omega) (by simp) (fun _=>by omega);refine⟨_,ZV ht eo hb,?_⟩;subst e1 e2;simp;exact .szero _ _ _
  cases hb:(Nat.ble l E&&Nat.ble E len&&a.spot.isNone)with
  |false=>
   simp only[hb,QU]at hs;cases hz:(Nat.beq len 0&&(Nat.beq l 0&&(Nat.beq E 0&&mx.isNone)))with
   |false=>simp[hz]at hs
   |true=>
    simp only[hz,cond_true,QA]at hs;subst hs;simp only[QI]at hz;obtain⟨z1,z2,z3,z4⟩:=hz;exact zero (QN z1) hl hE (QN z2) (QN z3) (Option.isNone_iff_eq_none.1 z4)
  |true=>
   simp only[hb,cond_true]at hs;simp only[QI]at hb;obtain⟨⟨b1,b2⟩,b3⟩:=hb;have b1:=QP b1;have b2:=QP b2;cases mx with
   |none=>
    simp only at hs;cases hk:Nat.beq k i.size with
    |true=>
     simp only[hk,cond_true,QA]at hs;subst hs;have hk:=QN hk;subst hk;rcases hx.slice_inv with⟨pl,cap,hp,_,fu,hn,rfl⟩|⟨y,rfl,rfl⟩
     ·have hb:=Zb (P:=P) (w:=w) (sl:=true) (len:=len) (cap:=cap) h1 h2 h3 hl hE rfl iL b1 (by simp;omega) (by simp) (fun _=>by omega);refine⟨_,ZV ht eo hb,?_⟩;simp only[Gv];by_cases hz:cap=l
      ·rw[QJ hz];have e1:E-l=0:=ω
       have e2:cap-l=0:=ω
       rw[e1,e2];exact .szero _ _ _
      ·rw[QC hz];simp only[QL,Y2];have e1:pl.base+a.off+l*i.size=pl.base+(a.off+l*i.size):=ω
       rw[e1];refine .slice hp a8 ω ?_;have h3:(cap-l)*i.size+l*i.size=cap*i.size:=by rw[<-Gx];congr 1;omega
       omega
     ·have e1:E=0:=ω
      have e2:l=0:=ω
      have hb:=Zb (P:=P) (w:=w) (sl:=true) (len:=0) (cap:=0) h1 h2 h3 hl hE rfl iL b1 (by simp;omega) (by simp) (fun _=>by omega);refine⟨_,ZV ht eo hb,?_⟩;subst e1 e2;simp;exact .szero _ _ _
    |false=>
     simp only[hk,QU]at hs;cases kN:Nat.beq len 0 with
     |false=>simp[kN]at hs
     |true=>
      simp only[kN,cond_true,QA]at hs;subst hs;have l0:=QN kN;exact zero l0 hl hE ω ω rfl
   |some m0=>
    simp only at hs;cases hm:(Nat.beq m0 l&&Nat.beq E l)with
    |false=>
     simp only[hm,QU]at hs;cases bT:(Nat.beq k i.size&&(Nat.ble E m0&&Nat.ble m0 len))with
     |false=>simp[bT]at hs
     |true=>
      simp only[bT,cond_true,QA]at hs;subst hs;simp only[QI]at bT;obtain⟨k1,k2,k3⟩:=bT;have hk:=QN k1;have k2:=QP k2;have k3:=QP k3;subst hk;rcases hx.slice_inv with⟨pl,cap,hp,_,fu,hn,rfl⟩|⟨y,rfl,rfl⟩
      ·have hb:=Zb (P:=P) (w:=w) (sl:=true) (len:=len) (cap:=cap) h1 h2 h3 hl hE rfl iL b1 (by simp;omega) (by simp;omega) (fun h=>by cases h);refine⟨_,ZV ht eo hb,?_⟩;simp only[GG];by_cases hz:m0=l
       ·rw[QJ hz];have e1:E-l=0:=ω
        have e2:m0-l=0:=ω
        rw[e1,e2];exact .szero _ _ _
       ·rw[QC hz];simp only[QL,Y2];have e1:pl.base+a.off+l*i.size=pl.base+(a.off+l*i.size):=ω
        rw[e1];refine .slice hp a8 ω ?_;have h3:(m0-l)*i.size+l*i.size=m0*i.size:=by rw[<-Gx];congr 1;omega
        have h4:m0*i.size<=cap*i.size:=GH _ ω;omega
      ·have e1:E=0:=ω
       have e2:l=0:=ω
       have e3:m0=0:=ω
       have hb:=Zb (P:=P) (w:=w) (sl:=true) (len:=0) (cap:=0) h1 h2 h3 hl hE rfl iL b1 (by simp;omega) (by simp;omega) (fun h=>by cases h);refine⟨_,ZV ht eo hb,?_⟩;subst e1 e2 e3;simp;exact .szero _ _ _
    |true=>
     simp only[hm,cond_true,QA]at hs;subst hs;simp only[QI]at hm;have e1:=QN hm.1;have e2:=QN hm.2;have:∃ y cap,x'=.slice (some y) len cap/\len<=cap:=by
      rcases hx.slice_inv with⟨pl,cap,hp,_,fu,hn,rfl⟩|⟨y,rfl,rfl⟩
      ·exact⟨_,_,rfl,fu⟩
      ·exact⟨_,_,rfl,QF _⟩
     obtain⟨y,cap,rfl,tQ⟩:=this;have hb:=Zb (P:=P) (w:=w) (sl:=true) (len:=len) (cap:=cap) h1 h2 h3 hl hE rfl iL b1 (by simp;omega) (by simp;omega) (fun h=>by cases h);refine⟨_,ZV ht eo hb,?_⟩;simp only[GG,e1,e2,Qz,JI];exact .szero _ _ _
 ·cases hs
end
section
variable {P:Program}{B:Nat}{σ:Nat->Option Pl}{h:WA}{w:World}
def Bl.nil:Bl σ [] []:=⟨rfl,fun i e e' h=>by simp at h⟩
def Bl.get{es aF:List MapEntry}(he:Bl σ es aF){i:Nat}{e:MapEntry}(h:es[i]?=some e):∃ e',aF[i]?=some e'/\e'.key=e.key/\e'.born=e.born/\WI σ e.val e'.val:=by
 have hi:i<es.length:=(QS.1 h).1;have hy:aF[i]?=some (aF[i]'(by rw[<-he.1];exact hi)):=QB _;exact⟨_,hy,he.2 i _ _ h hy⟩
def Bl.tail{e e':MapEntry}{es aF:List MapEntry}(he:Bl σ (e::es) (e'::aF)):Bl σ es aF:=
 ⟨by simpa using he.1,fun i a b h1 h2=>he.2 (i+1) a b (by simpa using h1) (by simpa using h2)⟩
def zEM{kk:IntKind}{n:Int}{d:IntKind}:∀ {es aF:List MapEntry} {i:Nat} {r:Option (Nat×Value)},Bl σ es aF->Yo (.int kk n) es i=some r->
  (r=none->Instr.findNow (.int d) (.int kk n) aF i=some none)/\
  (∀ j v,r=some (j,v)->i<=j/\∃ v',Instr.findNow (.int d) (.int kk n) aF i=some (some (j,v'))/\WI σ v v'/\∃ e,es[j-i]?=some e/\e.key=.int kk n/\e.val=v):=by
 intro es;induction es with
 |nil=>
  intro aF i r he hf;cases aF with
  |nil=>simp only[Yo,QA]at hf;subst hf;exact⟨fun _=>rfl,(fun j v h=>by cases h)⟩
  |cons e aF=>have:=he.1;simp at this
 |cons e es ih=>
  intro aF i r he hf;cases aF with
  |nil=>have:=he.1;simp at this
  |cons e' aF=>
   obtain⟨k1,k2,k3⟩:=he.2 0 e e' rfl rfl;simp only[Yo]at hf;cases hk:zDb (.int kk n) e.key with
   |none=>simp[hk]at hf
   |some b=>
    have A6:∃ m,e.key=.int kk m/\b=(n == m):=by
     cases KA:e.key<;>simp[KA,zDb]at hk;exact⟨_,by rw[hk.1],hk.2.symm⟩
    obtain⟨m,hm,rfl⟩:=A6;have pq:Instr.sameNow (.int d) (.int kk n) e'.key=some (n == m):=by rw[k1,hm];simp[Instr.sameNow]
    cases hb:(n == m)with
    |true=>
     simp only[hk,hb,QA]at hf;subst hf;refine⟨(fun h=>by cases h),fun j v h=> ?_⟩;simp only[QA,QE]at h;obtain⟨rfl,rfl⟩:=h;refine⟨QF _,e'.val,by simp[Instr.findNow,pq,hb],k3,e,by simp,?_,rfl⟩;rw[hm];have:n=m:=by simpa using hb
     rw[this]
    |false=>
     simp only[hk,hb]at hf;obtain⟨a1,a2⟩:=ih he.tail hf;refine⟨fun h=>by simp only[Instr.findNow,pq,hb];exact a1 h,fun j v h=> ?_⟩;obtain⟨b1,v',b2,b3,e0,b4,b5⟩:=a2 j v h;refine⟨ω,v',by simp only[Instr.findNow,pq,hb];exact b2,b3,e0,?_,b5⟩;have:j-i=(j-(i+1))+1:=ω
     rw[this];simpa using b4
def zFK(v:Value):∀ (es:List MapEntry) (i j:Nat),(zAX v es i)[j]?=if j=i then(es[j]?).map (fun e=>{e with val:=v})else es[j]?
 |[],i,j=>by simp[zAX]
 |e::es,0,0=>by simp[zAX]
 |e::es,0,j+1=>by simp[zAX]
 |e::es,i+1,0=>by simp[zAX]
 |e::es,i+1,j+1=>by simp[zAX,zFK v es i j]
def zCh(v:Value):∀ (es:List MapEntry) (i:Nat),(zAX v es i).length=es.length
 |[],i=>rfl
 |e::es,0=>rfl
 |e::es,i+1=>by simp[zAX,zCh v es i]
def zGz:∀ (es:List MapEntry) (i:Nat),zGS es i=es.eraseIdx i
 |[],i=>by cases i<;>rfl
 |e::es,0=>rfl
 |e::es,i+1=>by simp[zGS,zGz es i]
def zCD(hr:Wd P B σ h w){g:Nat}{es:List MapEntry}{clock:Nat}(hg:h.get g=some (.map es clock)){v':Value}(hv:WI σ (.map (some g)) v'):
  ∃ pl aF,σ g=some pl/\v'=.map (some pl.b)/\w.heap[pl.b]?=some (.map aF clock)/\Bl σ es aF.toList:=by
 obtain⟨pl,h1,⟨aF,h2,h3⟩,_⟩:=hr.live _ _ hg;cases hv with
 |map hp=>rw[h1]at hp;cases hp;exact⟨pl,aF,h1,rfl,h2,h3⟩
def zEA(hr:Wd P B σ h w){g:Nat}{es:List MapEntry}{clock:Nat}(hg:h.get g=some (.map es clock)){pl:Pl}(hp:σ g=some pl){o:Obj}(hb:w.heap[pl.b]?=some o){Hs:List MapEntry}{fb:Array MapEntry}{ck:Nat}(he:Bl σ Hs fb.toList):
  W2 P B σ h w σ (h.set g (.map Hs ck)) {w with heap:=w.heap.setIfInBounds pl.b (.map fb ck)}:=by
 have aD:pl.b<w.heap.size:=(hr.lt _ _ hp).2;refine hr.put (O':= .map fb ck) hg rfl rfl hp ⟨by simp,by simp[aD],fun b ah=> ?_⟩ ⟨rfl,rfl,rfl⟩ ⟨fb,by simp[aD],he⟩ (fun g2 o2 b7 _ _ _ _ k=>by cases o2<;>exact k.elim);simp only[Gi];rw[QC ω]
section
variable {t kt e:TypeId}{d:IntKind}(ht:P.underlying t=some (.map kt e))(hk:P.underlying kt=some (.int d))
include ht hk
omit ht in
def zGm(D:Nat)(b:Bool)(kk:IntKind)(n:Int):(Instr.checkKey b (D+1) kt (.int kk n)).run P w=.ok () w:=by
 unfold Instr.checkKey;simp[run_underlying hk]
omit ht in
def Yh(b:Bool)(kk:IntKind)(n:Int):(Instr.checkKey b 10000 kt (.int kk n)).run P w=.ok () w:=zGm hk 9999 b kk n
def zFX(hr:Wd P B σ h w){zero:Value}{m m' v:Value}{kk:IntKind}{n:Int}{ok:Bool}{es:List MapEntry}{r:Option (Nat×Value)}(hz:zKc P e=some zero)(dj:yk zero.cells.toList=true)(hm:WI σ m m')
  (jb:(m=.map none/\es=[])\/∃ g clock,m=.map (some g)/\h.get g=some (.map es clock)) (hf:Yo (.int kk n) es 0=some r)
  (hv:v=match r with|some (_,v)=>(if ok then .tuple #[v,.bool true]else v)|none=>(if ok then .tuple #[zero,.bool false]else zero)):
  ∃ cv,(Instr.lookup t m' (.int kk n) ok).run P w=.ok cv w/\WI σ v cv:=by
 have gE:(zeroValue e).run P w=.ok zero w:=by
  unfold zKc at hz;cases hi:P.info? e with
  |none=>simp[hi]at hz
  |some i=>simp[hi]at hz;simp[zeroValue,typeInfo,hi,hz]
 have xk:WI σ zero zero:=by
  have hl:=VM σ dj;cases zero with
  |agg cs=>have:=VW hl;simpa [Value.cells]using this
  |_=>exact hl.2 0 _ _ rfl rfl
 have xl:∀ {a b:Value} (c:Bool),WI σ a b->WI σ (.tuple #[a,.bool c]) (.tuple #[b,.bool c]):=fun {a b} c dJ=>by
  refine .tuple rfl (fun i x y hx hy=> ?_);match i with
  |0=>simp at hx hy;subst hx hy;exact dJ
  |1=>simp at hx hy;subst hx hy;exact .bool _
  |i+2=>simp at hx
 have key:∀ (aF:Array MapEntry),Bl σ es aF.toList->∃ x:Option (Nat×Value),(Instr.findKey kt (.int kk n) aF.toList).run P w=.ok x w/\
   ((x=none/\r=none)\/∃ j u u',x=some (j,u')/\r=some (j,u)/\WI σ u u'):=fun aF he=>by
  obtain⟨a1,a2⟩:=zEM (d:=d) he hf;cases r with
  |none=>exact⟨none,by simp[Instr.findKey,run_underlying hk,a1 rfl],.inl ⟨rfl,rfl⟩⟩
  |some x=>
   obtain⟨j,u⟩:=x;obtain⟨_,u',b2,b3,_⟩:=a2 j u rfl;exact⟨some (j,u'),by simp[Instr.findKey,run_underlying hk,b2],.inr ⟨j,u,u',rfl,rfl,b3⟩⟩
 have nj:=fun b=>Yh (P:=P) (w:=w) hk b kk n;rcases jb with⟨rfl,rfl⟩|⟨g,clock,rfl,hg⟩
 ·cases hm;obtain⟨x,c1,c2⟩:=key #[] Bl.nil;simp only at c1;rcases c2 with⟨rfl,rfl⟩|⟨j,u,u',rfl,rfl,c3⟩
  ·refine⟨if ok then .tuple #[zero,.bool false]else zero,by simp[Instr.lookup,run_underlying ht,nj,c1,gE],?_⟩;subst hv;cases ok
   ·exact xk
   ·exact xl _ xk
  ·refine⟨if ok then .tuple #[u',.bool true]else u',by simp[Instr.lookup,run_underlying ht,nj,c1],?_⟩;subst hv;cases ok
   ·exact c3
   ·exact xl _ c3
 ·obtain⟨pl,aF,k1,rfl,k3,k4⟩:=zCD hr hg hm;obtain⟨x,c1,c2⟩:=key aF k4;rcases c2 with⟨rfl,rfl⟩|⟨j,u,u',rfl,rfl,c3⟩
  ·refine⟨if ok then .tuple #[zero,.bool false]else zero,by simp[Instr.lookup,run_underlying ht,getObj,Sem.run,k3,nj,c1,gE],?_⟩;subst hv;cases ok
   ·exact xk
   ·exact xl _ xk
  ·refine⟨if ok then .tuple #[u',.bool true]else u',by simp[Instr.lookup,run_underlying ht,getObj,Sem.run,k3,nj,c1],?_⟩;subst hv;cases ok
   ·exact c3
   ·exact xl _ c3
def zBX(hr:Wd P B σ h w){g:Nat}{m' v v':Value}{kk:IntKind}{n:Int}{es:List MapEntry}{clock:Nat}{r:Option (Nat×Value)}(hg:h.get g=some (.map es clock))(hm:WI σ (.map (some g)) m')(hv:WI σ v v')
  (hf:Yo (.int kk n) es 0=some r):
  ∃ w',(Instr.mapUpdate t m' (.int kk n) v').run P w=.ok () w'/\
   W2 P B σ h w σ (h.set g (match r with|some (i,_)=> .map (zAX v es i) clock|none=> .map (es++[{key:= .int kk n,val:=v,born:=clock}]) (clock+1))) w':=by
 obtain⟨pl,aF,k1,rfl,k3,k4⟩:=zCD hr hg hm;obtain⟨a1,a2⟩:=zEM (d:=d) k4 hf;cases r with
 |none=>
  refine⟨_,?_,zEA (fb:=aF.push {key:= .int kk n,val:=v',born:=clock}) (ck:=clock+1) hr hg k1 k3 ⟨by simp[k4.1],fun i x y hx hy=> ?_⟩⟩
  ·simp[Instr.mapUpdate,run_underlying ht,getObj,setObj,Sem.run,k3,Yh hk,Instr.findKey,run_underlying hk,a1 rfl]
  ·simp only[Array.toList_push]at hy;by_cases hi:i<es.length
   ·rw[Qg hi]at hx;rw[Qg (by rw[<-k4.1];exact hi)]at hy;exact k4.2 i x y hx hy
   ·rw[Qk ω]at hx;rw[Qk (by rw[<-k4.1];omega),<-k4.1]at hy;have:i-es.length=0:=by
     have:=(QS.1 hx).1;simp at this;omega
    rw[this]at hx hy;simp at hx hy;subst hx hy;exact⟨rfl,rfl,hv⟩
 |some x=>
  obtain⟨j,u⟩:=x;obtain⟨_,u',b2,b3,e0,b4,b5,b6⟩:=a2 j u rfl;simp only[Nat.sub_zero]at b4;obtain⟨KB,c1,c2,c3,c4⟩:=k4.get b4;have Ht:aF[j]?=some KB:=by simpa using c1
  have ab:(Instr.keyThatStays (((aF[j]?).map (·.key)).getD (.int kk n)) (.int kk n)).run P w=.ok (.int kk n) w:=by
   rw[Ht];simp[Instr.keyThatStays,c2,b5,Instr.sameBits]
  refine⟨_,?_,zEA (fb:=aF.modify j fun e=>{e with key:= .int kk n,val:=v'}) (ck:=clock) hr hg k1 k3 ⟨by simp[zCh,k4.1],fun i x y hx hy=> ?_⟩⟩
  ·simp[Instr.mapUpdate,run_underlying ht,getObj,setObj,Sem.run,k3,Yh hk,Instr.findKey,run_underlying hk,b2,ab]
  ·rw[zFK]at hx;have kQ:(aF.modify j fun e=>{e with key:= .int kk n,val:=v'})[i]?=some y:=by rw[<-Array.getElem?_toList];exact hy
   rw[Array.getElem?_modify]at kQ;by_cases jy:i=j
   ·subst jy;simp only[Qz,b4,QL,QA,Ht]at hx kQ;subst hx kQ;exact⟨b5.symm,c3,hv⟩
   ·rw[QC jy]at hx;rw[QC ω]at kQ;exact k4.2 i x y hx (by simpa using kQ)
def zFw(hr:Wd P B σ h w){g:Nat}{m':Value}{kk:IntKind}{n:Int}{es:List MapEntry}{clock:Nat}{r:Option (Nat×Value)}{ty:TypeId}{ts:List TypeId}(hg:h.get g=some (.map es clock))(hm:WI σ (.map (some g)) m')
  (hf:Yo (.int kk n) es 0=some r):
  ∃ w',(Builtin.delete_ (t::ts).toArray ty #[m',.int kk n]).run P w=.ok (.tuple #[]) w'/\
   W2 P B σ h w σ (h.set g (match r with|some (i,_)=> .map (zGS es i) clock|none=> .map es clock)) w':=by
 obtain⟨pl,aF,k1,rfl,k3,k4⟩:=zCD hr hg hm;obtain⟨a1,a2⟩:=zEM (d:=d) k4 hf;cases r with
 |none=>
  refine⟨_,?_,zEA (fb:=aF) (ck:=clock) hr hg k1 k3 k4⟩;simp[Builtin.delete_,run_underlying ht,getObj,setObj,Sem.run,k3,Yh hk,Instr.findKey,run_underlying hk,a1 rfl]
 |some x=>
  obtain⟨j,u⟩:=x;obtain⟨_,u',b2,b3,e0,b4,b5,b6⟩:=a2 j u rfl;have hsz:j<aF.size:=by
   simp only[Nat.sub_zero]at b4;have:=(QS.1 b4).1;have h2:=k4.1;simp at h2;omega
  refine⟨_,?_,zEA (fb:=aF.eraseIdxIfInBounds j) (ck:=clock) hr hg k1 k3 ?_⟩
  ·simp[Builtin.delete_,run_underlying ht,getObj,setObj,Sem.run,k3,Yh hk,Instr.findKey,run_underlying hk,b2]
  ·have hl:(aF.eraseIdxIfInBounds j).toList=aF.toList.eraseIdx j:=by
    simp[Array.eraseIdxIfInBounds,hsz]
   rw[hl];simp only[zGz];refine⟨?_,fun i x y hx hy=> ?_⟩
   ·rw[List.length_eraseIdx,List.length_eraseIdx,k4.1]
   ·rw[List.getElem?_eraseIdx]at hx hy;split at hx
    ·rename_i hi;rw[QJ hi]at hy;exact k4.2 i x y hx hy
    ·rename_i hi;rw[QC hi]at hy;exact k4.2 _ x y hx hy
end
def zGw(hr:Wd P B σ h w){t kt e ty:TypeId}{ts:List TypeId}(ht:P.underlying t=some (.map kt e)){g:Nat}{m':Value}{es:List MapEntry}{clock:Nat}(hg:h.get g=some (.map es clock))(hm:WI σ (.map (some g)) m'):
  ∃ w',(Builtin.clear_ (t::ts).toArray ty #[m']).run P w=.ok (.tuple #[]) w'/\W2 P B σ h w σ (h.set g (.map [] clock)) w':=by
 obtain⟨pl,aF,k1,rfl,k3,k4⟩:=zCD hr hg hm;refine⟨_,?_,zEA (fb:=#[]) (ck:=clock) hr hg k1 k3 Bl.nil⟩;simp[Builtin.clear_,run_underlying ht,getObj,setObj,Sem.run,k3]
end
def zKK{fn:Func}(h1:fn.name= "internal/reflectlite.TypeOf") (h2:fn.origin= ""):Extern.findNext fn=none/\Extern.find fn=some Extern.ReflectliteType.typeOf:=by
 unfold Extern.findNext Extern.find;rw[h1,h2];have a1:Extern.allNextRows.lookup "internal/reflectlite.TypeOf"=none:=by kernel_rfl
 have a2:Extern.allNextRows.lookup ""=none:=by kernel_rfl
 have a3:Extern.allGenericRows.lookup "internal/reflectlite.TypeOf"=none:=by kernel_rfl
 have a4:Extern.allTypedRows.lookup "internal/reflectlite.TypeOf"=none:=by kernel_rfl
 have a5:Extern.allRows.lookup "internal/reflectlite.TypeOf"=some Extern.ReflectliteType.typeOf:=by kernel_rfl
 dsimp only;rw[a1,a2,a3,a4,a5];exact⟨rfl,rfl⟩
def zB1:Array Value->Sem Value:=Extern.ReflectliteType.method fun t=>do Extern.Rtype.noPackHeld "Comparable" t;pure (.bool (<-typeInfo t).comparable)
def zEw{fn:Func}(h1:fn.name= "(internal/reflectlite.rtype).Comparable") (h2:fn.origin= ""):Extern.findNext fn=none/\Extern.find fn=some zB1:=by
 unfold Extern.findNext Extern.find;rw[h1,h2];have a1:Extern.allNextRows.lookup "(internal/reflectlite.rtype).Comparable"=none:=by kernel_rfl
 have a2:Extern.allNextRows.lookup ""=none:=by kernel_rfl
 have a3:Extern.allGenericRows.lookup "(internal/reflectlite.rtype).Comparable"=none:=by kernel_rfl
 have a4:Extern.allTypedRows.lookup "(internal/reflectlite.rtype).Comparable"=none:=by kernel_rfl
 have a5:Extern.allRows.lookup "(internal/reflectlite.rtype).Comparable"=some zB1:=by kernel_rfl
 dsimp only;rw[a1,a2,a3,a4,a5];exact⟨rfl,rfl⟩
section
variable {P:Program}{B:Nat}{σ:Nat->Option Pl}{h:WA}{w:World}
def zDU{f:FuncId}{name:String}(he:zAx P f name=true):∃ fn,P.funcs[f]?=some fn/\fn.name=name/\fn.body=none/\fn.origin= "":=by
 unfold zAx at he;split at he
 ·rename_i fn hf;simp only[QI,JN,Option.isNone_iff_eq_none]at he;exact⟨fn,hf,he.1.1,he.1.2,he.2⟩
 ·cases he
def zLq{f:FuncId}{rt:TypeId}{x x' v:Value}(he:zAx P f "internal/reflectlite.TypeOf"=true) (jc:(P.cutTypes.find? (·.1 == "internal/reflectlite.rtype")).map (·.2)=some rt) (hx:WI σ x x')
  (hv:zFF P rt x=some v):∃ cv,(callFunc f #[x']).run P w=.ok (.value cv) w/\WI σ v cv:=by
 obtain⟨fn,hf,h1,h2,h3⟩:=zDU he;obtain⟨k1,k2⟩:=zKK h1 h3;cases hx with
 |iface t hx=>
  simp only[zFF,QA]at hv;subst hv;refine⟨.iface rt (.agg #[.pointer (some ⟨P.globals.size,t,none⟩)]),?_,.rtype _ _ _⟩;obtain⟨p,hp,bO⟩:=QT.1 jc;obtain⟨p1,p2⟩:=p;simp only at bO;subst bO;rename_i u;have e1:Extern.ReflectliteType.typeOf #[.iface t u]=Extern.ReflectliteType.toType t:=rfl;simp[callFunc,program,Sem.run,hf,h1,h2,k1,k2,mark,e1,Extern.ReflectliteType.toType,cutType,hp,Extern.Rtype.handle,typeHandle]
 |_=>cases hv
def zEl{ty:TypeId}{name:String}{f:FuncId}(hm:zAF P ty name=some f)(v:Value):∀ n,(method (n+1) ty v name).run P w=.ok (f,v) w:=by
 intro n;unfold zAF at hm;split at hm
 ·rename_i i hi;split at hm
  ·rename_i m hf;cases hp:m.path.isEmpty with
   |false=>simp[hp]at hm
   |true=>
   simp only[hp,cond_true]at hm;have KC:m.path=#[]:=by simpa using hp
   split at hm
   ·rename_i g ptr hfn;have key:(receiverAt ty (.val v) ptr (if m.path.isEmpty then some ((name.splitOn ".").getLastD name)else none)).run P w=.ok v w/\f=g:=by
     split at hm
     ·rename_i e hu;cases ptr with
      |false=>cases hm
      |true=>cases hm;exact⟨by simp[receiverAt,run_underlying hu,Place.get],rfl⟩
     ·rename_i A7 hu;cases ptr with
      |true=>cases hm
      |false=>
       cases hm;refine⟨?_,rfl⟩;rename_i d;cases d<;>first|(simp[receiverAt,run_underlying hu,Place.get];done)|(exact(A7 _ rfl).elim)
     ·cases hm
    obtain⟨k1,rfl⟩:=key;simp only[hp,Qz,List.getLastD_eq_getLast?]at k1;simp[method,typeInfo,program,Sem.run,hi,hf,KC,follow,hfn,k1]
   ·cases hm
  ·cases hm
 ·cases hm
def zFO{G rt ty:Nat}{b:Bool}(hb:Y4 P G rt ty=some b)(args:Array Value)(ha:args=#[]):
  (callMethod (.iface rt (.agg #[.pointer (some ⟨G,ty,none⟩)])) "Comparable" args).run P w=.ok (.value (.bool b)) w:=by
 subst ha;unfold Y4 at hb;split at hb
 ·rename_i f hm;generalize hc:(zAx P f "(internal/reflectlite.rtype).Comparable"&&Nat.beq G P.globals.size&&(!(P.holdsPacked P.depth ty)&& !(P.packed ty)))=c at hb;cases c with
  |false=>cases hb
  |true=>
  simp only[cond_true]at hb;simp only[QI,Ge]at hc;obtain⟨⟨pt,fc⟩,A8,A9⟩:=hc;have fc:=QN fc;subst fc;obtain⟨fn,hf,h1,h2,h3⟩:=zDU pt;obtain⟨k1,k2⟩:=zEw h1 h3;obtain⟨i,hi,Hu⟩:=QT.1 hb;have jz:∃ n,P.types.size+Made.depth=n+1:=⟨P.types.size+Made.depth-1,by have:0<Made.depth:=(by decide);omega⟩;obtain⟨n,hn⟩:=jz;have kR:=zEl (w:=w) hm (.agg #[.pointer (some ⟨P.globals.size,ty,none⟩)]) n;rw[<-hn]at kR;have e1:(callMethod (.iface rt (.agg #[.pointer (some ⟨P.globals.size,ty,none⟩)])) "Comparable" #[]).run P w=(callFunc f #[.agg #[.pointer (some ⟨P.globals.size,ty,none⟩)]]).run P w:=by
   simp only[callMethod,program,Sem.run_bind,Sem.run,Result.andThen,kR];rfl
  rw[e1,run_callFunc_extern hf (by rw[h1];rfl) (by rw[h2];rfl) k1 k2];have e2:zB1 #[.agg #[.pointer (some ⟨P.globals.size,ty,none⟩)]]=(do
   let t <-(do
    let t <-Extern.Rtype.ofHandle (.pointer (some ⟨P.globals.size,ty,none⟩))
    Extern.Rtype.noPack "a Type asked or handed on" t
    pure t)
   Extern.Rtype.noPackHeld "Comparable" t
   pure (.bool (<-typeInfo t).comparable)):=rfl
  have e3:(Extern.Rtype.ofHandle (.pointer (some ⟨P.globals.size,ty,none⟩))).run P w=.ok ty w:=by
   have hh:handleType P (.pointer (some ⟨P.globals.size,ty,none⟩))=some ty:=by simp[handleType]
   unfold Extern.Rtype.ofHandle;simp only[program,Sem.run_bind,Sem.run,Result.andThen,hh,Sem.run_pure]
  have e4:(Extern.Rtype.noPack "a Type asked or handed on" ty).run P w=.ok () w:=by
   unfold Extern.Rtype.noPack;simp only[program,Sem.run_bind,Sem.run,Result.andThen,A9,Qy,Gt,Sem.run_pure]
  have e5:(Extern.Rtype.noPackHeld "Comparable" ty).run P w=.ok () w:=by
   unfold Extern.Rtype.noPackHeld;simp only[program,Sem.run_bind,Sem.run,Result.andThen,A8,Qy,Gt,Sem.run_pure]
  have e6:(typeInfo ty).run P w=.ok i w:=by
   simp[typeInfo,program,Sem.run,hi]
  rw[e2];simp only[Sem.run_bind,Sem.run_pure,e3,e4,e5,e6,Result.andThen,Hu]
 ·cases hb
def zLx{ty xt:TypeId}{ok:Bool}{x x' v:Value}(hx:WI σ x x')(hv:zE9 P ty ok x=some v):∃ cv,(Instr.typeAssert x' xt ty ok).run P w=.ok cv w/\WI σ v cv:=by
 unfold zE9 at hv;have jA:∀ {m:Option Value},m=(bif ok then(match(P.info? ty).bind (·.zero)with
  |some z=>bif closedC z then some (.tuple #[z,.bool false])else none
  |none=>none)else none)->m=some v->ok=true/\∃ i z,P.info? ty=some i/\i.zero=some z/\v=.tuple #[z,.bool false]/\WI σ v v:=by
  intro m hm hv;subst hm;cases ok with
  |false=>cases hv
  |true=>
   simp only[cond_true]at hv;split at hv
   ·rename_i z hz;cases Ca:closedC z with
    |false=>simp[Ca]at hv
    |true=>
     simp only[Ca,cond_true,QA]at hv;obtain⟨i,hi,hz⟩:=Option.bind_eq_some_iff.1 hz;refine⟨rfl,i,z,hi,hz,hv.symm,?_⟩;subst hv;refine .tuple rfl fun k a b ha hb=> ?_;rw[ha]at hb;cases hb;match k with
     |0=>simp at ha;subst ha;exact WI.closedC Ca
     |1=>simp at ha;subst ha;exact .bool _
     |k+2=>simp at ha
   ·cases hv
 have tU:∀ {a b:Value},WI σ a b->WI σ (if ok then .tuple #[a,.bool true]else a) (if ok then .tuple #[b,.bool true]else b):=by
  intro a b dJ;cases ok with
  |false=>exact dJ
  |true=>
   refine .tuple rfl fun k c d hc hd=> ?_;match k with
   |0=>simp at hc hd;subst hc hd;exact dJ
   |1=>simp at hc hd;subst hc hd;exact .bool _
   |k+2=>simp at hc
 cases hu:P.underlying ty with
 |none=>simp[hu]at hv
 |some d=>
  cases hx with
  |nilIface=>
   have hZ:(bif ok then(match(P.info? ty).bind (·.zero)with
    |some z=>bif closedC z then some (.tuple #[z,.bool false])else none
    |none=>none)else none)=some v:=by
    rw[hu]at hv;cases d<;>exact hv
   obtain⟨rfl,i,z,hi,hz,rfl,h1⟩:=jA rfl hZ;refine⟨_,?_,h1⟩;cases d<;>simp[Instr.typeAssert,run_underlying hu,zeroValue,typeInfo,hi,hz]
  |iface t h=>
   rename_i u u';by_cases hI:∃ want,d=.interface want
   ·obtain⟨want,rfl⟩:=hI;simp only[hu]at hv;split at hv
    ·rename_i i hi;cases hl:(lacking want i.methods).isEmpty with
     |true=>
      simp only[hl,cond_true,QA]at hv;subst hv;refine⟨_,?_,tU (.iface t h)⟩;cases ok<;>simp[Instr.typeAssert,run_underlying hu,typeInfo,hi,missingMethod_none (List.isEmpty_iff.1 hl)]
     |false=>
      simp only[hl,QU]at hv;obtain⟨rfl,j,z,hj,hz,rfl,h1⟩:=jA rfl hv;refine⟨_,?_,h1⟩;exact run_typeAssert_lacks hu hi hj hz (fun e=>by rw[e]at hl;cases hl)
    ·cases hv
   ·have hZ:(bif Nat.beq t ty then some (if ok then .tuple #[u,.bool true]else u)else(bif ok then(match(P.info? ty).bind (·.zero)with
     |some z=>bif closedC z then some (.tuple #[z,.bool false])else none
     |none=>none)else none))=some v:=by
     rw[hu]at hv;cases d<;>first|exact hv|exact(hI ⟨_,rfl⟩).elim
    cases ht:Nat.beq t ty with
    |true=>
     have aJ:=QN ht;subst aJ;simp only[ht,cond_true,QA]at hZ;subst hZ;refine⟨_,?_,tU h⟩;cases ok<;>cases d<;>first|(simp[Instr.typeAssert,run_underlying hu];done)|exact(hI ⟨_,rfl⟩).elim
    |false=>
     have aJ:t≠ty:=JU ht;simp only[ht,QU]at hZ;obtain⟨rfl,i,z,hi,hz,rfl,h1⟩:=jA rfl hZ;refine⟨_,?_,h1⟩;cases d<;>first|(simp[Instr.typeAssert,run_underlying hu,aJ,zeroValue,typeInfo,hi,hz];done)|exact(hI ⟨_,rfl⟩).elim
  |_=>rw[hu]at hv;cases d<;>cases hv
def zKk:∀ {l:List Value} {b:List UInt8},zFh l=some b->∃ ns:List Int,l=ns.map (Value.int .u8)/\b=ns.map fun n=>UInt8.ofNat n.toNat:=by
 intro l;induction l with
 |nil=>intro b hb;cases hb;exact⟨[],rfl,rfl⟩
 |cons x l ih=>
  intro b hb;unfold zFh at hb;split at hb
  ·rename_i heq;cases heq
  ·rename_i n l' heq;cases heq;obtain⟨c,hc,rfl⟩:=QT.1 hb;obtain⟨ns,h1,h2⟩:=ih hc;exact⟨n::ns,by rw[h1];rfl,by rw[h2];rfl⟩
  ·cases hb
def zLn:∀ (ns:List Int) (s:ByteArray),ns.foldl (fun r n=>r.push (UInt8.ofNat n.toNat)) s=⟨s.data++(ns.map fun n=>UInt8.ofNat n.toNat).toArray⟩:=by
 intro ns;induction ns with
 |nil=>intro s;simp
 |cons n ns ih=>
  intro s;rw[List.foldl_cons,ih];simp[ByteArray.push]
def zNd(hr:Wd P B σ h w){x x':Value}{l:List Value}{b:List UInt8}(hx:WI σ x x')(hs:yq 1 h x=some l)(hb:zFh l=some b):
  (Conv.bytesToString x').run P w=.ok (.string ⟨b.toArray⟩) w:=by
 obtain⟨n,ys,hl,hS⟩:=zDY hr Nat.one_pos hx hs;obtain⟨ns,rfl,rfl⟩:=zKk hb;have xj:ys=ns.map (Value.int .u8):=by
  apply List.ext_getElem?;intro i;cases hx:(ns.map (Value.int .u8))[i]? with
  |none=>
   rw[List.getElem?_eq_none_iff]at hx |-;rw[<-hl.1];exact hx
  |some v=>
   obtain⟨y,hy,hv⟩:=hl.get hx;rw[hy];have:∃ m,v=.int .u8 m:=by
    simp at hx;obtain⟨m,_,rfl⟩:=hx;exact⟨m,rfl⟩
   obtain⟨m,rfl⟩:=this;rw[hv.closed_eq rfl]
 have hn:n=ns.length:=by have:=hS.2.1;rw[xj]at this;simp at this;omega
 have e1:=hS.2.2 n (QF _) w.drawn;rw[xj,Q3 (by simp[hn])]at e1;have e0:=hS.1 w;have KD:∀ y len cap,(Builtin.lenOf (.slice (some y) len cap)).run P w=.ok n w->(Builtin.firstCells 1 n (.slice (some y) len cap)).run P w=.ok (ns.map (Value.int .u8)).toArray w->
   (Conv.bytesToString (.slice (some y) len cap)).run P w=.ok (.string ⟨(ns.map fun n=>UInt8.ofNat n.toNat).toArray⟩) w:=by
  intro y len cap h0 h1;have:len=n:=by simpa [Builtin.lenOf]using h0
  subst this;rw[run_bytesToString w y len cap ns (by simpa [Builtin.firstCells]using h1),zLn];simp
 have hd:{w with drawn:=w.drawn}=w:=rfl;rw[hd]at e1;unfold yq at hs;split at hs
 ·cases hx;have:ns=[]:=by simpa using hs.symm
  subst this;rfl
 ·cases hx<;>exact KD _ _ _ e0 e1
 ·cases hs
def zOb(hr:Wd P B σ h w)(s:ByteArray){t:TypeId}(ht:P.underlying t=some .string):
  ∃ σ' w' cv,(Instr.range t (.string s)).run P w=.ok cv w'/\WI σ' (.pointer (some ⟨h.n,0,none⟩)) cv/\W2 P B σ h w σ' (h.push (.iter s 0)) w':=by
 refine⟨_,{w with heap:=w.heap.push (.stringIter s 0)},.pointer (some ⟨w.heap.size,0,none⟩),?_,?_,hr.push (O:= .stringIter s 0) (n:=0) rfl ⟨rfl,rfl,rfl⟩ ⟨rfl,by simp⟩⟩
 ·simp[Instr.range,run_underlying ht,newObj,Sem.run]
 ·exact WI.ptr (off:=0) (yB σ h.n _)
def zQl(hr:Wd P B σ h w){a:Addr}{x':Value}{s:ByteArray}{pos:Nat}{ty:TypeId}(hx:WI σ (.pointer (some a)) x')(h0:a.off=0)(hg:h.get a.block=some (.iter s pos)):
  (pos<s.size->∃ w',(Instr.next x' true ty).run P w=.ok (.tuple #[.bool true,.int .i64 pos,.int .i32 (Utf8.decode s pos).1]) w'/\W2 P B σ h w σ (h.set a.block (.iter s (pos+(Utf8.decode s pos).2))) w')/\
  (¬pos<s.size->(Instr.next x' true ty).run P w=.ok (.tuple #[.bool false]) w):=by
 obtain⟨pl,h1,⟨h2,h3⟩,h4⟩:=hr.live _ _ hg;cases hx with
 |ptr hp=>
  rename_i g off bW;simp only at h0 h1 hg;subst h0;rw[h1]at hp;cases hp;have aD:pl.b<w.heap.size:=(hr.lt _ _ h1).2;have fe:w.heap[pl.b]?=some (.stringIter s pos):=h3;have aM:(getObj pl.b).run P w=.ok (.stringIter s pos) w:=by simp[getObj,Sem.run,fe]
  constructor
  ·intro hp;refine⟨{w with heap:=w.heap.setIfInBounds pl.b (.stringIter s (pos+(Utf8.decode s pos).2))},?_,?_⟩
   ·rw[h2];simp[Instr.next,aM,hp,setObj,Sem.run,fe,goInt]
   ·refine hr.put (O':= .stringIter s (pos+(Utf8.decode s pos).2)) hg rfl rfl h1 ⟨by simp,by simp[aD],fun b ah=> ?_⟩ ⟨rfl,rfl,rfl⟩ ⟨h2,by simp[aD]⟩ (fun g2 o2 b7 _ _ _ _ k=>by cases o2<;>exact k.elim);simp only[Gi];rw[QC ω]
  ·intro hp;rw[h2];simp[Instr.next,aM,hp]
def zKv(hr:Wd P B σ h w){t e ty:TypeId}{c:Nat}{zs:List Value}{ts:List TypeId}(ht:P.underlying t=some (.slice e))(he:Zg P e=some c)(hz:zAD P e=some zs){x x':Value}(hx:WI σ x x'):
  ((x=.slice none 0 0\/∃ a k,x=.slice (some a) 0 k)->(Builtin.clear_ (t::ts).toArray ty #[x']).run P w=.ok (.tuple #[]) w)/\
  ∀ a n k h',x=.slice (some a) n k->n≠0->k=c->zk h a (zi zs n)=some h'->∃ w',(Builtin.clear_ (t::ts).toArray ty #[x']).run P w=.ok (.tuple #[]) w'/\W2 P B σ h w σ h' w':=by
 obtain⟨i,z,hi,dd,rfl,kO,aO⟩:=ZG hz;obtain⟨i2,z2,cN,hsz,a8,_,_,kT,dj⟩:=yp he;rw[hi]at cN;cases cN;rw[dd]at kT;cases kT;constructor
 ·intro hn;rcases hn with rfl|⟨a,k,rfl⟩
  ·cases hx;simp[Builtin.clear_,run_underlying ht]
  ·cases hx<;>simp[Builtin.clear_,run_underlying ht]
 ·intro a n k h' KE hn hk aL;subst KE hk;cases hx with
  |szero=>exact absurd rfl hn
  |slice hp bH hl lZ=>
   rename_i g off cap pl;have aG:(Builtin.zeroCells z.cells n).toList=zi z.cells.toList n:=zBN z.cells ω n;obtain⟨w',r1,r2⟩:=zDC hr (WI.ptr hp) (VM σ (zAr aO n)) aL;refine⟨w',?_,r2⟩;have e1:(zeroValue e).run P w=.ok z w:=by simp[zeroValue,typeInfo,hi,dd]
   obtain⟨m,rfl⟩:∃ m,n=m+1:=⟨n-1,ω⟩;simp[Builtin.clear_,run_underlying ht,e1,aG,r1]
end
end Go.Am
