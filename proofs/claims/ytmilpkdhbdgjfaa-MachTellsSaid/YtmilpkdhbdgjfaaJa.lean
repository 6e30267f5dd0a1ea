/- What functions of the program come to in the abstract machine, and plain laws about it; no statement of the seat is proved in this text. -/
import Derived.Test.YtmilpkdhbdgjfaaAmU
import Derived.Test.YtmilpkdhbdgjfaaRows
import Derived.Test.YtmilpkdhbdgjfaaAmV
namespace Go.Proofs.Ytmilpkdhbdgjfaa
open Go.Am
set_option linter.unusedVariables false
set_option linter.unusedSimpArgs false
structure LType where
 kind:Int
 elem:Int
 many:Int
 parts:List Int
instance:Inhabited LType:=⟨⟨0,0,0,[]⟩⟩
def RTy (h:AHeap) (cs:List Value) (x:LType):Prop:=∃ va,cs=[.int .u8 x.kind,I x.elem,I x.many,va]∧SlI h va x.parts∧(x.parts.length:Int)≤9223372036854775807
theorem RTy.ext {h h' cs x} (r:RTy h cs x) (e:Ext h h'):RTy h' cs x:=let ⟨va,a,b,c⟩:=r;⟨va,a,b.ext e,c⟩
abbrev SlT (h:AHeap) (v:Value) (T:List LType):Prop:=SlR 4 RTy h v T
theorem SlT.ext {h h' v T} (s:SlT h v T) (e:Ext h h'):SlT h' v T:=SlR.ext (fun _ _ r=>RTy.ext r e) s e
end Go.Proofs.Ytmilpkdhbdgjfaa
namespace Go.Proofs.Ytmilpkdhbdgjfaa
open Go.Am
set_option linter.unusedVariables false
set_option linter.unusedSimpArgs false
set_option maxHeartbeats 4000000
noncomputable def tb:Tab:=⟨cFunc Try.prog,fun _=>none⟩
theorem nostub (f:Nat):tb.stub f=none:=rfl
end Go.Proofs.Ytmilpkdhbdgjfaa
namespace Go.Proofs.Ytmilpkdhbdgjfaa
open Go.Am
set_option linter.unusedVariables false
set_option linter.unusedSimpArgs false
set_option maxHeartbeats 2000000
structure MVal where
 kind:Int
 n:Int
 block:Int
 pos:Int
deriving Inhabited,DecidableEq
structure MEv where
 kind:Int
 n:Int
deriving Inhabited,DecidableEq
def RVal (_:AHeap) (cs:List Value) (x:MVal):Prop:=cs=[.int .u8 x.kind,I x.n,I x.block,I x.pos]
def REv (_:AHeap) (cs:List Value) (x:MEv):Prop:=cs=[.int .u8 x.kind,I x.n]
abbrev SlV (h:AHeap) (v:Value) (l:List MVal):Prop:=SlR 4 RVal h v l
abbrev SlE (h:AHeap) (v:Value) (l:List MEv):Prop:=SlR 2 REv h v l
theorem SlV.ext {h h':AHeap} {v:Value} {l:List MVal} (s:SlV h v l) (e:Ext h h'):SlV h' v l:=SlR.ext (h:=h) (h':=h') (fun cs a (r:RVal h cs a)=>(r:RVal h' cs a)) s e
theorem SlE.ext {h h':AHeap} {v:Value} {l:List MEv} (s:SlE h v l) (e:Ext h h'):SlE h' v l:=SlR.ext (h:=h) (h':=h') (fun cs a (r:REv h cs a)=>(r:REv h' cs a)) s e
theorem list_ext {α:Type} [Inhabited α] {A B:List α} (hl:A.length=B.length) (h:∀ i,i<A.length→A.getD i default=B.getD i default):A=B:=by
 refine List.ext_getElem hl fun i h1 h2=> ?_
 have:=h i h1
 rwa [List.getD_eq_getElem?_getD,List.getD_eq_getElem?_getD,List.getElem?_eq_getElem h1,List.getElem?_eq_getElem h2]at this
theorem eq_val (x y:MVal):eqAll [.int .u8 x.kind,I x.n,I x.block,I x.pos] [.int .u8 y.kind,I y.n,I y.block,I y.pos]=decide (x=y):=by
 by_cases h:x=y
 ·subst h;simp[eqAll,eqOne,I]
 ·rw[decide_eq_false h]
  cases hb:eqAll [.int .u8 x.kind,I x.n,I x.block,I x.pos] [.int .u8 y.kind,I y.n,I y.block,I y.pos]with
  |false=>rfl
  |true=>
   exfalso
   simp[eqAll,eqOne,I]at hb
   exact h (by cases x;cases y;simp_all)
theorem eq_ev (x y:MEv):eqAll [.int .u8 x.kind,I x.n] [.int .u8 y.kind,I y.n]=decide (x=y):=by
 by_cases h:x=y
 ·subst h;simp[eqAll,eqOne,I]
 ·rw[decide_eq_false h]
  cases hb:eqAll [.int .u8 x.kind,I x.n] [.int .u8 y.kind,I y.n]with
  |false=>rfl
  |true=>
   exfalso
   simp[eqAll,eqOne,I]at hb
   exact h (by cases x;cases y;simp_all)
noncomputable def body19_0:ACode:=(.seq (.region [⟨some 14,none,(.bin .lss (.tmp 13) (.tmp 12))⟩]) (.seq (.cond (.tmp 14) .skip (.exit 0)) (.seq (.block 1 (.seq (.region [⟨some 15,none,(.mov (.tmp 13))⟩,⟨some 5,none,(.mov (.tmp 15))⟩]) (.seq (.regionC [(⟨some 16,none,(.mov (.tmp 0))⟩,[]),(⟨some 17,none,(.mov (.tmp 5))⟩,[]),(⟨some 18,none,(.idx 4 (.tmp 16) (.tmp 17))⟩,[]),(⟨some 19,none,(.load true 4 (.tmp 18))⟩,[]),(⟨some 20,none,(.mov (.tmp 1))⟩,[]),(⟨some 21,none,(.mov (.tmp 5))⟩,[]),(⟨some 22,none,(.idx 4 (.tmp 20) (.tmp 21))⟩,[]),(⟨some 23,none,(.load true 4 (.tmp 22))⟩,[]),(⟨some 24,none,(.binP .neq 45 (.tmp 19) (.tmp 23))⟩,[])]) (.cond (.tmp 24) (.seq (.region [⟨some 4,none,(.mov (.const (.bool false)))⟩]) .ret) .skip)))) (.region [⟨some 25,none,(.bin .add (.tmp 13) (.const (.int .i64 1)))⟩,⟨some 13,none,(.mov (.tmp 25))⟩]))))
noncomputable def body19:ACode:=(.seq (.region [⟨some 4,none,(.mov (.const (.bool false)))⟩]) (.seq (.seq (.region [⟨some 6,none,(.mov (.tmp 0))⟩,⟨some 7,none,(.len (.tmp 6))⟩,⟨some 8,none,(.mov (.tmp 1))⟩,⟨some 9,none,(.len (.tmp 8))⟩,⟨some 10,none,(.bin .neq (.tmp 7) (.tmp 9))⟩]) (.cond (.tmp 10) (.seq (.region [⟨some 4,none,(.mov (.const (.bool false)))⟩]) .ret) .skip)) (.seq (.seq (.region [⟨some 11,none,(.mov (.tmp 0))⟩,⟨some 12,none,(.len (.tmp 11))⟩,⟨some 13,none,(.mov (.const (.int .i64 0)))⟩]) (.block 0 (.loop body19_0))) (.seq (.region [⟨some 4,none,(.mov (.const (.bool true)))⟩]) .ret))))
set_option maxRecDepth 100000 in
theorem tab19:tb.code 19=some ⟨26,[(4,none)],body19⟩:=by kernel_rfl
theorem equalV_ok (h:AHeap) (va vb:Value) (A B:List MVal) (ka:SlV h va A) (kb:SlV h vb B) (la:(A.length:Int)≤9223372036854775807):WC Try.prog tb 19 [va,vb] h fun r h'=>r= .bool (decide (A=B))∧h=h':=by
 refine WC.of (nostub 19) tab19 ?_;simp only[mkTm,Nat.zero_add,Nat.reduceAdd]
 by_cases hl:A.length=B.length
 case neg=>
  refine go ?_
  refine rt ?_
  exact⟨by rw[decide_eq_false (fun e=>hl (by rw[e]))];rfl,rfl⟩
 refine go ?_
 refine WX.loopA [14,15,5,16,17,18,19,20,21,22,23,24,4,25,13] (by kernel_rfl) (fun i=>A.length - i) (fun i t h1=>h=h1∧tmGet t 13=I i∧i≤A.length∧Hid (∀ j,j<i→A.getD j default=B.getD j default)) 0 ?_ ?_
 ·exact⟨rfl,sl_,Nat.zero_le _,⟨fun j hj=>absurd hj (Nat.not_lt_zero _)⟩⟩
 rintro i t _ hsame ⟨rfl,s13,hi,hI⟩
 refine go ?_
 refine WX.br (fun hb=> ?_) (fun hb=> ?_)<;>simp only[DB]at hb
 ·obtain⟨ca,rfl,pca,hsa⟩:=slr_atX ka (show i<A.length by omega)
  obtain⟨cb,rfl,pcb,hsb⟩:=slr_atX kb (show i<B.length by omega)
  have pca:=(pca _ (Ext.refl _)).1
  have pcb:=(pcb _ (Ext.refl _)).1
  refine go ?_
  refine WO.bp (ne_chk (xs:=#[.int .u8 (A.getD i default).kind,I (A.getD i default).n,I (A.getD i default).block,I (A.getD i default).pos]) (ys:=#[.int .u8 (B.getD i default).kind,I (B.getD i default).n,I (B.getD i default).block,I (B.getD i default).pos]) (b:=decide (A.getD i default=B.getD i default)) (by kernel_rfl) (eq_val _ _)) ?_
  refine go ?_
  repeat' (first|(refine WX.br (fun hb=> ?_) (fun hb=> ?_)<;>(try simp only[DB]at hb)<;>refine go ?_)|(refine WO.sp (fun hb=> ?_) (fun hb=> ?_)<;>(try simp only[DB]at hb)<;>refine go ?_))
  ·refine rt ?_
   refine⟨?_,rfl⟩
   rw[decide_eq_false (fun e=>by subst e;exact hb rfl)];rfl
  ·refine loopK_normal (i+1) (by omega) ⟨rfl,sln,by omega,⟨fun j hj=> ?_⟩⟩
   by_cases e:j=i
   ·subst e;exact hb
   ·exact hI.out j (by omega)
 ·refine go ?_
  refine rt ?_
  exact⟨by rw[decide_eq_true (list_ext hl fun j hj=>hI.out j (by omega))];rfl,rfl⟩
noncomputable def body31_0:ACode:=(.seq (.seq (.region [⟨some 11,none,(.mov (.tmp 5))⟩,⟨some 12,none,(.mov (.tmp 0))⟩,⟨some 13,none,(.len (.tmp 12))⟩,⟨some 14,none,(.bin .lss (.tmp 11) (.tmp 13))⟩]) (.cond (.tmp 14) .skip (.exit 0))) (.seq (.block 1 (.seq (.regionC [(⟨some 17,none,(.mov (.tmp 0))⟩,[]),(⟨some 18,none,(.mov (.tmp 5))⟩,[]),(⟨some 19,none,(.idx 4 (.tmp 17) (.tmp 18))⟩,[]),(⟨some 20,none,(.load true 4 (.tmp 19))⟩,[]),(⟨some 21,none,(.mov (.tmp 1))⟩,[]),(⟨some 22,none,(.mov (.tmp 5))⟩,[]),(⟨some 23,none,(.idx 4 (.tmp 21) (.tmp 22))⟩,[]),(⟨some 24,none,(.load true 4 (.tmp 23))⟩,[]),(⟨some 25,none,(.binP .neq 45 (.tmp 20) (.tmp 24))⟩,[])]) (.cond (.tmp 25) (.seq (.region [⟨some 4,none,(.mov (.const (.bool false)))⟩]) .ret) .skip))) (.region [⟨some 15,none,(.mov (.tmp 5))⟩,⟨some 16,none,(.bin .add (.tmp 15) (.const (.int .i64 1)))⟩,⟨some 5,none,(.mov (.tmp 16))⟩])))
noncomputable def body31:ACode:=(.seq (.region [⟨some 4,none,(.mov (.const (.bool false)))⟩]) (.seq (.seq (.region [⟨some 6,none,(.mov (.tmp 0))⟩,⟨some 7,none,(.len (.tmp 6))⟩,⟨some 8,none,(.mov (.tmp 1))⟩,⟨some 9,none,(.len (.tmp 8))⟩,⟨some 10,none,(.bin .neq (.tmp 7) (.tmp 9))⟩]) (.cond (.tmp 10) (.seq (.region [⟨some 4,none,(.mov (.const (.bool false)))⟩]) .ret) .skip)) (.seq (.seq (.region [⟨some 5,none,(.mov (.const (.int .i64 0)))⟩]) (.block 0 (.loop body31_0))) (.seq (.region [⟨some 4,none,(.mov (.const (.bool true)))⟩]) .ret))))
set_option maxRecDepth 100000 in
theorem tab31:tb.code 31=some ⟨26,[(4,none)],body31⟩:=by kernel_rfl
theorem sameVals_ok (h:AHeap) (va vb:Value) (A B:List MVal) (ka:SlV h va A) (kb:SlV h vb B) (la:(A.length:Int)≤9223372036854775807):WC Try.prog tb 31 [va,vb] h fun r h'=>r= .bool (decide (A=B))∧h=h':=by
 refine WC.of (nostub 31) tab31 ?_;simp only[mkTm,Nat.zero_add,Nat.reduceAdd]
 by_cases hl:A.length=B.length
 case neg=>
  refine go ?_
  refine rt ?_
  exact⟨by rw[decide_eq_false (fun e=>hl (by rw[e]))];rfl,rfl⟩
 refine go ?_
 refine WX.loopA [11,12,13,14,17,18,19,20,21,22,23,24,25,4,15,16,5] (by kernel_rfl) (fun i=>A.length - i) (fun i t h1=>h=h1∧tmGet t 5=I i∧i≤A.length∧Hid (∀ j,j<i→A.getD j default=B.getD j default)) 0 ?_ ?_
 ·exact⟨rfl,sl_,Nat.zero_le _,⟨fun j hj=>absurd hj (Nat.not_lt_zero _)⟩⟩
 rintro i t _ hsame ⟨rfl,s5,hi,hI⟩
 refine go ?_
 refine WX.br (fun hb=> ?_) (fun hb=> ?_)<;>simp only[DB]at hb
 ·obtain⟨ca,rfl,pca,hsa⟩:=slr_atX ka (show i<A.length by omega)
  obtain⟨cb,rfl,pcb,hsb⟩:=slr_atX kb (show i<B.length by omega)
  have pca:=(pca _ (Ext.refl _)).1
  have pcb:=(pcb _ (Ext.refl _)).1
  refine go ?_
  refine WO.bp (ne_chk (xs:=#[.int .u8 (A.getD i default).kind,I (A.getD i default).n,I (A.getD i default).block,I (A.getD i default).pos]) (ys:=#[.int .u8 (B.getD i default).kind,I (B.getD i default).n,I (B.getD i default).block,I (B.getD i default).pos]) (b:=decide (A.getD i default=B.getD i default)) (by kernel_rfl) (eq_val _ _)) ?_
  refine go ?_
  repeat' (first|(refine WX.br (fun hb=> ?_) (fun hb=> ?_)<;>(try simp only[DB]at hb)<;>refine go ?_)|(refine WO.sp (fun hb=> ?_) (fun hb=> ?_)<;>(try simp only[DB]at hb)<;>refine go ?_))
  ·refine rt ?_
   refine⟨?_,rfl⟩
   rw[decide_eq_false (fun e=>by subst e;exact hb rfl)];rfl
  ·refine loopK_normal (i+1) (by omega) ⟨rfl,sln,by omega,⟨fun j hj=> ?_⟩⟩
   by_cases e:j=i
   ·subst e;exact hb
   ·exact hI.out j (by omega)
 ·refine go ?_
  refine rt ?_
  exact⟨by rw[decide_eq_true (list_ext hl fun j hj=>hI.out j (by omega))];rfl,rfl⟩
noncomputable def body21_0:ACode:=(.seq (.region [⟨some 14,none,(.bin .lss (.tmp 13) (.tmp 12))⟩]) (.seq (.cond (.tmp 14) .skip (.exit 0)) (.seq (.block 1 (.seq (.region [⟨some 15,none,(.mov (.tmp 13))⟩,⟨some 5,none,(.mov (.tmp 15))⟩]) (.seq (.regionC [(⟨some 16,none,(.mov (.tmp 0))⟩,[]),(⟨some 17,none,(.mov (.tmp 5))⟩,[]),(⟨some 18,none,(.idx 2 (.tmp 16) (.tmp 17))⟩,[]),(⟨some 19,none,(.load true 2 (.tmp 18))⟩,[]),(⟨some 20,none,(.mov (.tmp 1))⟩,[]),(⟨some 21,none,(.mov (.tmp 5))⟩,[]),(⟨some 22,none,(.idx 2 (.tmp 20) (.tmp 21))⟩,[]),(⟨some 23,none,(.load true 2 (.tmp 22))⟩,[]),(⟨some 24,none,(.binP .neq 42 (.tmp 19) (.tmp 23))⟩,[])]) (.cond (.tmp 24) (.seq (.region [⟨some 4,none,(.mov (.const (.bool false)))⟩]) .ret) .skip)))) (.region [⟨some 25,none,(.bin .add (.tmp 13) (.const (.int .i64 1)))⟩,⟨some 13,none,(.mov (.tmp 25))⟩]))))
noncomputable def body21:ACode:=(.seq (.region [⟨some 4,none,(.mov (.const (.bool false)))⟩]) (.seq (.seq (.region [⟨some 6,none,(.mov (.tmp 0))⟩,⟨some 7,none,(.len (.tmp 6))⟩,⟨some 8,none,(.mov (.tmp 1))⟩,⟨some 9,none,(.len (.tmp 8))⟩,⟨some 10,none,(.bin .neq (.tmp 7) (.tmp 9))⟩]) (.cond (.tmp 10) (.seq (.region [⟨some 4,none,(.mov (.const (.bool false)))⟩]) .ret) .skip)) (.seq (.seq (.region [⟨some 11,none,(.mov (.tmp 0))⟩,⟨some 12,none,(.len (.tmp 11))⟩,⟨some 13,none,(.mov (.const (.int .i64 0)))⟩]) (.block 0 (.loop body21_0))) (.seq (.region [⟨some 4,none,(.mov (.const (.bool true)))⟩]) .ret))))
set_option maxRecDepth 100000 in
theorem tab21:tb.code 21=some ⟨26,[(4,none)],body21⟩:=by kernel_rfl
theorem equalE_ok (h:AHeap) (va vb:Value) (A B:List MEv) (ka:SlE h va A) (kb:SlE h vb B) (la:(A.length:Int)≤9223372036854775807):WC Try.prog tb 21 [va,vb] h fun r h'=>r= .bool (decide (A=B))∧h=h':=by
 refine WC.of (nostub 21) tab21 ?_;simp only[mkTm,Nat.zero_add,Nat.reduceAdd]
 by_cases hl:A.length=B.length
 case neg=>
  refine go ?_
  refine rt ?_
  exact⟨by rw[decide_eq_false (fun e=>hl (by rw[e]))];rfl,rfl⟩
 refine go ?_
 refine WX.loopA [14,15,5,16,17,18,19,20,21,22,23,24,4,25,13] (by kernel_rfl) (fun i=>A.length - i) (fun i t h1=>h=h1∧tmGet t 13=I i∧i≤A.length∧Hid (∀ j,j<i→A.getD j default=B.getD j default)) 0 ?_ ?_
 ·exact⟨rfl,sl_,Nat.zero_le _,⟨fun j hj=>absurd hj (Nat.not_lt_zero _)⟩⟩
 rintro i t _ hsame ⟨rfl,s13,hi,hI⟩
 refine go ?_
 refine WX.br (fun hb=> ?_) (fun hb=> ?_)<;>simp only[DB]at hb
 ·obtain⟨ca,rfl,pca,hsa⟩:=slr_atX ka (show i<A.length by omega)
  obtain⟨cb,rfl,pcb,hsb⟩:=slr_atX kb (show i<B.length by omega)
  have pca:=(pca _ (Ext.refl _)).1
  have pcb:=(pcb _ (Ext.refl _)).1
  refine go ?_
  refine WO.bp (ne_chk (xs:=#[.int .u8 (A.getD i default).kind,I (A.getD i default).n]) (ys:=#[.int .u8 (B.getD i default).kind,I (B.getD i default).n]) (b:=decide (A.getD i default=B.getD i default)) (by kernel_rfl) (eq_ev _ _)) ?_
  refine go ?_
  repeat' (first|(refine WX.br (fun hb=> ?_) (fun hb=> ?_)<;>(try simp only[DB]at hb)<;>refine go ?_)|(refine WO.sp (fun hb=> ?_) (fun hb=> ?_)<;>(try simp only[DB]at hb)<;>refine go ?_))
  ·refine rt ?_
   refine⟨?_,rfl⟩
   rw[decide_eq_false (fun e=>by subst e;exact hb rfl)];rfl
  ·refine loopK_normal (i+1) (by omega) ⟨rfl,sln,by omega,⟨fun j hj=> ?_⟩⟩
   by_cases e:j=i
   ·subst e;exact hb
   ·exact hI.out j (by omega)
 ·refine go ?_
  refine rt ?_
  exact⟨by rw[decide_eq_true (list_ext hl fun j hj=>hI.out j (by omega))];rfl,rfl⟩
noncomputable def body25_0:ACode:=(.seq (.seq (.region [⟨some 11,none,(.mov (.tmp 5))⟩,⟨some 12,none,(.mov (.tmp 0))⟩,⟨some 13,none,(.len (.tmp 12))⟩,⟨some 14,none,(.bin .lss (.tmp 11) (.tmp 13))⟩]) (.cond (.tmp 14) .skip (.exit 0))) (.seq (.block 1 (.seq (.regionC [(⟨some 17,none,(.mov (.tmp 0))⟩,[]),(⟨some 18,none,(.mov (.tmp 5))⟩,[]),(⟨some 19,none,(.idx 2 (.tmp 17) (.tmp 18))⟩,[]),(⟨some 20,none,(.load true 2 (.tmp 19))⟩,[]),(⟨some 21,none,(.mov (.tmp 1))⟩,[]),(⟨some 22,none,(.mov (.tmp 5))⟩,[]),(⟨some 23,none,(.idx 2 (.tmp 21) (.tmp 22))⟩,[]),(⟨some 24,none,(.load true 2 (.tmp 23))⟩,[]),(⟨some 25,none,(.binP .neq 42 (.tmp 20) (.tmp 24))⟩,[])]) (.cond (.tmp 25) (.seq (.region [⟨some 4,none,(.mov (.const (.bool false)))⟩]) .ret) .skip))) (.region [⟨some 15,none,(.mov (.tmp 5))⟩,⟨some 16,none,(.bin .add (.tmp 15) (.const (.int .i64 1)))⟩,⟨some 5,none,(.mov (.tmp 16))⟩])))
noncomputable def body25:ACode:=(.seq (.region [⟨some 4,none,(.mov (.const (.bool false)))⟩]) (.seq (.seq (.region [⟨some 6,none,(.mov (.tmp 0))⟩,⟨some 7,none,(.len (.tmp 6))⟩,⟨some 8,none,(.mov (.tmp 1))⟩,⟨some 9,none,(.len (.tmp 8))⟩,⟨some 10,none,(.bin .neq (.tmp 7) (.tmp 9))⟩]) (.cond (.tmp 10) (.seq (.region [⟨some 4,none,(.mov (.const (.bool false)))⟩]) .ret) .skip)) (.seq (.seq (.region [⟨some 5,none,(.mov (.const (.int .i64 0)))⟩]) (.block 0 (.loop body25_0))) (.seq (.region [⟨some 4,none,(.mov (.const (.bool true)))⟩]) .ret))))
set_option maxRecDepth 100000 in
theorem tab25:tb.code 25=some ⟨26,[(4,none)],body25⟩:=by kernel_rfl
theorem sameEvents_ok (h:AHeap) (va vb:Value) (A B:List MEv) (ka:SlE h va A) (kb:SlE h vb B) (la:(A.length:Int)≤9223372036854775807):WC Try.prog tb 25 [va,vb] h fun r h'=>r= .bool (decide (A=B))∧h=h':=by
 refine WC.of (nostub 25) tab25 ?_;simp only[mkTm,Nat.zero_add,Nat.reduceAdd]
 by_cases hl:A.length=B.length
 case neg=>
  refine go ?_
  refine rt ?_
  exact⟨by rw[decide_eq_false (fun e=>hl (by rw[e]))];rfl,rfl⟩
 refine go ?_
 refine WX.loopA [11,12,13,14,17,18,19,20,21,22,23,24,25,4,15,16,5] (by kernel_rfl) (fun i=>A.length - i) (fun i t h1=>h=h1∧tmGet t 5=I i∧i≤A.length∧Hid (∀ j,j<i→A.getD j default=B.getD j default)) 0 ?_ ?_
 ·exact⟨rfl,sl_,Nat.zero_le _,⟨fun j hj=>absurd hj (Nat.not_lt_zero _)⟩⟩
 rintro i t _ hsame ⟨rfl,s5,hi,hI⟩
 refine go ?_
 refine WX.br (fun hb=> ?_) (fun hb=> ?_)<;>simp only[DB]at hb
 ·obtain⟨ca,rfl,pca,hsa⟩:=slr_atX ka (show i<A.length by omega)
  obtain⟨cb,rfl,pcb,hsb⟩:=slr_atX kb (show i<B.length by omega)
  have pca:=(pca _ (Ext.refl _)).1
  have pcb:=(pcb _ (Ext.refl _)).1
  refine go ?_
  refine WO.bp (ne_chk (xs:=#[.int .u8 (A.getD i default).kind,I (A.getD i default).n]) (ys:=#[.int .u8 (B.getD i default).kind,I (B.getD i default).n]) (b:=decide (A.getD i default=B.getD i default)) (by kernel_rfl) (eq_ev _ _)) ?_
  refine go ?_
  repeat' (first|(refine WX.br (fun hb=> ?_) (fun hb=> ?_)<;>(try simp only[DB]at hb)<;>refine go ?_)|(refine WO.sp (fun hb=> ?_) (fun hb=> ?_)<;>(try simp only[DB]at hb)<;>refine go ?_))
  ·refine rt ?_
   refine⟨?_,rfl⟩
   rw[decide_eq_false (fun e=>by subst e;exact hb rfl)];rfl
  ·refine loopK_normal (i+1) (by omega) ⟨rfl,sln,by omega,⟨fun j hj=> ?_⟩⟩
   by_cases e:j=i
   ·subst e;exact hb
   ·exact hI.out j (by omega)
 ·refine go ?_
  refine rt ?_
  exact⟨by rw[decide_eq_true (list_ext hl fun j hj=>hI.out j (by omega))];rfl,rfl⟩
noncomputable def body20_0:ACode:=(.seq (.region [⟨some 14,none,(.bin .lss (.tmp 13) (.tmp 12))⟩]) (.seq (.cond (.tmp 14) .skip (.exit 0)) (.seq (.block 1 (.seq (.region [⟨some 15,none,(.mov (.tmp 13))⟩,⟨some 5,none,(.mov (.tmp 15))⟩]) (.seq (.regionC [(⟨some 16,none,(.mov (.tmp 0))⟩,[]),(⟨some 17,none,(.mov (.tmp 5))⟩,[]),(⟨some 18,none,(.idx 1 (.tmp 16) (.tmp 17))⟩,[]),(⟨some 19,none,(.load false 1 (.tmp 18))⟩,[]),(⟨some 20,none,(.mov (.tmp 1))⟩,[]),(⟨some 21,none,(.mov (.tmp 5))⟩,[]),(⟨some 22,none,(.idx 1 (.tmp 20) (.tmp 21))⟩,[]),(⟨some 23,none,(.load false 1 (.tmp 22))⟩,[]),(⟨some 24,none,(.bin .neq (.tmp 19) (.tmp 23))⟩,[])]) (.cond (.tmp 24) (.seq (.region [⟨some 4,none,(.mov (.const (.bool false)))⟩]) .ret) .skip)))) (.region [⟨some 25,none,(.bin .add (.tmp 13) (.const (.int .i64 1)))⟩,⟨some 13,none,(.mov (.tmp 25))⟩]))))
noncomputable def body20:ACode:=(.seq (.region [⟨some 4,none,(.mov (.const (.bool false)))⟩]) (.seq (.seq (.region [⟨some 6,none,(.mov (.tmp 0))⟩,⟨some 7,none,(.len (.tmp 6))⟩,⟨some 8,none,(.mov (.tmp 1))⟩,⟨some 9,none,(.len (.tmp 8))⟩,⟨some 10,none,(.bin .neq (.tmp 7) (.tmp 9))⟩]) (.cond (.tmp 10) (.seq (.region [⟨some 4,none,(.mov (.const (.bool false)))⟩]) .ret) .skip)) (.seq (.seq (.region [⟨some 11,none,(.mov (.tmp 0))⟩,⟨some 12,none,(.len (.tmp 11))⟩,⟨some 13,none,(.mov (.const (.int .i64 0)))⟩]) (.block 0 (.loop body20_0))) (.seq (.region [⟨some 4,none,(.mov (.const (.bool true)))⟩]) .ret))))
set_option maxRecDepth 100000 in
theorem tab20:tb.code 20=some ⟨26,[(4,none)],body20⟩:=by kernel_rfl
theorem equalN_ok (h:AHeap) (va vb:Value) (A B:List Int) (ka:SlI h va A) (kb:SlI h vb B) (la:(A.length:Int)≤9223372036854775807):WC Try.prog tb 20 [va,vb] h fun r h'=>r= .bool (decide (A=B))∧h=h':=by
 refine WC.of (nostub 20) tab20 ?_;simp only[mkTm,Nat.zero_add,Nat.reduceAdd]
 by_cases hl:A.length=B.length
 case neg=>
  refine go ?_
  refine rt ?_
  exact⟨by rw[decide_eq_false (fun e=>hl (by rw[e]))];rfl,rfl⟩
 refine go ?_
 refine WX.loopA [14,15,5,16,17,18,19,20,21,22,23,24,4,25,13] (by kernel_rfl) (fun i=>A.length - i) (fun i t h1=>h=h1∧tmGet t 13=I i∧i≤A.length∧Hid (∀ j,j<i→A.getD j 0=B.getD j 0)) 0 ?_ ?_
 ·exact⟨rfl,sl_,Nat.zero_le _,⟨fun j hj=>absurd hj (Nat.not_lt_zero _)⟩⟩
 rintro i t _ hsame ⟨rfl,s13,hi,hI⟩
 refine go ?_
 refine WX.br (fun hb=> ?_) (fun hb=> ?_)<;>simp only[DB]at hb
 ·have hia:i<A.length:=by omega
  have hib:i<B.length:=by omega
  refine go ?_
  refine WX.br (fun hb=> ?_) (fun hb=> ?_)<;>simp only[DB]at hb<;>refine go ?_
  ·refine rt ?_
   refine⟨?_,rfl⟩
   rw[decide_eq_false (fun e=>by subst e;exact hb rfl)];rfl
  ·refine loopK_normal (i+1) (by omega) ⟨rfl,sln,by omega,⟨fun j hj=> ?_⟩⟩
   by_cases e:j=i
   ·subst e;exact hb
   ·exact hI.out j (by omega)
 ·refine go ?_
  refine rt ?_
  exact⟨by rw[decide_eq_true (list_ext hl fun j hj=>hI.out j (by omega))];rfl,rfl⟩
noncomputable def body24_0:ACode:=(.seq (.seq (.region [⟨some 11,none,(.mov (.tmp 5))⟩,⟨some 12,none,(.mov (.tmp 0))⟩,⟨some 13,none,(.len (.tmp 12))⟩,⟨some 14,none,(.bin .lss (.tmp 11) (.tmp 13))⟩]) (.cond (.tmp 14) .skip (.exit 0))) (.seq (.block 1 (.seq (.regionC [(⟨some 17,none,(.mov (.tmp 0))⟩,[]),(⟨some 18,none,(.mov (.tmp 5))⟩,[]),(⟨some 19,none,(.idx 1 (.tmp 17) (.tmp 18))⟩,[]),(⟨some 20,none,(.load false 1 (.tmp 19))⟩,[]),(⟨some 21,none,(.mov (.tmp 1))⟩,[]),(⟨some 22,none,(.mov (.tmp 5))⟩,[]),(⟨some 23,none,(.idx 1 (.tmp 21) (.tmp 22))⟩,[]),(⟨some 24,none,(.load false 1 (.tmp 23))⟩,[]),(⟨some 25,none,(.bin .neq (.tmp 20) (.tmp 24))⟩,[])]) (.cond (.tmp 25) (.seq (.region [⟨some 4,none,(.mov (.const (.bool false)))⟩]) .ret) .skip))) (.region [⟨some 15,none,(.mov (.tmp 5))⟩,⟨some 16,none,(.bin .add (.tmp 15) (.const (.int .i64 1)))⟩,⟨some 5,none,(.mov (.tmp 16))⟩])))
noncomputable def body24:ACode:=(.seq (.region [⟨some 4,none,(.mov (.const (.bool false)))⟩]) (.seq (.seq (.region [⟨some 6,none,(.mov (.tmp 0))⟩,⟨some 7,none,(.len (.tmp 6))⟩,⟨some 8,none,(.mov (.tmp 1))⟩,⟨some 9,none,(.len (.tmp 8))⟩,⟨some 10,none,(.bin .neq (.tmp 7) (.tmp 9))⟩]) (.cond (.tmp 10) (.seq (.region [⟨some 4,none,(.mov (.const (.bool false)))⟩]) .ret) .skip)) (.seq (.seq (.region [⟨some 5,none,(.mov (.const (.int .i64 0)))⟩]) (.block 0 (.loop body24_0))) (.seq (.region [⟨some 4,none,(.mov (.const (.bool true)))⟩]) .ret))))
set_option maxRecDepth 100000 in
theorem tab24:tb.code 24=some ⟨26,[(4,none)],body24⟩:=by kernel_rfl
theorem sameNumbers_ok (h:AHeap) (va vb:Value) (A B:List Int) (ka:SlI h va A) (kb:SlI h vb B) (la:(A.length:Int)≤9223372036854775807):WC Try.prog tb 24 [va,vb] h fun r h'=>r= .bool (decide (A=B))∧h=h':=by
 refine WC.of (nostub 24) tab24 ?_;simp only[mkTm,Nat.zero_add,Nat.reduceAdd]
 by_cases hl:A.length=B.length
 case neg=>
  refine go ?_
  refine rt ?_
  exact⟨by rw[decide_eq_false (fun e=>hl (by rw[e]))];rfl,rfl⟩
 refine go ?_
 refine WX.loopA [11,12,13,14,17,18,19,20,21,22,23,24,25,4,15,16,5] (by kernel_rfl) (fun i=>A.length - i) (fun i t h1=>h=h1∧tmGet t 5=I i∧i≤A.length∧Hid (∀ j,j<i→A.getD j 0=B.getD j 0)) 0 ?_ ?_
 ·exact⟨rfl,sl_,Nat.zero_le _,⟨fun j hj=>absurd hj (Nat.not_lt_zero _)⟩⟩
 rintro i t _ hsame ⟨rfl,s5,hi,hI⟩
 refine go ?_
 refine WX.br (fun hb=> ?_) (fun hb=> ?_)<;>simp only[DB]at hb
 ·have hia:i<A.length:=by omega
  have hib:i<B.length:=by omega
  refine go ?_
  refine WX.br (fun hb=> ?_) (fun hb=> ?_)<;>simp only[DB]at hb<;>refine go ?_
  ·refine rt ?_
   refine⟨?_,rfl⟩
   rw[decide_eq_false (fun e=>by subst e;exact hb rfl)];rfl
  ·refine loopK_normal (i+1) (by omega) ⟨rfl,sln,by omega,⟨fun j hj=> ?_⟩⟩
   by_cases e:j=i
   ·subst e;exact hb
   ·exact hI.out j (by omega)
 ·refine go ?_
  refine rt ?_
  exact⟨by rw[decide_eq_true (list_ext hl fun j hj=>hI.out j (by omega))];rfl,rfl⟩
end Go.Proofs.Ytmilpkdhbdgjfaa
namespace Go.Proofs.Ytmilpkdhbdgjfaa
open Go.Am
set_option linter.unusedVariables false
set_option linter.unusedSimpArgs false
set_option maxHeartbeats 2000000
structure MBlk where
 site:Int
 ty:Int
 depth:Int
 alive:Bool
 cells:List MVal
deriving Inhabited,DecidableEq
structure MFrm where
 fn:Int
 block:Int
 pos:Int
 regs:List MVal
 into:Int
deriving Inhabited,DecidableEq
def RMb (h:AHeap) (cs:List Value) (x:MBlk):Prop:=∃ v,cs=[I x.site,I x.ty,I x.depth,.bool x.alive,v]∧SlV h v x.cells∧(x.cells.length:Int)≤9223372036854775807
def RMf (h:AHeap) (cs:List Value) (x:MFrm):Prop:=∃ v,cs=[I x.fn,I x.block,I x.pos,v,I x.into]∧SlV h v x.regs∧(x.regs.length:Int)≤9223372036854775807
theorem RMb.ext {h h' cs x} (r:RMb h cs x) (e:Ext h h'):RMb h' cs x:=let ⟨v,a,b,c⟩:=r;⟨v,a,SlV.ext b e,c⟩
theorem RMf.ext {h h' cs x} (r:RMf h cs x) (e:Ext h h'):RMf h' cs x:=let ⟨v,a,b,c⟩:=r;⟨v,a,SlV.ext b e,c⟩
abbrev SlMb (h:AHeap) (v:Value) (l:List MBlk):Prop:=SlR 5 RMb h v l
abbrev SlMf (h:AHeap) (v:Value) (l:List MFrm):Prop:=SlR 5 RMf h v l
theorem SlMb.ext {h h' v l} (s:SlMb h v l) (e:Ext h h'):SlMb h' v l:=SlR.ext (fun _ _ r=>RMb.ext r e) s e
theorem SlMf.ext {h h' v l} (s:SlMf h v l) (e:Ext h h'):SlMf h' v l:=SlR.ext (fun _ _ r=>RMf.ext r e) s e
theorem mb_ext {a b:MBlk} (h1:a.site=b.site) (h2:a.ty=b.ty) (h3:a.depth=b.depth) (h4:a.alive=b.alive) (h5:a.cells=b.cells):a=b:=by cases a;cases b;cases h1;cases h2;cases h3;cases h4;cases h5;rfl
theorem mf_ext {a b:MFrm} (h1:a.fn=b.fn) (h2:a.block=b.block) (h3:a.pos=b.pos) (h4:a.regs=b.regs) (h5:a.into=b.into):a=b:=by cases a;cases b;cases h1;cases h2;cases h3;cases h4;cases h5;rfl
noncomputable def body30:ACode:=(.seq (.region [⟨some 2,none,(.box (.tmp 0))⟩,⟨some 3,none,(.box (.tmp 1))⟩,⟨some 4,none,(.mov (.const (.bool false)))⟩]) (.seq (.region [⟨some 5,none,(.fld 0 (.tmp 2))⟩,⟨some 6,none,(.load false 1 (.tmp 5))⟩,⟨some 7,none,(.fld 0 (.tmp 3))⟩,⟨some 8,none,(.load false 1 (.tmp 7))⟩,⟨some 9,none,(.bin .eql (.tmp 6) (.tmp 8))⟩,⟨some 10,none,(.mov (.tmp 9))⟩,⟨some 11,some (10,true),(.fld 1 (.tmp 2))⟩,⟨some 12,some (10,true),(.load false 1 (.tmp 11))⟩,⟨some 13,some (10,true),(.fld 1 (.tmp 3))⟩,⟨some 14,some (10,true),(.load false 1 (.tmp 13))⟩,⟨some 15,some (10,true),(.bin .eql (.tmp 12) (.tmp 14))⟩,⟨some 16,none,(.pick (.tmp 10) (.tmp 15) (.const (.bool false)))⟩,⟨some 17,none,(.mov (.tmp 16))⟩,⟨some 18,some (17,true),(.fld 2 (.tmp 2))⟩,⟨some 19,some (17,true),(.load false 1 (.tmp 18))⟩,⟨some 20,some (17,true),(.fld 2 (.tmp 3))⟩,⟨some 21,some (17,true),(.load false 1 (.tmp 20))⟩,⟨some 22,some (17,true),(.bin .eql (.tmp 19) (.tmp 21))⟩,⟨some 23,none,(.pick (.tmp 17) (.tmp 22) (.const (.bool false)))⟩,⟨some 24,none,(.mov (.tmp 23))⟩,⟨some 25,some (24,true),(.fld 3 (.tmp 2))⟩,⟨some 26,some (24,true),(.load false 1 (.tmp 25))⟩,⟨some 27,some (24,true),(.fld 3 (.tmp 3))⟩,⟨some 28,some (24,true),(.load false 1 (.tmp 27))⟩,⟨some 29,some (24,true),(.binB false (.tmp 26) (.tmp 28))⟩,⟨some 30,none,(.pick (.tmp 24) (.tmp 29) (.const (.bool false)))⟩,⟨some 31,none,(.mov (.tmp 30))⟩,⟨some 32,some (31,true),(.fld 4 (.tmp 2))⟩,⟨some 33,some (31,true),(.load false 1 (.tmp 32))⟩,⟨some 34,some (31,true),(.fld 4 (.tmp 3))⟩,⟨some 35,some (31,true),(.load false 1 (.tmp 34))⟩,⟨some 36,some (31,true),(.call (.func 19) [(.tmp 33),(.tmp 35)])⟩,⟨some 37,none,(.pick (.tmp 31) (.tmp 36) (.const (.bool false)))⟩,⟨some 4,none,(.mov (.tmp 37))⟩]) .ret))
set_option maxRecDepth 100000 in
theorem tab30:tb.code 30=some ⟨38,[(4,none)],body30⟩:=by kernel_rfl
theorem blkEq_ok (h:AHeap) (ca cb:List Value) (a b:MBlk) (ra:RMb h ca a) (rb:RMb h cb b):WC Try.prog tb 30 [.agg ca.toArray,.agg cb.toArray] h fun r h'=>r= .bool (decide (a=b))∧Ext h h':=by
 obtain⟨va,rfl,ka,la⟩:=ra
 obtain⟨vb,rfl,kb,lb⟩:=rb
 refine WC.of (nostub 30) tab30 ?_;simp only[mkTm,Nat.zero_add,Nat.reduceAdd]
 refine go ?_
 refine WO.bx ?_
 intro p h1 e1 o1
 refine go ?_
 refine WO.bx ?_
 intro q h2 e2 o2
 have o1:=o1.ext e2
 have e12:=e1.trans e2
 by_cases c1:a.site=b.site
 case neg=>
  refine go ?_
  refine rt ?_
  exact⟨by rw[decide_eq_false (fun e=>c1 (by rw[e]))];rfl,e12⟩
 by_cases c2:a.ty=b.ty
 case neg=>
  refine go ?_
  refine rt ?_
  exact⟨by rw[decide_eq_false (fun e=>c2 (by rw[e]))];rfl,e12⟩
 by_cases c3:a.depth=b.depth
 case neg=>
  refine go ?_
  refine rt ?_
  exact⟨by rw[decide_eq_false (fun e=>c3 (by rw[e]))];rfl,e12⟩
 by_cases c4:a.alive=b.alive
 case neg=>
  have c4b:(a.alive == b.alive)=false:=by simpa using c4
  refine go ?_
  refine rt ?_
  exact⟨by rw[decide_eq_false (fun e=>c4 (by rw[e]))];rfl,e12⟩
 have c4b:(a.alive == b.alive)=true:=by simpa using c4
 refine go ?_
 refine WO.con (equalV_ok h2 va vb a.cells b.cells (SlV.ext ka e12) (SlV.ext kb e12) la) ?_
 rintro _ _ ⟨rfl,rfl⟩
 refine go ?_
 refine rt ?_
 refine⟨?_,e12⟩
 by_cases c5:a.cells=b.cells
 ·rw[decide_eq_true c5,decide_eq_true (mb_ext c1 c2 c3 c4 c5)];rfl
 ·rw[decide_eq_false c5,decide_eq_false (fun e=>c5 (by rw[e]))];rfl
noncomputable def body18:ACode:=(.seq (.region [⟨some 2,none,(.box (.tmp 0))⟩,⟨some 3,none,(.box (.tmp 1))⟩,⟨some 4,none,(.mov (.const (.bool false)))⟩]) (.seq (.region [⟨some 5,none,(.fld 0 (.tmp 2))⟩,⟨some 6,none,(.load false 1 (.tmp 5))⟩,⟨some 7,none,(.fld 0 (.tmp 3))⟩,⟨some 8,none,(.load false 1 (.tmp 7))⟩,⟨some 9,none,(.bin .eql (.tmp 6) (.tmp 8))⟩,⟨some 10,none,(.mov (.tmp 9))⟩,⟨some 11,some (10,true),(.fld 1 (.tmp 2))⟩,⟨some 12,some (10,true),(.load false 1 (.tmp 11))⟩,⟨some 13,some (10,true),(.fld 1 (.tmp 3))⟩,⟨some 14,some (10,true),(.load false 1 (.tmp 13))⟩,⟨some 15,some (10,true),(.bin .eql (.tmp 12) (.tmp 14))⟩,⟨some 16,none,(.pick (.tmp 10) (.tmp 15) (.const (.bool false)))⟩,⟨some 17,none,(.mov (.tmp 16))⟩,⟨some 18,some (17,true),(.fld 2 (.tmp 2))⟩,⟨some 19,some (17,true),(.load false 1 (.tmp 18))⟩,⟨some 20,some (17,true),(.fld 2 (.tmp 3))⟩,⟨some 21,some (17,true),(.load false 1 (.tmp 20))⟩,⟨some 22,some (17,true),(.bin .eql (.tmp 19) (.tmp 21))⟩,⟨some 23,none,(.pick (.tmp 17) (.tmp 22) (.const (.bool false)))⟩,⟨some 24,none,(.mov (.tmp 23))⟩,⟨some 25,some (24,true),(.fld 4 (.tmp 2))⟩,⟨some 26,some (24,true),(.load false 1 (.tmp 25))⟩,⟨some 27,some (24,true),(.fld 4 (.tmp 3))⟩,⟨some 28,some (24,true),(.load false 1 (.tmp 27))⟩,⟨some 29,some (24,true),(.bin .eql (.tmp 26) (.tmp 28))⟩,⟨some 30,none,(.pick (.tmp 24) (.tmp 29) (.const (.bool false)))⟩,⟨some 31,none,(.mov (.tmp 30))⟩,⟨some 32,some (31,true),(.fld 3 (.tmp 2))⟩,⟨some 33,some (31,true),(.load false 1 (.tmp 32))⟩,⟨some 34,some (31,true),(.fld 3 (.tmp 3))⟩,⟨some 35,some (31,true),(.load false 1 (.tmp 34))⟩,⟨some 36,some (31,true),(.call (.func 19) [(.tmp 33),(.tmp 35)])⟩,⟨some 37,none,(.pick (.tmp 31) (.tmp 36) (.const (.bool false)))⟩,⟨some 4,none,(.mov (.tmp 37))⟩]) .ret))
set_option maxRecDepth 100000 in
theorem tab18:tb.code 18=some ⟨38,[(4,none)],body18⟩:=by kernel_rfl
theorem frmEq_ok (h:AHeap) (ca cb:List Value) (a b:MFrm) (ra:RMf h ca a) (rb:RMf h cb b):WC Try.prog tb 18 [.agg ca.toArray,.agg cb.toArray] h fun r h'=>r= .bool (decide (a=b))∧Ext h h':=by
 obtain⟨va,rfl,ka,la⟩:=ra
 obtain⟨vb,rfl,kb,lb⟩:=rb
 refine WC.of (nostub 18) tab18 ?_;simp only[mkTm,Nat.zero_add,Nat.reduceAdd]
 refine go ?_
 refine WO.bx ?_
 intro p h1 e1 o1
 refine go ?_
 refine WO.bx ?_
 intro q h2 e2 o2
 have o1:=o1.ext e2
 have e12:=e1.trans e2
 by_cases c1:a.fn=b.fn
 case neg=>
  refine go ?_
  refine rt ?_
  exact⟨by rw[decide_eq_false (fun e=>c1 (by rw[e]))];rfl,e12⟩
 by_cases c2:a.block=b.block
 case neg=>
  refine go ?_
  refine rt ?_
  exact⟨by rw[decide_eq_false (fun e=>c2 (by rw[e]))];rfl,e12⟩
 by_cases c3:a.pos=b.pos
 case neg=>
  refine go ?_
  refine rt ?_
  exact⟨by rw[decide_eq_false (fun e=>c3 (by rw[e]))];rfl,e12⟩
 by_cases c4:a.into=b.into
 case neg=>
  refine go ?_
  refine rt ?_
  exact⟨by rw[decide_eq_false (fun e=>c4 (by rw[e]))];rfl,e12⟩
 refine go ?_
 refine WO.con (equalV_ok h2 va vb a.regs b.regs (SlV.ext ka e12) (SlV.ext kb e12) la) ?_
 rintro _ _ ⟨rfl,rfl⟩
 refine go ?_
 refine rt ?_
 refine⟨?_,e12⟩
 by_cases c5:a.regs=b.regs
 ·rw[decide_eq_true c5,decide_eq_true (mf_ext c1 c2 c3 c5 c4)];rfl
 ·rw[decide_eq_false c5,decide_eq_false (fun e=>c5 (by rw[e]))];rfl
end Go.Proofs.Ytmilpkdhbdgjfaa
