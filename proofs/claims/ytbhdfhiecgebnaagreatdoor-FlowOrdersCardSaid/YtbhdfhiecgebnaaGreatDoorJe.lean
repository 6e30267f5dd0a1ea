/- What functions of the program come to in the abstract machine, and plain laws about it; no statement of the seat is proved in this text. -/
import Derived.Test.YtbhdfhiecgebnaaGreatDoorJd
import Derived.Test.YtbhdfhiecgebnaaGreatDoorAmV
import Derived.Test.YtbhdfhiecgebnaaGreatDoorAmU
import Derived.Test.YtbhdfhiecgebnaaGreatDoorJb
import Derived.Test.YtbhdfhiecgebnaaGreatDoorJc
import Derived.Test.YtbhdfhiecgebnaaGreatDoorJc
import Derived.Test.YtbhdfhiecgebnaaGreatDoorJc
namespace Go.Proofs.YtbhdfhiecgebnaaGreatDoor
open Go.Am
set_option linter.unusedVariables false
set_option linter.unusedSimpArgs false
set_option maxHeartbeats 1000000
noncomputable def body10_0:ACode:=(.seq (.seq (.region [⟨some 11,none,(.mov (.tmp 5))⟩,⟨some 12,none,(.mov (.tmp 0))⟩,⟨some 13,none,(.len (.tmp 12))⟩,⟨some 14,none,(.bin .lss (.tmp 11) (.tmp 13))⟩]) (.cond (.tmp 14) .skip (.exit 0))) (.seq (.block 1 (.seq (.regionC [(⟨some 17,none,(.mov (.tmp 0))⟩,[]),(⟨some 18,none,(.mov (.tmp 5))⟩,[]),(⟨some 19,none,(.idx 1 (.tmp 17) (.tmp 18))⟩,[]),(⟨some 20,none,(.load false 1 (.tmp 19))⟩,[]),(⟨some 21,none,(.mov (.tmp 1))⟩,[]),(⟨some 22,none,(.mov (.tmp 5))⟩,[]),(⟨some 23,none,(.idx 1 (.tmp 21) (.tmp 22))⟩,[]),(⟨some 24,none,(.load false 1 (.tmp 23))⟩,[]),(⟨some 25,none,(.bin .neq (.tmp 20) (.tmp 24))⟩,[])]) (.cond (.tmp 25) (.seq (.region [⟨some 4,none,(.mov (.const (.bool false)))⟩]) .ret) .skip))) (.region [⟨some 15,none,(.mov (.tmp 5))⟩,⟨some 16,none,(.bin .add (.tmp 15) (.const (.int .i64 1)))⟩,⟨some 5,none,(.mov (.tmp 16))⟩])))
noncomputable def body10:ACode:=(.seq (.region [⟨some 4,none,(.mov (.const (.bool false)))⟩]) (.seq (.seq (.region [⟨some 6,none,(.mov (.tmp 0))⟩,⟨some 7,none,(.len (.tmp 6))⟩,⟨some 8,none,(.mov (.tmp 1))⟩,⟨some 9,none,(.len (.tmp 8))⟩,⟨some 10,none,(.bin .neq (.tmp 7) (.tmp 9))⟩]) (.cond (.tmp 10) (.seq (.region [⟨some 4,none,(.mov (.const (.bool false)))⟩]) .ret) .skip)) (.seq (.seq (.region [⟨some 5,none,(.mov (.const (.int .i64 0)))⟩]) (.block 0 (.loop body10_0))) (.seq (.region [⟨some 4,none,(.mov (.const (.bool true)))⟩]) .ret))))
set_option maxRecDepth 100000 in
theorem tab10:tb.code 10=some ⟨26,[(4,none)],body10⟩:=by kernel_rfl
theorem sameInts_ok (h:AHeap) (v w:Value) (a b:List Int) (sa:SlI h v a) (sb:SlI h w b) (ha:(a.length:Int)≤1000000000):
  WC Tryz.prog tb 10 [v,w] h fun r h'=>r= .bool (decide (a=b))∧h=h':=by
 refine WC.of (nostub 10) tab10 ?_;simp only[mkTm,Nat.zero_add,Nat.reduceAdd]
 by_cases hl:(a.length:Int)=(b.length:Int)
 case neg=>
  have hne:a≠b:=fun e=>hl (by rw[e])
  refine go ?_
  refine rt ?_
  exact⟨by rw[decide_eq_false hne];rfl,rfl⟩
 refine go ?_
 refine WX.loopA [11,12,13,14,17,18,19,20,21,22,23,24,25,4,15,16,5] (by kernel_rfl) (fun i=>a.length - i) (fun i t h1=>h=h1∧tmGet t 5=I i∧i≤a.length∧Hid (∀ j,j<i→a.getD j 0=b.getD j 0)) 0 ?_ ?_
 ·exact⟨rfl,sl_,Nat.zero_le _,⟨fun j hj=>absurd hj (Nat.not_lt_zero _)⟩⟩
 rintro i t _ hsame ⟨rfl,s5,hi,hm⟩
 refine go ?_
 refine WX.br (fun hb=> ?_) (fun hb=> ?_)<;>simp only[DB]at hb
 ·have hi':i<a.length:=by omega
  by_cases he:a.getD i 0=b.getD i 0
  ·refine go ?_
   refine loopK_normal (i+1) (by omega) ⟨rfl,sln,by omega,⟨fun j hj=> ?_⟩⟩
   by_cases e:j=i
   ·subst e;exact he
   ·exact hm.out j (by omega)
  ·have hne:a≠b:=fun e=>he (by rw[e])
   refine go ?_
   refine rt ?_
   exact⟨by rw[decide_eq_false hne];rfl,rfl⟩
 ·have heq:a=b:=by
   refine List.ext_getElem (by omega) fun j h1 h2=> ?_
   have:=hm.out j (by omega)
   simpa [List.getD,List.getElem?_eq_getElem h1,List.getElem?_eq_getElem h2]using this
  refine go ?_
  refine rt ?_
  exact⟨by rw[decide_eq_true heq];rfl,rfl⟩
noncomputable def body23_0:ACode:=(.seq (.seq (.region [⟨some 70,none,(.mov (.tmp 6))⟩,⟨some 71,none,(.mov (.tmp 0))⟩,⟨some 72,none,(.mov (.tmp 5))⟩,⟨some 73,none,(.idx 4 (.tmp 71) (.tmp 72))⟩,⟨some 74,none,(.fld 3 (.tmp 73))⟩,⟨some 75,none,(.load false 1 (.tmp 74))⟩,⟨some 76,none,(.len (.tmp 75))⟩,⟨some 77,none,(.bin .lss (.tmp 70) (.tmp 76))⟩]) (.cond (.tmp 77) .skip (.exit 2))) (.seq (.block 3 (.seq (.regionC [(⟨some 80,none,(.mov (.tmp 0))⟩,[]),(⟨some 81,none,(.mov (.tmp 5))⟩,[]),(⟨some 82,none,(.idx 4 (.tmp 80) (.tmp 81))⟩,[]),(⟨some 83,none,(.fld 3 (.tmp 82))⟩,[]),(⟨some 84,none,(.load false 1 (.tmp 83))⟩,[]),(⟨some 85,none,(.mov (.tmp 6))⟩,[]),(⟨some 86,none,(.idx 1 (.tmp 84) (.tmp 85))⟩,[]),(⟨some 87,none,(.load false 1 (.tmp 86))⟩,[]),(⟨some 88,none,(.mov (.tmp 1))⟩,[]),(⟨some 89,none,(.mov (.tmp 5))⟩,[]),(⟨some 90,none,(.idx 4 (.tmp 88) (.tmp 89))⟩,[]),(⟨some 91,none,(.fld 3 (.tmp 90))⟩,[]),(⟨some 92,none,(.load false 1 (.tmp 91))⟩,[]),(⟨some 93,none,(.mov (.tmp 6))⟩,[]),(⟨some 94,none,(.idx 1 (.tmp 92) (.tmp 93))⟩,[]),(⟨some 95,none,(.load false 1 (.tmp 94))⟩,[]),(⟨some 96,none,(.bin .neq (.tmp 87) (.tmp 95))⟩,[])]) (.cond (.tmp 96) (.seq (.region [⟨some 4,none,(.mov (.const (.bool false)))⟩]) .ret) .skip))) (.region [⟨some 78,none,(.mov (.tmp 6))⟩,⟨some 79,none,(.bin .add (.tmp 78) (.const (.int .i64 1)))⟩,⟨some 6,none,(.mov (.tmp 79))⟩])))
noncomputable def body23_1:ACode:=(.seq (.seq (.region [⟨some 12,none,(.mov (.tmp 5))⟩,⟨some 13,none,(.mov (.tmp 0))⟩,⟨some 14,none,(.len (.tmp 13))⟩,⟨some 15,none,(.bin .lss (.tmp 12) (.tmp 14))⟩]) (.cond (.tmp 15) .skip (.exit 0))) (.seq (.block 1 (.seq (.seq (.regionC [(⟨some 18,none,(.mov (.tmp 0))⟩,[]),(⟨some 19,none,(.mov (.tmp 5))⟩,[]),(⟨some 20,none,(.idx 4 (.tmp 18) (.tmp 19))⟩,[]),(⟨some 21,none,(.fld 0 (.tmp 20))⟩,[]),(⟨some 22,none,(.load false 1 (.tmp 21))⟩,[]),(⟨some 23,none,(.mov (.tmp 1))⟩,[]),(⟨some 24,none,(.mov (.tmp 5))⟩,[]),(⟨some 25,none,(.idx 4 (.tmp 23) (.tmp 24))⟩,[]),(⟨some 26,none,(.fld 0 (.tmp 25))⟩,[]),(⟨some 27,none,(.load false 1 (.tmp 26))⟩,[]),(⟨some 28,none,(.bin .neq (.tmp 22) (.tmp 27))⟩,[]),(⟨some 29,none,(.mov (.tmp 28))⟩,[]),(⟨some 30,some (29,false),(.mov (.tmp 0))⟩,[]),(⟨some 31,some (29,false),(.mov (.tmp 5))⟩,[]),(⟨some 32,some (29,false),(.idx 4 (.tmp 30) (.tmp 31))⟩,[]),(⟨some 33,some (29,false),(.fld 1 (.tmp 32))⟩,[]),(⟨some 34,some (29,false),(.load false 1 (.tmp 33))⟩,[]),(⟨some 35,some (29,false),(.mov (.tmp 1))⟩,[]),(⟨some 36,some (29,false),(.mov (.tmp 5))⟩,[]),(⟨some 37,some (29,false),(.idx 4 (.tmp 35) (.tmp 36))⟩,[]),(⟨some 38,some (29,false),(.fld 1 (.tmp 37))⟩,[]),(⟨some 39,some (29,false),(.load false 1 (.tmp 38))⟩,[]),(⟨some 40,some (29,false),(.bin .neq (.tmp 34) (.tmp 39))⟩,[]),(⟨some 41,none,(.pick (.tmp 29) (.const (.bool true)) (.tmp 40))⟩,[]),(⟨some 42,none,(.mov (.tmp 41))⟩,[]),(⟨some 43,some (42,false),(.mov (.tmp 0))⟩,[]),(⟨some 44,some (42,false),(.mov (.tmp 5))⟩,[]),(⟨some 45,some (42,false),(.idx 4 (.tmp 43) (.tmp 44))⟩,[]),(⟨some 46,some (42,false),(.fld 2 (.tmp 45))⟩,[]),(⟨some 47,some (42,false),(.load false 1 (.tmp 46))⟩,[]),(⟨some 48,some (42,false),(.mov (.tmp 1))⟩,[]),(⟨some 49,some (42,false),(.mov (.tmp 5))⟩,[]),(⟨some 50,some (42,false),(.idx 4 (.tmp 48) (.tmp 49))⟩,[]),(⟨some 51,some (42,false),(.fld 2 (.tmp 50))⟩,[]),(⟨some 52,some (42,false),(.load false 1 (.tmp 51))⟩,[]),(⟨some 53,some (42,false),(.bin .neq (.tmp 47) (.tmp 52))⟩,[]),(⟨some 54,none,(.pick (.tmp 42) (.const (.bool true)) (.tmp 53))⟩,[]),(⟨some 55,none,(.mov (.tmp 54))⟩,[]),(⟨some 56,some (55,false),(.mov (.tmp 0))⟩,[]),(⟨some 57,some (55,false),(.mov (.tmp 5))⟩,[]),(⟨some 58,some (55,false),(.idx 4 (.tmp 56) (.tmp 57))⟩,[]),(⟨some 59,some (55,false),(.fld 3 (.tmp 58))⟩,[]),(⟨some 60,some (55,false),(.load false 1 (.tmp 59))⟩,[]),(⟨some 61,some (55,false),(.len (.tmp 60))⟩,[]),(⟨some 62,some (55,false),(.mov (.tmp 1))⟩,[]),(⟨some 63,some (55,false),(.mov (.tmp 5))⟩,[]),(⟨some 64,some (55,false),(.idx 4 (.tmp 62) (.tmp 63))⟩,[]),(⟨some 65,some (55,false),(.fld 3 (.tmp 64))⟩,[]),(⟨some 66,some (55,false),(.load false 1 (.tmp 65))⟩,[]),(⟨some 67,some (55,false),(.len (.tmp 66))⟩,[]),(⟨some 68,some (55,false),(.bin .neq (.tmp 61) (.tmp 67))⟩,[]),(⟨some 69,none,(.pick (.tmp 55) (.const (.bool true)) (.tmp 68))⟩,[])]) (.cond (.tmp 69) (.seq (.region [⟨some 4,none,(.mov (.const (.bool false)))⟩]) .ret) .skip)) (.seq (.region [⟨some 6,none,(.mov (.const (.int .i64 0)))⟩]) (.block 2 (.loop body23_0))))) (.region [⟨some 16,none,(.mov (.tmp 5))⟩,⟨some 17,none,(.bin .add (.tmp 16) (.const (.int .i64 1)))⟩,⟨some 5,none,(.mov (.tmp 17))⟩])))
noncomputable def body23:ACode:=(.seq (.region [⟨some 4,none,(.mov (.const (.bool false)))⟩]) (.seq (.seq (.region [⟨some 7,none,(.mov (.tmp 0))⟩,⟨some 8,none,(.len (.tmp 7))⟩,⟨some 9,none,(.mov (.tmp 1))⟩,⟨some 10,none,(.len (.tmp 9))⟩,⟨some 11,none,(.bin .neq (.tmp 8) (.tmp 10))⟩]) (.cond (.tmp 11) (.seq (.region [⟨some 4,none,(.mov (.const (.bool false)))⟩]) .ret) .skip)) (.seq (.seq (.region [⟨some 5,none,(.mov (.const (.int .i64 0)))⟩]) (.block 0 (.loop body23_1))) (.seq (.region [⟨some 4,none,(.mov (.const (.bool true)))⟩]) .ret))))
set_option maxRecDepth 100000 in
theorem tab23:tb.code 23=some ⟨97,[(4,none)],body23⟩:=by kernel_rfl
theorem rSame3_ok (h:AHeap) (v w:Value) (T:List LType) (sa:SlT h v T) (sb:SlT h w T) (hT:T.length≤1000) (hp:∀ x∈T,x.parts.length≤1000):
  WC Tryz.prog tb 23 [v,w] h fun r h'=>r= .bool true∧h=h':=by
 refine WC.of (nostub 23) tab23 ?_;simp only[mkTm,Nat.zero_add,Nat.reduceAdd]
 replace hp:=Hid.mk hp
 refine go ?_
 refine WX.loopA [12,13,14,15,18,19,20,21,22,23,24,25,26,27,28,29,30,31,32,33,34,35,36,37,38,39,40,41,42,43,44,45,46,47,48,49,50,51,52,53,54,55,56,57,58,59,60,61,62,63,64,65,66,67,68,69,4,6,70,71,72,73,74,75,76,77,80,81,82,83,84,85,86,87,88,89,90,91,92,93,94,95,96,4,78,79,6,16,17,5] (by kernel_rfl) (fun i=>T.length - i) (fun i t h1=>h=h1∧tmGet t 5=I i∧i≤T.length) 0 ?_ ?_
 ·exact⟨rfl,sl_,Nat.zero_le _⟩
 rintro i t _ hsame ⟨rfl,s5,hi⟩
 refine go ?_
 refine WX.br (fun hb=> ?_) (fun hb=> ?_)<;>simp only[DB]at hb
 ·have hi':i<T.length:=by omega
  have hpl:=hp.out _ (getD_memR (l:=T) hi')
  obtain⟨cs1,⟨va1,rfl,sa1,hla1⟩,pc1,hs1⟩:=slt_at sa hi'
  obtain⟨cs2,⟨va2,rfl,sa2,hla2⟩,pc2,hs2⟩:=slt_at sb hi'
  generalize T.getD i default=x at *
  refine go ?_
  refine WX.loopA [70,71,72,73,74,75,76,77,80,81,82,83,84,85,86,87,88,89,90,91,92,93,94,95,96,4,78,79,6] (by kernel_rfl) (fun k=>x.parts.length - k) (fun k t h1=>h=h1∧tmGet t 6=I k∧k≤x.parts.length) 0 ?_ ?_
  ·exact⟨rfl,sl_,Nat.zero_le _⟩
  rintro k t2 _ hsame2 ⟨rfl,s6,hk⟩
  refine go ?_
  refine WX.br (fun hc=> ?_) (fun hc=> ?_)<;>simp only[DB]at hc
  ·have hk':k<x.parts.length:=by omega
   refine go ?_
   exact loopK_normal (k+1) (by omega) ⟨rfl,sln,by omega⟩
  ·refine go ?_
   exact loopK_normal (i+1) (by omega) ⟨rfl,sln,by omega⟩
 ·refine go ?_
  refine rt ?_
  exact⟨rfl,rfl⟩
noncomputable def body35_0:ACode:=(.seq (.seq (.region [⟨some 13,none,(.mov (.tmp 5))⟩,⟨some 14,none,(.mov (.tmp 0))⟩,⟨some 15,none,(.len (.tmp 14))⟩,⟨some 16,none,(.bin .lss (.tmp 13) (.tmp 15))⟩]) (.cond (.tmp 16) .skip (.exit 0))) (.seq (.block 1 (.seq (.regionC [(⟨some 19,none,(.mov (.tmp 0))⟩,[]),(⟨some 20,none,(.mov (.tmp 5))⟩,[]),(⟨some 21,none,(.idx 7 (.tmp 19) (.tmp 20))⟩,[]),(⟨some 22,none,(.load true 7 (.tmp 21))⟩,[]),(⟨some 23,none,(.mov (.tmp 1))⟩,[]),(⟨some 24,none,(.mov (.tmp 5))⟩,[]),(⟨some 25,none,(.idx 7 (.tmp 23) (.tmp 24))⟩,[]),(⟨some 26,none,(.load true 7 (.tmp 25))⟩,[]),(⟨some 6,none,(.alloc [(.int .u8 0),(.int .i64 0),(.int .i64 0),(.int .i64 0),(.int .i64 0),(.slice none 0 0),(.slice none 0 0)])⟩,[]),(⟨some 7,none,(.alloc [(.int .u8 0),(.int .i64 0),(.int .i64 0),(.int .i64 0),(.int .i64 0),(.slice none 0 0),(.slice none 0 0)])⟩,[]),(⟨none,none,(.store 7 (.tmp 6) (.tmp 22))⟩,[7]),(⟨none,none,(.store 7 (.tmp 7) (.tmp 26))⟩,[])]) (.seq (.region [⟨some 27,none,(.fld 0 (.tmp 6))⟩,⟨some 28,none,(.load false 1 (.tmp 27))⟩,⟨some 29,none,(.fld 0 (.tmp 7))⟩,⟨some 30,none,(.load false 1 (.tmp 29))⟩,⟨some 31,none,(.bin .neq (.tmp 28) (.tmp 30))⟩,⟨some 32,none,(.mov (.tmp 31))⟩,⟨some 33,some (32,false),(.fld 1 (.tmp 6))⟩,⟨some 34,some (32,false),(.load false 1 (.tmp 33))⟩,⟨some 35,some (32,false),(.fld 1 (.tmp 7))⟩,⟨some 36,some (32,false),(.load false 1 (.tmp 35))⟩,⟨some 37,some (32,false),(.bin .neq (.tmp 34) (.tmp 36))⟩,⟨some 38,none,(.pick (.tmp 32) (.const (.bool true)) (.tmp 37))⟩,⟨some 39,none,(.mov (.tmp 38))⟩,⟨some 40,some (39,false),(.fld 2 (.tmp 6))⟩,⟨some 41,some (39,false),(.load false 1 (.tmp 40))⟩,⟨some 42,some (39,false),(.fld 2 (.tmp 7))⟩,⟨some 43,some (39,false),(.load false 1 (.tmp 42))⟩,⟨some 44,some (39,false),(.bin .neq (.tmp 41) (.tmp 43))⟩,⟨some 45,none,(.pick (.tmp 39) (.const (.bool true)) (.tmp 44))⟩,⟨some 46,none,(.mov (.tmp 45))⟩,⟨some 47,some (46,false),(.fld 3 (.tmp 6))⟩,⟨some 48,some (46,false),(.load false 1 (.tmp 47))⟩,⟨some 49,some (46,false),(.fld 3 (.tmp 7))⟩,⟨some 50,some (46,false),(.load false 1 (.tmp 49))⟩,⟨some 51,some (46,false),(.bin .neq (.tmp 48) (.tmp 50))⟩,⟨some 52,none,(.pick (.tmp 46) (.const (.bool true)) (.tmp 51))⟩,⟨some 53,none,(.mov (.tmp 52))⟩,⟨some 54,some (53,false),(.fld 4 (.tmp 6))⟩,⟨some 55,some (53,false),(.load false 1 (.tmp 54))⟩,⟨some 56,some (53,false),(.fld 4 (.tmp 7))⟩,⟨some 57,some (53,false),(.load false 1 (.tmp 56))⟩,⟨some 58,some (53,false),(.bin .neq (.tmp 55) (.tmp 57))⟩,⟨some 59,none,(.pick (.tmp 53) (.const (.bool true)) (.tmp 58))⟩,⟨some 60,none,(.mov (.tmp 59))⟩,⟨some 61,some (60,false),(.fld 5 (.tmp 6))⟩,⟨some 62,some (60,false),(.load false 1 (.tmp 61))⟩,⟨some 63,some (60,false),(.fld 5 (.tmp 7))⟩,⟨some 64,some (60,false),(.load false 1 (.tmp 63))⟩,⟨some 65,some (60,false),(.call (.func 10) [(.tmp 62),(.tmp 64)])⟩,⟨some 66,some (60,false),(.un .not (.tmp 65))⟩,⟨some 67,none,(.pick (.tmp 60) (.const (.bool true)) (.tmp 66))⟩,⟨some 68,none,(.mov (.tmp 67))⟩,⟨some 69,some (68,false),(.fld 6 (.tmp 6))⟩,⟨some 70,some (68,false),(.load false 1 (.tmp 69))⟩,⟨some 71,some (68,false),(.fld 6 (.tmp 7))⟩,⟨some 72,some (68,false),(.load false 1 (.tmp 71))⟩,⟨some 73,some (68,false),(.call (.func 10) [(.tmp 70),(.tmp 72)])⟩,⟨some 74,some (68,false),(.un .not (.tmp 73))⟩,⟨some 75,none,(.pick (.tmp 68) (.const (.bool true)) (.tmp 74))⟩]) (.cond (.tmp 75) (.seq (.region [⟨some 4,none,(.mov (.const (.bool false)))⟩]) .ret) .skip)))) (.region [⟨some 17,none,(.mov (.tmp 5))⟩,⟨some 18,none,(.bin .add (.tmp 17) (.const (.int .i64 1)))⟩,⟨some 5,none,(.mov (.tmp 18))⟩])))
noncomputable def body35:ACode:=(.seq (.region [⟨some 4,none,(.mov (.const (.bool false)))⟩]) (.seq (.seq (.region [⟨some 8,none,(.mov (.tmp 0))⟩,⟨some 9,none,(.len (.tmp 8))⟩,⟨some 10,none,(.mov (.tmp 1))⟩,⟨some 11,none,(.len (.tmp 10))⟩,⟨some 12,none,(.bin .neq (.tmp 9) (.tmp 11))⟩]) (.cond (.tmp 12) (.seq (.region [⟨some 4,none,(.mov (.const (.bool false)))⟩]) .ret) .skip)) (.seq (.seq (.region [⟨some 5,none,(.mov (.const (.int .i64 0)))⟩]) (.block 0 (.loop body35_0))) (.seq (.region [⟨some 4,none,(.mov (.const (.bool true)))⟩]) .ret))))
set_option maxRecDepth 100000 in
theorem tab35:tb.code 35=some ⟨76,[(4,none)],body35⟩:=by kernel_rfl
theorem rsameIns_ok (h:AHeap) (v w:Value) (L:List LIns) (sa:SlN h v L) (sb:SlN h w L) (hm:h.mark≤h.n) (hL:L.length≤1000) (hX:∀ x∈L,x.args.length≤20∧x.frm.length≤20):
  WC Tryz.prog tb 35 [v,w] h fun r h'=>r= .bool true∧Ext h h':=by
 refine WC.of (nostub 35) tab35 ?_;simp only[mkTm,Nat.zero_add,Nat.reduceAdd]
 replace hX:=Hid.mk hX
 refine go ?_
 refine WX.loopA [13,14,15,16,19,20,21,22,23,24,25,26,6,7,27,28,29,30,31,32,33,34,35,36,37,38,39,40,41,42,43,44,45,46,47,48,49,50,51,52,53,54,55,56,57,58,59,60,61,62,63,64,65,66,67,68,69,70,71,72,73,74,75,4,17,18,5] (by kernel_rfl) (fun i=>L.length - i) (fun i t h1=>Ext h h1∧tmGet t 5=I i∧i≤L.length) 0 ?_ ?_
 ·exact⟨Ext.refl _,sl_,Nat.zero_le _⟩
 rintro i t h1 hsame ⟨e1,s5,hi⟩
 have sa1:=SlN.ext sa e1
 have sb1:=SlN.ext sb e1
 have hm1:=mark_ext e1 hm
 refine go ?_
 refine WX.br (fun hb=> ?_) (fun hb=> ?_)<;>simp only[DB]at hb
 ·have hi':i<L.length:=by omega
  have hxl:=hX.out _ (getD_memR (l:=L) hi')
  obtain⟨aa,an,ak,hav,hab⟩:=slr_block sa1 hi'
  obtain⟨ba,bn,bk,hbv,hbb⟩:=slr_block sb1 hi'
  refine go ?_
  refine WX.regionU6 (fun g=>g=h1.n∨g=h1.n+1) 2 rfl rfl ?_
  have saX:SlN (inC (asideN 2 h1)) v L:=by have:=SlN.ext sa1 (ext_aside 2 h1);exact this
  have sbX:SlN (inC (asideN 2 h1)) w L:=by have:=SlN.ext sb1 (ext_aside 2 h1);exact this
  obtain⟨cs1,⟨xa,xf,rfl,sxa,sxf,hla,hlf,ho⟩,px1,hs1⟩:=slr_atX sa1 hi'
  obtain⟨cs2,⟨ya,yf,rfl,sya,syf,hlb,hlg,ho2⟩,px2,hs2⟩:=slr_atX sb1 hi'
  have pc1:=(px1 _ (ext_aside 2 h1)).2
  have pc2:=(px2 _ (ext_aside 2 h1)).2
  generalize L.getD i default=x at *
  obtain⟨a1,a2,a3,rfl⟩:=ins_shape sxa
  obtain⟨f1,f2,f3,rfl⟩:=ins_shape sxf
  obtain⟨b1,b2,b3,rfl⟩:=ins_shape sya
  obtain⟨g1,g2,g3,rfl⟩:=ins_shape syf
  refine goV ?_
  refine uK6_el ⟨aa,an,ak,hav,by omega⟩ ?_
  refine goV ?_
  refine uK6_el ⟨ba,bn,bk,hbv,by omega⟩ ?_
  refine goV ?_
  refine WU6.al2 hm1 ?_
  intro h2 p q e2 op oq
  have sxa2:SlI h2 (.slice a1 a2 a3) x.args:=sxa.ext e2
  have sxf2:SlI h2 (.slice f1 f2 f3) x.frm:=sxf.ext e2
  have sya2:SlI h2 (.slice b1 b2 b3) x.args:=sya.ext e2
  have syf2:SlI h2 (.slice g1 g2 g3) x.frm:=syf.ext e2
  refine go ?_
  refine WO.con (sameInts_ok h2 _ _ x.args x.args sxa2 sya2 (by omega)) ?_
  rintro _ _ ⟨rfl,rfl⟩
  refine go ?_
  refine WO.con (sameInts_ok h2 _ _ x.frm x.frm sxf2 syf2 (by omega)) ?_
  rintro _ _ ⟨rfl,rfl⟩
  refine go ?_
  exact loopK_normal (i+1) (by omega) ⟨e1.trans e2,sln,by omega⟩
 ·refine go ?_
  refine rt ?_
  exact⟨rfl,e1⟩
noncomputable def body24_0:ACode:=(.seq (.seq (.region [⟨some 11,none,(.mov (.tmp 5))⟩,⟨some 12,none,(.mov (.tmp 0))⟩,⟨some 13,none,(.len (.tmp 12))⟩,⟨some 14,none,(.bin .lss (.tmp 11) (.tmp 13))⟩]) (.cond (.tmp 14) .skip (.exit 0))) (.seq (.block 1 (.seq (.regionC [(⟨some 17,none,(.mov (.tmp 0))⟩,[]),(⟨some 18,none,(.mov (.tmp 5))⟩,[]),(⟨some 19,none,(.idx 5 (.tmp 17) (.tmp 18))⟩,[]),(⟨some 20,none,(.fld 1 (.tmp 19))⟩,[]),(⟨some 21,none,(.load true 4 (.tmp 20))⟩,[]),(⟨some 22,none,(.mov (.tmp 1))⟩,[]),(⟨some 23,none,(.mov (.tmp 5))⟩,[]),(⟨some 24,none,(.idx 5 (.tmp 22) (.tmp 23))⟩,[]),(⟨some 25,none,(.fld 1 (.tmp 24))⟩,[]),(⟨some 26,none,(.load true 4 (.tmp 25))⟩,[]),(⟨some 27,none,(.binP .neq 42 (.tmp 21) (.tmp 26))⟩,[]),(⟨some 28,none,(.mov (.tmp 27))⟩,[]),(⟨some 29,some (28,false),(.mov (.tmp 0))⟩,[]),(⟨some 30,some (28,false),(.mov (.tmp 5))⟩,[]),(⟨some 31,some (28,false),(.idx 5 (.tmp 29) (.tmp 30))⟩,[]),(⟨some 32,some (28,false),(.fld 0 (.tmp 31))⟩,[]),(⟨some 33,some (28,false),(.load false 1 (.tmp 32))⟩,[]),(⟨some 34,some (28,false),(.mov (.tmp 1))⟩,[]),(⟨some 35,some (28,false),(.mov (.tmp 5))⟩,[]),(⟨some 36,some (28,false),(.idx 5 (.tmp 34) (.tmp 35))⟩,[]),(⟨some 37,some (28,false),(.fld 0 (.tmp 36))⟩,[]),(⟨some 38,some (28,false),(.load false 1 (.tmp 37))⟩,[]),(⟨some 39,some (28,false),(.call (.func 35) [(.tmp 33),(.tmp 38)])⟩,[]),(⟨some 40,some (28,false),(.un .not (.tmp 39))⟩,[]),(⟨some 41,none,(.pick (.tmp 28) (.const (.bool true)) (.tmp 40))⟩,[])]) (.cond (.tmp 41) (.seq (.region [⟨some 4,none,(.mov (.const (.bool false)))⟩]) .ret) .skip))) (.region [⟨some 15,none,(.mov (.tmp 5))⟩,⟨some 16,none,(.bin .add (.tmp 15) (.const (.int .i64 1)))⟩,⟨some 5,none,(.mov (.tmp 16))⟩])))
noncomputable def body24:ACode:=(.seq (.region [⟨some 4,none,(.mov (.const (.bool false)))⟩]) (.seq (.seq (.region [⟨some 6,none,(.mov (.tmp 0))⟩,⟨some 7,none,(.len (.tmp 6))⟩,⟨some 8,none,(.mov (.tmp 1))⟩,⟨some 9,none,(.len (.tmp 8))⟩,⟨some 10,none,(.bin .neq (.tmp 7) (.tmp 9))⟩]) (.cond (.tmp 10) (.seq (.region [⟨some 4,none,(.mov (.const (.bool false)))⟩]) .ret) .skip)) (.seq (.seq (.region [⟨some 5,none,(.mov (.const (.int .i64 0)))⟩]) (.block 0 (.loop body24_0))) (.seq (.region [⟨some 4,none,(.mov (.const (.bool true)))⟩]) .ret))))
set_option maxRecDepth 100000 in
theorem tab24:tb.code 24=some ⟨42,[(4,none)],body24⟩:=by kernel_rfl
theorem rsameB_ok (h:AHeap) (v w:Value) (L:List LBlk) (sa:SlB h v L) (sb:SlB h w L) (hm:h.mark≤h.n) (hL:L.length≤1000) (hI:∀ b∈L,b.ins.length≤1000) (hX:∀ b∈L,∀ x∈b.ins,x.args.length≤20∧x.frm.length≤20):
  WC Tryz.prog tb 24 [v,w] h fun r h'=>r= .bool true∧Ext h h':=by
 refine WC.of (nostub 24) tab24 ?_;simp only[mkTm,Nat.zero_add,Nat.reduceAdd]
 replace hI:=Hid.mk hI
 replace hX:=Hid.mk hX
 refine go ?_
 refine WX.loopA [11,12,13,14,17,18,19,20,21,22,23,24,25,26,27,28,29,30,31,32,33,34,35,36,37,38,39,40,41,4,15,16,5] (by kernel_rfl) (fun i=>L.length - i) (fun i t h1=>Ext h h1∧tmGet t 5=I i∧i≤L.length) 0 ?_ ?_
 ·exact⟨Ext.refl _,sl_,Nat.zero_le _⟩
 rintro i t h1 hsame ⟨e1,s5,hi⟩
 have sa1:=SlB.ext sa e1
 have sb1:=SlB.ext sb e1
 refine go ?_
 refine WX.br (fun hb=> ?_) (fun hb=> ?_)<;>simp only[DB]at hb
 ·have hi':i<L.length:=by omega
  have hmem:=getD_memR (l:=L) hi'
  have hIl:=hI.out _ hmem
  have hXl:=hX.out _ hmem
  refine go ?_
  refine WX.regionU2 0 rfl rfl ?_
  have saX:SlB (inC (asideN 0 h1)) v L:=sa1
  have sbX:SlB (inC (asideN 0 h1)) w L:=sb1
  obtain⟨cs1,⟨v1,rfl,sn1,hl1⟩,pc1,hs1⟩:=slr_at saX hi'
  obtain⟨cs2,⟨v2,rfl,sn2,hl2⟩,pc2,hs2⟩:=slr_at sbX hi'
  generalize L.getD i default=B at *
  obtain⟨a1,a2,a3,rfl⟩:=slr_shape sn1
  obtain⟨b1,b2,b3,rfl⟩:=slr_shape sn2
  refine goU ?_
  refine WO.bp (ne_chk (xs:=#[.int .u8 B.fin.kind,I B.fin.a,I B.fin.to,I B.fin.els]) (ys:=#[.int .u8 B.fin.kind,I B.fin.a,I B.fin.to,I B.fin.els]) (b:=true) (by kernel_rfl) (by simp[eqAll,eqOne,I])) ?_
  refine WO.nil ?_
  refine uK2_q ?_
  refine goU ?_
  refine WO.con (rsameIns_ok _ _ _ B.ins sn1 sn2 (Nat.le_refl _) hIl hXl) ?_
  rintro _ h2 ⟨rfl,e2⟩
  refine WO.nil ?_
  refine uK2_e e2 reads_call ?_
  refine goU ?_
  have e3:Ext h1 (outC h1 (inC h2)):=e2.reg
  refine go ?_
  exact loopK_normal (i+1) (by omega) ⟨e1.trans e3,sln,by omega⟩
 ·refine go ?_
  refine rt ?_
  exact⟨rfl,e1⟩
noncomputable def body11_0:ACode:=(.seq (.seq (.region [⟨some 21,none,(.mov (.tmp 5))⟩,⟨some 22,none,(.fld 1 (.tmp 2))⟩,⟨some 23,none,(.load false 1 (.tmp 22))⟩,⟨some 24,none,(.len (.tmp 23))⟩,⟨some 25,none,(.bin .lss (.tmp 21) (.tmp 24))⟩]) (.cond (.tmp 25) .skip (.exit 0))) (.seq (.block 1 (.seq (.regionC [(⟨some 28,none,(.fld 1 (.tmp 2))⟩,[]),(⟨some 29,none,(.load false 1 (.tmp 28))⟩,[]),(⟨some 30,none,(.mov (.tmp 5))⟩,[]),(⟨some 31,none,(.idx 2 (.tmp 29) (.tmp 30))⟩,[]),(⟨some 32,none,(.fld 0 (.tmp 31))⟩,[]),(⟨some 33,none,(.load false 1 (.tmp 32))⟩,[]),(⟨some 34,none,(.fld 1 (.tmp 3))⟩,[]),(⟨some 35,none,(.load false 1 (.tmp 34))⟩,[]),(⟨some 36,none,(.mov (.tmp 5))⟩,[]),(⟨some 37,none,(.idx 2 (.tmp 35) (.tmp 36))⟩,[]),(⟨some 38,none,(.fld 0 (.tmp 37))⟩,[]),(⟨some 39,none,(.load false 1 (.tmp 38))⟩,[]),(⟨some 40,none,(.bin .neq (.tmp 33) (.tmp 39))⟩,[]),(⟨some 41,none,(.mov (.tmp 40))⟩,[]),(⟨some 42,some (41,false),(.fld 1 (.tmp 2))⟩,[]),(⟨some 43,some (41,false),(.load false 1 (.tmp 42))⟩,[]),(⟨some 44,some (41,false),(.mov (.tmp 5))⟩,[]),(⟨some 45,some (41,false),(.idx 2 (.tmp 43) (.tmp 44))⟩,[]),(⟨some 46,some (41,false),(.fld 1 (.tmp 45))⟩,[]),(⟨some 47,some (41,false),(.load false 1 (.tmp 46))⟩,[]),(⟨some 48,some (41,false),(.fld 1 (.tmp 3))⟩,[]),(⟨some 49,some (41,false),(.load false 1 (.tmp 48))⟩,[]),(⟨some 50,some (41,false),(.mov (.tmp 5))⟩,[]),(⟨some 51,some (41,false),(.idx 2 (.tmp 49) (.tmp 50))⟩,[]),(⟨some 52,some (41,false),(.fld 1 (.tmp 51))⟩,[]),(⟨some 53,some (41,false),(.load false 1 (.tmp 52))⟩,[]),(⟨some 54,some (41,false),(.call (.func 24) [(.tmp 47),(.tmp 53)])⟩,[]),(⟨some 55,some (41,false),(.un .not (.tmp 54))⟩,[]),(⟨some 56,none,(.pick (.tmp 41) (.const (.bool true)) (.tmp 55))⟩,[])]) (.cond (.tmp 56) (.seq (.region [⟨some 4,none,(.mov (.const (.bool false)))⟩]) .ret) .skip))) (.region [⟨some 26,none,(.mov (.tmp 5))⟩,⟨some 27,none,(.bin .add (.tmp 26) (.const (.int .i64 1)))⟩,⟨some 5,none,(.mov (.tmp 27))⟩])))
noncomputable def body11:ACode:=(.seq (.region [⟨some 2,none,(.box (.tmp 0))⟩,⟨some 3,none,(.box (.tmp 1))⟩,⟨some 4,none,(.mov (.const (.bool false)))⟩]) (.seq (.seq (.region [⟨some 6,none,(.fld 1 (.tmp 2))⟩,⟨some 7,none,(.load false 1 (.tmp 6))⟩,⟨some 8,none,(.len (.tmp 7))⟩,⟨some 9,none,(.fld 1 (.tmp 3))⟩,⟨some 10,none,(.load false 1 (.tmp 9))⟩,⟨some 11,none,(.len (.tmp 10))⟩,⟨some 12,none,(.bin .neq (.tmp 8) (.tmp 11))⟩,⟨some 13,none,(.mov (.tmp 12))⟩,⟨some 14,some (13,false),(.fld 0 (.tmp 2))⟩,⟨some 15,some (13,false),(.load false 1 (.tmp 14))⟩,⟨some 16,some (13,false),(.fld 0 (.tmp 3))⟩,⟨some 17,some (13,false),(.load false 1 (.tmp 16))⟩,⟨some 18,some (13,false),(.call (.func 23) [(.tmp 15),(.tmp 17)])⟩,⟨some 19,some (13,false),(.un .not (.tmp 18))⟩,⟨some 20,none,(.pick (.tmp 13) (.const (.bool true)) (.tmp 19))⟩]) (.cond (.tmp 20) (.seq (.region [⟨some 4,none,(.mov (.const (.bool false)))⟩]) .ret) .skip)) (.seq (.seq (.region [⟨some 5,none,(.mov (.const (.int .i64 0)))⟩]) (.block 0 (.loop body11_0))) (.seq (.region [⟨some 4,none,(.mov (.const (.bool true)))⟩]) .ret))))
set_option maxRecDepth 100000 in
theorem tab11:tb.code 11=some ⟨57,[(4,none)],body11⟩:=by kernel_rfl
theorem rSame_ok (h:AHeap) (vt vf wt wf:Value) (T:List LType) (F:List LFn) (sm:Small T F) (smi:SmallI F) (hm:h.mark≤h.n) (st:SlT h vt T) (sf:SlF h vf F) (st2:SlT h wt T) (sf2:SlF h wf F):
  WC Tryz.prog tb 11 [.agg #[vt,vf],.agg #[wt,wf]] h fun r h'=>r= .bool true∧Ext h h':=by
 have hT:=sm.types
 have hF:=sm.funcs
 obtain⟨ta,tn,tk,rfl⟩:=slr_shape st
 obtain⟨ga,gn,gk,rfl⟩:=slr_shape sf
 obtain⟨ua,un,uk,rfl⟩:=slr_shape st2
 obtain⟨za,zn,zk,rfl⟩:=slr_shape sf2
 refine WC.of (nostub 11) tab11 ?_;simp only[mkTm,Nat.zero_add,Nat.reduceAdd]
 refine go ?_
 refine WO.bx ?_
 intro p h1 e1 o1
 refine go ?_
 refine WO.bx ?_
 intro q h2 e2 o2
 have o1:=o1.ext e2
 have e12:=e1.trans e2
 have st_2:=st.ext e12
 have sf_2:=SlF.ext sf e12
 have st2_2:=st2.ext e12
 have sf2_2:=SlF.ext sf2 e12
 have hm2:=mark_ext e12 hm
 refine go ?_
 refine WO.con (rSame3_ok h2 _ _ T st_2 st2_2 (by omega) (fun x hx=>by have:=sm.parts x hx;omega)) ?_
 rintro _ _ ⟨rfl,rfl⟩
 refine go ?_
 refine WX.loopA [21,22,23,24,25,28,29,30,31,32,33,34,35,36,37,38,39,40,41,42,43,44,45,46,47,48,49,50,51,52,53,54,55,56,4,26,27,5] (by kernel_rfl) (fun i=>F.length - i) (fun i t h3=>Ext h2 h3∧tmGet t 5=I i∧i≤F.length) 0 ?_ ?_
 ·exact⟨Ext.refl _,sl_,Nat.zero_le _⟩
 rintro i t h3 hsame ⟨e3,s5,hi⟩
 have o1:=o1.ext e3
 have o2:=o2.ext e3
 have sf3:=SlF.ext sf_2 e3
 have sf23:=SlF.ext sf2_2 e3
 refine go ?_
 refine WX.br (fun hb=> ?_) (fun hb=> ?_)<;>simp only[DB]at hb
 ·have hi':i<F.length:=by omega
  have hmem:=getD_memR (l:=F) hi'
  have hB:=sm.blocks _ hmem
  have hI:=sm.ins _ hmem
  have hX:=smi _ hmem
  refine go ?_
  refine WX.regionU2 0 rfl rfl ?_
  have o1X:OwnC h (inC (asideN 0 h3)) p [_,_]:=o1
  have o2X:OwnC h1 (inC (asideN 0 h3)) q [_,_]:=o2
  have saX:SlF (inC (asideN 0 h3)) _ F:=sf3
  have sbX:SlF (inC (asideN 0 h3)) _ F:=sf23
  obtain⟨cs1,⟨v1,rfl,sn1,hl1⟩,pc1,hs1⟩:=slr_at saX hi'
  obtain⟨cs2,⟨v2,rfl,sn2,hl2⟩,pc2,hs2⟩:=slr_at sbX hi'
  generalize F.getD i default=f at *
  obtain⟨a1,a2,a3,rfl⟩:=slr_shape sn1
  obtain⟨b1,b2,b3,rfl⟩:=slr_shape sn2
  refine goU ?_
  refine WO.con (rsameB_ok _ _ _ f.blocks sn1 sn2 (Nat.le_refl _) hB hI hX) ?_
  rintro _ h4 ⟨rfl,e4⟩
  refine WO.nil ?_
  refine uK2_e e4 reads_call ?_
  refine goU ?_
  have e5:Ext h3 (outC h3 (inC h4)):=e4.reg
  refine go ?_
  exact loopK_normal (i+1) (by omega) ⟨e3.trans e5,sln,by omega⟩
 ·refine go ?_
  refine rt ?_
  exact⟨rfl,e12.trans e3⟩
end Go.Proofs.YtbhdfhiecgebnaaGreatDoor
namespace Go.Proofs.YtbhdfhiecgebnaaGreatDoor
open Go.Am
set_option linter.unusedVariables false
set_option linter.unusedSimpArgs false
set_option maxHeartbeats 1000000
inductive Rch (nx:Int→List Int) (first:List Int) (but:Int):Int→Prop
 |here {a:Int}:a∈first→a≠but→Rch nx first but a
 |step {b c:Int}:Rch nx first but b→c∈nx b→c≠but→Rch nx first but c
theorem Rch.way {nx:Int→List Int} {first:List Int} {but c:Int} (h:Rch nx first but c):∃ a∈first,Way nx a c:=by
 induction h with
 |here h _=>exact⟨_,h,.here⟩
 |step _ hc _ ih=>obtain⟨a,h1,h2⟩:=ih;exact⟨a,h1,.step h2 hc⟩
theorem Rch.in {nx:Int→List Int} {first:List Int} {but c:Int} {N:Nat} (hin:∀ b,0≤b∧b<(N:Int)→∀ c∈nx b,0≤c∧c<(N:Int)) (hf:∀ a∈first,0≤a∧a<(N:Int)) (h:Rch nx first but c):0≤c∧c<(N:Int):=by
 induction h with
 |here h _=>exact hf _ h
 |step _ hc _ ih=>exact hin _ ih _ hc
theorem rch_way {nx:Int→List Int} {first:List Int} {c:Int} {N:Nat} (hin:∀ b,0≤b∧b<(N:Int)→∀ c∈nx b,0≤c∧c<(N:Int)) (hf:∀ a∈first,0≤a∧a<(N:Int)):Rch nx first (-1) c↔∃ a∈first,Way nx a c:=by
 refine⟨Rch.way,fun hh=> ?_⟩
 obtain⟨a,h1,h2⟩:=hh
 have:Rch nx first (-1) c∧0≤c∧c<(N:Int):=by
  induction h2 with
  |here=>exact⟨.here h1 (by have:=hf a h1;omega),hf a h1⟩
  |step _ hc ih=>
   have:=hin _ ih.2 _ hc
   exact⟨.step ih.1 hc (by omega),this⟩
 exact this.1
abbrev bO (bs:List Bool) (j:Int):Bool:=bs.getD j.toNat false
theorem bO_set {bs:List Bool} {j c:Int} {b:Bool} (hc:0≤c∧c<(bs.length:Int)) (hj:0≤j):bO (bs.set c.toNat b) j=if j=c then b else bO bs j:=by
 unfold bO
 rw[List.getD_eq_getElem?_getD,List.getElem?_set]
 by_cases e:j=c
 ·subst e
  rw[if_pos rfl,if_pos (by omega),if_pos rfl];rfl
 ·rw[if_neg (by omega),if_neg e,List.getD_eq_getElem?_getD]
theorem bools_ext {xs ys:List Bool} (hl:xs.length=ys.length) (h:∀ j:Int,0≤j∧j<(xs.length:Int)→bO xs j=bO ys j):xs=ys:=by
 refine List.ext_getElem hl fun j h1 h2=> ?_
 have:=h (j:Int) (by omega)
 simpa [bO,List.getD,List.getElem?_eq_getElem h1,List.getElem?_eq_getElem h2]using this
def ClAt (nx:Int→List Int) (but:Int) (bs:List Bool) (j:Int):Prop:=bO bs j=true→∀ c∈nx j,c≠but→bO bs c=true
def Cl (nx:Int→List Int) (but:Int) (bs:List Bool):Prop:=∀ j:Int,0≤j∧j<(bs.length:Int)→ClAt nx but bs j
structure Swp (nx:Int→List Int) (first:List Int) (but:Int) (N:Nat) (bs0 bs:List Bool) (i:Nat):Prop where
 len0:bs0.length=N
 len:bs.length=N
 le:∀ j:Int,0≤j→bO bs0 j=true→bO bs j=true
 sound:∀ j:Int,0≤j→bO bs j=true→Rch nx first but j
 cl:Cl nx but bs0→bs=bs0
 fix:bs=bs0→∀ j:Int,0≤j∧j<(i:Int)→ClAt nx but bs j
theorem Swp.start {nx:Int→List Int} {first:List Int} {but:Int} {N:Nat} {bs:List Bool} (hl:bs.length=N) (hs:∀ j:Int,0≤j→bO bs j=true→Rch nx first but j):Swp nx first but N bs bs 0:=
 ⟨hl,hl,fun _ _ h=>h,hs,fun _=>rfl,fun _ j hj=>by omega⟩
theorem Swp.add {nx:Int→List Int} {first:List Int} {but:Int} {N i:Nat} {bs0 bs:List Bool} {c:Int} (s:Swp nx first but N bs0 bs i) (hi:bO bs i=true) (hc:c∈nx i) (hin:0≤c∧c<(N:Int)) (hiN:i<N):
  Swp nx first but N bs0 (bs.set c.toNat (bO bs c|| !decide (c=but))) i∧(bs.set c.toNat (bO bs c|| !decide (c=but))=bs0→bs=bs0)∧bO (bs.set c.toNat (bO bs c|| !decide (c=but))) i=true∧(c≠but→bO (bs.set c.toNat (bO bs c|| !decide (c=but))) c=true):=by
 have hlc:0≤c∧c<(bs.length:Int):=by rw[s.len];exact hin
 have get:∀ j:Int,0≤j→bO (bs.set c.toNat (bO bs c|| !decide (c=but))) j=if j=c then (bO bs c|| !decide (c=but)) else bO bs j:=fun j hj=>bO_set hlc hj
 have up:∀ j:Int,0≤j→bO bs j=true→bO (bs.set c.toNat (bO bs c|| !decide (c=but))) j=true:=fun j hj h=>by
  rw[get j hj]
  split
  ·rename_i e;subst e;rw[h];rfl
  ·exact h
 have back:bs.set c.toNat (bO bs c|| !decide (c=but))=bs0→bs=bs0:=fun e=>by
  refine bools_ext (by rw[s.len,s.len0]) fun j hj=> ?_
  cases h1:bO bs j with
  |true=>have:=up j hj.1 h1;rw[e]at this;exact this.symm
  |false=>
   cases h2:bO bs0 j with
   |false=>rfl
   |true=>rw[s.le j hj.1 h2]at h1;cases h1
 refine⟨⟨s.len0,by rw[List.length_set];exact s.len,fun j hj h=>up j hj (s.le j hj h),fun j hj h=> ?_,fun h=> ?_,fun e j hj=> ?_⟩,back,up i (by omega) hi,fun h=> ?_⟩
 ·rw[get j hj]at h
  split at h
  ·rename_i e
   subst e
   rw[Bool.or_eq_true]at h
   rcases h with h|h
   ·exact s.sound _ hj h
   ·exact .step (s.sound i (by omega) hi) hc (by simpa using h)
  ·exact s.sound j hj h
 ·have e:=s.cl h
  subst e
  refine bools_ext (by rw[List.length_set]) fun j hj=> ?_
  rw[List.length_set]at hj
  rw[get j hj.1]
  split
  ·rename_i e
   subst e
   by_cases hb:j=but
   ·simp[hb]
   ·rw[h i (by rw[s.len];omega) hi j hc hb];rfl
  ·rfl
 ·have e2:=back e
  have:=s.fix e2 j hj
  subst e2
  rw[e];exact this
 ·rw[get c hin.1,if_pos rfl];simp[h]
theorem Swp.next {nx:Int→List Int} {first:List Int} {but:Int} {N i:Nat} {bs0 bs:List Bool} (s:Swp nx first but N bs0 bs i) (h:bs=bs0→ClAt nx but bs i):Swp nx first but N bs0 bs (i+1):=
 ⟨s.len0,s.len,s.le,s.sound,s.cl,fun e j hj=>by
  by_cases hji:j=i
  ·rw[hji];exact h e
  ·exact s.fix e j (by omega)⟩
def cntB (bs:List Bool):Nat:=bs.countP id
theorem cntB_lt {xs ys:List Bool} (hl:xs.length=ys.length) (hle:∀ j:Int,0≤j→bO xs j=true→bO ys j=true) (hne:xs≠ys):cntB xs<cntB ys:=by
 unfold cntB
 induction xs generalizing ys with
 |nil=>cases ys with
  |nil=>exact absurd rfl hne
  |cons=>cases hl
 |cons x xs ih=>
  cases ys with
  |nil=>cases hl
  |cons y ys=>
   have hle':∀ j:Int,0≤j→bO xs j=true→bO ys j=true:=fun j hj h=>by
    have:=hle (j+1) (by omega)
    have e:(j+1).toNat=j.toNat+1:=by omega
    unfold bO at this h ⊢
    rw[e]at this
    simpa [List.getD]using this (by simpa [List.getD]using h)
   have h0:x=true→y=true:=fun h=>by have:=hle 0 (Int.le_refl _);simpa [bO,List.getD,h]using this
   have hlen:xs.length=ys.length:=by simpa using hl
   have mono:∀ {ps qs:List Bool},ps.length=qs.length→(∀ j:Int,0≤j→bO ps j=true→bO qs j=true)→ps.countP id≤qs.countP id:=by
    intro ps
    induction ps with
    |nil=>intro qs _ _;simp
    |cons a ps iha=>
     intro qs hl2 h2
     cases qs with
     |nil=>cases hl2
     |cons b qs=>
      have h3:∀ j:Int,0≤j→bO ps j=true→bO qs j=true:=fun j hj h=>by
       have:=h2 (j+1) (by omega)
       have e:(j+1).toNat=j.toNat+1:=by omega
       unfold bO at this h ⊢
       rw[e]at this
       simpa [List.getD]using this (by simpa [List.getD]using h)
      have h4:a=true→b=true:=fun h=>by have:=h2 0 (Int.le_refl _);simpa [bO,List.getD,h]using this
      have:=iha (by simpa using hl2) h3
      simp only[List.countP_cons,id]
      cases a with
      |true=>rw[h4 rfl];omega
      |false=>cases b<;>simp<;>omega
   have hm:=mono hlen hle'
   simp only[List.countP_cons,id]
   by_cases hxy:x=y
   ·subst hxy
    have:=ih hlen hle' (fun e=>hne (by rw[e]))
    omega
   ·cases x with
    |true=>exact absurd (h0 rfl).symm hxy
    |false=>
     cases y with
     |true=>simp;omega
     |false=>exact absurd rfl hxy
theorem cntB_all {bs:List Bool} (h:bs.length≤cntB bs) {j:Int} (hj:0≤j∧j<(bs.length:Int)):bO bs j=true:=by
 unfold cntB at h
 have h2:bs.countP id=bs.length:=Nat.le_antisymm List.countP_le_length h
 rw[List.countP_eq_length]at h2
 have hi:j.toNat<bs.length:=by omega
 have:=h2 (bs[j.toNat]) (List.getElem_mem hi)
 simpa [bO,List.getD,List.getElem?_eq_getElem hi]using this
structure Rds (nx:Int→List Int) (first:List Int) (but:Int) (N:Nat) (bs:List Bool) (n:Nat):Prop where
 len:bs.length=N
 sound:∀ j:Int,0≤j→bO bs j=true→Rch nx first but j
 init:∀ a∈first,a≠but→bO bs a=true
 cl:Cl nx but bs∨n≤cntB bs
theorem Rds.next {nx:Int→List Int} {first:List Int} {but:Int} {N n:Nat} {bs0 bs:List Bool} (hf:∀ a∈first,0≤a) (r:Rds nx first but N bs0 n) (s:Swp nx first but N bs0 bs N):Rds nx first but N bs (n+1):=by
 refine⟨s.len,s.sound,fun a ha hb=>s.le a (hf a ha) (r.init a ha hb),?_⟩
 by_cases e:bs=bs0
 ·left
  intro j hj
  exact s.fix e j (by rw[s.len]at hj;exact hj)
 ·right
  rcases r.cl with h|h
  ·exact absurd (s.cl h) e
  ·have:=cntB_lt (by rw[s.len,s.len0]) s.le (Ne.symm e)
   omega
theorem Rds.done {nx:Int→List Int} {first:List Int} {but:Int} {N:Nat} {bs:List Bool} (hin:∀ b,0≤b∧b<(N:Int)→∀ c∈nx b,0≤c∧c<(N:Int)) (hf:∀ a∈first,0≤a∧a<(N:Int)) (r:Rds nx first but N bs N) (j:Int) (hj:0≤j∧j<(N:Int)):bO bs j=true↔Rch nx first but j:=by
 refine⟨r.sound j hj.1,fun h=> ?_⟩
 have hcl:Cl nx but bs:=by
  rcases r.cl with h|h
  ·exact h
  ·intro i hi _ c hc _
   rw[r.len]at hi
   exact cntB_all (by rw[r.len];exact h) (by rw[r.len];exact hin i hi c hc)
 clear hj
 induction h with
 |here ha hb=>exact r.init _ ha hb
 |step hb hc hne ih=>exact hcl _ (by rw[r.len];exact hb.in hin hf) ih _ hc hne
end Go.Proofs.YtbhdfhiecgebnaaGreatDoor
namespace Go.Proofs.YtbhdfhiecgebnaaGreatDoor
open Go.Am
set_option linter.unusedVariables false
set_option linter.unusedSimpArgs false
set_option maxHeartbeats 1000000
noncomputable def body44:ACode:=(.seq (.region [⟨some 1,none,(.box (.tmp 0))⟩,⟨some 2,none,(.mov (.const (.slice none 0 0)))⟩]) (.seq (.seq (.region [⟨some 3,none,(.fld 0 (.tmp 1))⟩,⟨some 4,none,(.load false 1 (.tmp 3))⟩,⟨some 5,none,(.bin .eql (.tmp 4) (.const (.int .u8 1)))⟩,⟨some 6,none,(.mov (.tmp 5))⟩,⟨some 7,some (6,false),(.fld 0 (.tmp 1))⟩,⟨some 8,some (6,false),(.load false 1 (.tmp 7))⟩,⟨some 9,some (6,false),(.bin .eql (.tmp 8) (.const (.int .u8 2)))⟩,⟨some 10,some (6,false),(.mov (.tmp 9))⟩,⟨some 11,some (10,true),(.fld 2 (.tmp 1))⟩,⟨some 12,some (10,true),(.load false 1 (.tmp 11))⟩,⟨some 13,some (10,true),(.fld 3 (.tmp 1))⟩,⟨some 14,some (10,true),(.load false 1 (.tmp 13))⟩,⟨some 15,some (10,true),(.bin .eql (.tmp 12) (.tmp 14))⟩,⟨some 16,some (6,false),(.pick (.tmp 10) (.tmp 15) (.const (.bool false)))⟩,⟨some 17,none,(.pick (.tmp 6) (.const (.bool true)) (.tmp 16))⟩]) (.cond (.tmp 17) (.seq (.region [⟨some 18,none,(.fld 2 (.tmp 1))⟩,⟨some 19,none,(.load false 1 (.tmp 18))⟩,⟨some 20,none,(.buildSlice 1 1 [(.int .i64 0)] [(0,1,(.tmp 19))])⟩,⟨some 2,none,(.mov (.tmp 20))⟩]) .ret) .skip)) (.seq (.seq (.region [⟨some 21,none,(.fld 0 (.tmp 1))⟩,⟨some 22,none,(.load false 1 (.tmp 21))⟩,⟨some 23,none,(.bin .eql (.tmp 22) (.const (.int .u8 2)))⟩]) (.cond (.tmp 23) (.seq (.region [⟨some 24,none,(.fld 2 (.tmp 1))⟩,⟨some 25,none,(.load false 1 (.tmp 24))⟩,⟨some 26,none,(.fld 3 (.tmp 1))⟩,⟨some 27,none,(.load false 1 (.tmp 26))⟩,⟨some 28,none,(.buildSlice 2 1 [(.int .i64 0)] [(0,1,(.tmp 25)),(1,1,(.tmp 27))])⟩,⟨some 2,none,(.mov (.tmp 28))⟩]) .ret) .skip)) (.seq (.region [⟨some 2,none,(.mov (.const (.slice none 0 0)))⟩]) .ret))))
set_option maxRecDepth 100000 in
theorem tab44:tb.code 44=some ⟨29,[(2,none)],body44⟩:=by kernel_rfl
theorem to_ok (h:AHeap) (x:LEnd):
  WC Tryz.prog tb 44 [.agg #[.int .u8 x.kind,I x.a,I x.to,I x.els]] h fun r h'=>OwnN h h' r (nextL x)∧Ext h h':=by
 refine WC.of (nostub 44) tab44 ?_;simp only[mkTm,Nat.zero_add,Nat.reduceAdd]
 refine go ?_
 refine WO.bx ?_
 intro p h1 e1 o1
 unfold nextL
 by_cases k1:x.kind=1
 ·rw[if_pos k1]
  refine go ?_
  refine WO.bl [x.to] ?_
  intro v h2 e2 o2
  refine go ?_
  refine rt ?_
  exact⟨.inr (o2.since e1),e1.trans e2⟩
 rw[if_neg k1]
 by_cases k2:x.kind=2
 ·rw[if_pos k2]
  by_cases k3:x.to=x.els
  ·rw[if_pos k3]
   refine go ?_
   refine WO.bl [x.to] ?_
   intro v h2 e2 o2
   refine go ?_
   refine rt ?_
   exact⟨.inr (o2.since e1),e1.trans e2⟩
  ·rw[if_neg k3]
   refine go ?_
   refine WO.bl [x.to,x.els] ?_
   intro v h2 e2 o2
   refine go ?_
   refine rt ?_
   exact⟨.inr (o2.since e1),e1.trans e2⟩
 ·rw[if_neg k2]
  refine go ?_
  refine rt ?_
  exact⟨.inl ⟨rfl,rfl⟩,e1⟩
noncomputable def body45_0:ACode:=(.seq (.seq (.region [⟨some 6,none,(.mov (.tmp 5))⟩,⟨some 7,none,(.mov (.tmp 0))⟩,⟨some 8,none,(.len (.tmp 7))⟩,⟨some 9,none,(.bin .lss (.tmp 6) (.tmp 8))⟩]) (.cond (.tmp 9) .skip (.exit 0))) (.seq (.block 1 (.seq (.region [⟨some 12,none,(.mov (.tmp 0))⟩,⟨some 13,none,(.mov (.tmp 5))⟩,⟨some 14,none,(.idx 1 (.tmp 12) (.tmp 13))⟩,⟨some 15,none,(.load false 1 (.tmp 14))⟩,⟨some 16,none,(.mov (.tmp 1))⟩,⟨some 17,none,(.bin .eql (.tmp 15) (.tmp 16))⟩]) (.cond (.tmp 17) (.seq (.region [⟨some 4,none,(.mov (.const (.bool true)))⟩]) .ret) .skip))) (.region [⟨some 10,none,(.mov (.tmp 5))⟩,⟨some 11,none,(.bin .add (.tmp 10) (.const (.int .i64 1)))⟩,⟨some 5,none,(.mov (.tmp 11))⟩])))
noncomputable def body45:ACode:=(.seq (.region [⟨some 4,none,(.mov (.const (.bool false)))⟩]) (.seq (.seq (.region [⟨some 5,none,(.mov (.const (.int .i64 0)))⟩]) (.block 0 (.loop body45_0))) (.seq (.region [⟨some 4,none,(.mov (.const (.bool false)))⟩]) .ret)))
set_option maxRecDepth 100000 in
theorem tab45:tb.code 45=some ⟨18,[(4,none)],body45⟩:=by kernel_rfl
theorem in_ok (h:AHeap) (v:Value) (l:List Int) (n:Int) (s:SlI h v l) (hl:(l.length:Int)≤1000000):
  WC Tryz.prog tb 45 [v,I n] h fun r h'=>r= .bool (decide (n∈l))∧h=h':=by
 refine WC.of (nostub 45) tab45 ?_;simp only[mkTm,Nat.zero_add,Nat.reduceAdd]
 refine go ?_
 refine WX.loopA [6,7,8,9,12,13,14,15,16,17,4,10,11,5] (by kernel_rfl) (fun i=>l.length - i) (fun i t h1=>h=h1∧tmGet t 5=I i∧i≤l.length∧Hid (∀ j,j<i→l.getD j 0≠n)) 0 ?_ ?_
 ·exact⟨rfl,sl_,Nat.zero_le _,⟨fun j hj=>absurd hj (Nat.not_lt_zero _)⟩⟩
 rintro i t _ hsame ⟨rfl,s5,hi,hm⟩
 refine go ?_
 refine WX.br (fun hb=> ?_) (fun hb=> ?_)<;>simp only[DB]at hb
 ·have hi':i<l.length:=by omega
  by_cases he:l.getD i 0=n
  ·have hin:n∈l:=by rw[←he];exact getD_mem hi'
   refine go ?_
   refine rt ?_
   exact⟨by rw[decide_eq_true hin];rfl,rfl⟩
  ·refine go ?_
   refine loopK_normal (i+1) (by omega) ⟨rfl,sln,by omega,⟨fun j hj=> ?_⟩⟩
   by_cases e:j=i
   ·subst e;exact he
   ·exact hm.out j (by omega)
 ·have hno:n∉l:=fun hin=>by
   obtain⟨j,hj,e⟩:=mem_getD hin
   exact hm.out j (by omega) e
  refine go ?_
  refine rt ?_
  exact⟨by rw[decide_eq_false hno];rfl,rfl⟩
theorem ownBo_keep {h0 h h':AHeap} {v:Value} {bs:List Bool} (o:OwnBo h0 h v bs) {q:Nat} (hq:∃ n k,v= .slice (some ⟨q,0,none⟩) n k):h0.n≤q∧q<h.n:=by
 obtain⟨g,a,b,rfl,_⟩:=o
 obtain⟨n,k,e⟩:=hq
 cases e;exact⟨a,b⟩
theorem ownN_keepBo {hA h h':AHeap} {v w:Value} {l:List Int} (o:OwnN hA h w l) (keep:∀ k,k<h.n→(∀ n k',v≠ .slice (some ⟨k,0,none⟩) n k')→h'.get k=h.get k) (hn:h.n≤h'.n) (hv:∀ q n k,v= .slice (some ⟨q,0,none⟩) n k→q<hA.n):OwnN hA h' w l:=by
 rcases o with o|⟨g,g1,g2,g3,g4⟩
 ·exact .inl o
 ·exact .inr ⟨g,g1,by omega,g3,(keep g g2 (fun n k' e=>by have:=hv g n k' e;omega)).trans g4⟩
noncomputable def body32_0:ACode:=(.seq (.seq (.region [⟨some 16,none,(.mov (.tmp 8))⟩,⟨some 17,none,(.mov (.tmp 1))⟩,⟨some 18,none,(.len (.tmp 17))⟩,⟨some 19,none,(.bin .lss (.tmp 16) (.tmp 18))⟩]) (.cond (.tmp 19) .skip (.exit 0))) (.seq (.block 1 (.regionC [(⟨some 22,none,(.mov (.tmp 7))⟩,[]),(⟨some 23,none,(.mov (.tmp 1))⟩,[]),(⟨some 24,none,(.mov (.tmp 8))⟩,[]),(⟨some 25,none,(.idx 1 (.tmp 23) (.tmp 24))⟩,[]),(⟨some 26,none,(.load false 1 (.tmp 25))⟩,[]),(⟨some 27,none,(.mov (.tmp 1))⟩,[]),(⟨some 28,none,(.mov (.tmp 8))⟩,[]),(⟨some 29,none,(.idx 1 (.tmp 27) (.tmp 28))⟩,[]),(⟨some 30,none,(.load false 1 (.tmp 29))⟩,[]),(⟨some 31,none,(.mov (.tmp 2))⟩,[]),(⟨some 32,none,(.bin .neq (.tmp 30) (.tmp 31))⟩,[]),(⟨some 33,none,(.idx 1 (.tmp 22) (.tmp 26))⟩,[]),(⟨none,none,(.store 1 (.tmp 33) (.tmp 32))⟩,[])])) (.region [⟨some 20,none,(.mov (.tmp 8))⟩,⟨some 21,none,(.bin .add (.tmp 20) (.const (.int .i64 1)))⟩,⟨some 8,none,(.mov (.tmp 21))⟩])))
noncomputable def body32_1:ACode:=(.seq (.seq (.region [⟨some 52,none,(.mov (.tmp 12))⟩,⟨some 53,none,(.mov (.tmp 11))⟩,⟨some 54,none,(.len (.tmp 53))⟩,⟨some 55,none,(.bin .lss (.tmp 52) (.tmp 54))⟩,⟨some 56,none,(.mov (.tmp 55))⟩,⟨some 57,some (56,true),(.mov (.tmp 7))⟩,⟨some 58,some (56,true),(.mov (.tmp 10))⟩,⟨some 59,some (56,true),(.idx 1 (.tmp 57) (.tmp 58))⟩,⟨some 60,some (56,true),(.load false 1 (.tmp 59))⟩,⟨some 61,none,(.pick (.tmp 56) (.tmp 60) (.const (.bool false)))⟩]) (.cond (.tmp 61) .skip (.exit 6))) (.seq (.block 7 (.regionC [(⟨some 64,none,(.mov (.tmp 7))⟩,[]),(⟨some 65,none,(.mov (.tmp 11))⟩,[]),(⟨some 66,none,(.mov (.tmp 12))⟩,[]),(⟨some 67,none,(.idx 1 (.tmp 65) (.tmp 66))⟩,[]),(⟨some 68,none,(.load false 1 (.tmp 67))⟩,[]),(⟨some 69,none,(.mov (.tmp 7))⟩,[]),(⟨some 70,none,(.mov (.tmp 11))⟩,[]),(⟨some 71,none,(.mov (.tmp 12))⟩,[]),(⟨some 72,none,(.idx 1 (.tmp 70) (.tmp 71))⟩,[]),(⟨some 73,none,(.load false 1 (.tmp 72))⟩,[]),(⟨some 74,none,(.idx 1 (.tmp 69) (.tmp 73))⟩,[]),(⟨some 75,none,(.load false 1 (.tmp 74))⟩,[]),(⟨some 76,none,(.mov (.tmp 75))⟩,[]),(⟨some 77,some (76,false),(.mov (.tmp 11))⟩,[]),(⟨some 78,some (76,false),(.mov (.tmp 12))⟩,[]),(⟨some 79,some (76,false),(.idx 1 (.tmp 77) (.tmp 78))⟩,[]),(⟨some 80,some (76,false),(.load false 1 (.tmp 79))⟩,[]),(⟨some 81,some (76,false),(.mov (.tmp 2))⟩,[]),(⟨some 82,some (76,false),(.bin .neq (.tmp 80) (.tmp 81))⟩,[]),(⟨some 83,none,(.pick (.tmp 76) (.const (.bool true)) (.tmp 82))⟩,[]),(⟨some 84,none,(.idx 1 (.tmp 64) (.tmp 68))⟩,[]),(⟨none,none,(.store 1 (.tmp 84) (.tmp 83))⟩,[])])) (.region [⟨some 62,none,(.mov (.tmp 12))⟩,⟨some 63,none,(.bin .add (.tmp 62) (.const (.int .i64 1)))⟩,⟨some 12,none,(.mov (.tmp 63))⟩])))
noncomputable def body32_2:ACode:=(.seq (.seq (.region [⟨some 40,none,(.mov (.tmp 10))⟩,⟨some 41,none,(.mov (.tmp 0))⟩,⟨some 42,none,(.len (.tmp 41))⟩,⟨some 43,none,(.bin .lss (.tmp 40) (.tmp 42))⟩]) (.cond (.tmp 43) .skip (.exit 4))) (.seq (.block 5 (.seq (.region [⟨some 46,none,(.mov (.tmp 0))⟩,⟨some 47,none,(.mov (.tmp 10))⟩,⟨some 48,none,(.idx 5 (.tmp 46) (.tmp 47))⟩,⟨some 49,none,(.fld 1 (.tmp 48))⟩,⟨some 50,none,(.load true 4 (.tmp 49))⟩,⟨some 51,none,(.call (.func 44) [(.tmp 50)])⟩,⟨some 11,none,(.mov (.tmp 51))⟩]) (.seq (.region [⟨some 12,none,(.mov (.const (.int .i64 0)))⟩]) (.block 6 (.loop body32_1))))) (.region [⟨some 44,none,(.mov (.tmp 10))⟩,⟨some 45,none,(.bin .add (.tmp 44) (.const (.int .i64 1)))⟩,⟨some 10,none,(.mov (.tmp 45))⟩])))
noncomputable def body32_3:ACode:=(.seq (.seq (.region [⟨some 34,none,(.mov (.tmp 9))⟩,⟨some 35,none,(.mov (.tmp 0))⟩,⟨some 36,none,(.len (.tmp 35))⟩,⟨some 37,none,(.bin .lss (.tmp 34) (.tmp 36))⟩]) (.cond (.tmp 37) .skip (.exit 2))) (.seq (.block 3 (.seq (.region [⟨some 10,none,(.mov (.const (.int .i64 0)))⟩]) (.block 4 (.loop body32_2)))) (.region [⟨some 38,none,(.mov (.tmp 9))⟩,⟨some 39,none,(.bin .add (.tmp 38) (.const (.int .i64 1)))⟩,⟨some 9,none,(.mov (.tmp 39))⟩])))
noncomputable def body32:ACode:=(.seq (.region [⟨some 6,none,(.mov (.const (.slice none 0 0)))⟩]) (.seq (.region [⟨some 13,none,(.mov (.tmp 0))⟩,⟨some 14,none,(.len (.tmp 13))⟩,⟨some 15,none,(.mkSlice 1 [(.bool false)] (.tmp 14) (.tmp 14))⟩,⟨some 7,none,(.mov (.tmp 15))⟩]) (.seq (.seq (.region [⟨some 8,none,(.mov (.const (.int .i64 0)))⟩]) (.block 0 (.loop body32_0))) (.seq (.seq (.region [⟨some 9,none,(.mov (.const (.int .i64 0)))⟩]) (.block 2 (.loop body32_3))) (.seq (.region [⟨some 85,none,(.mov (.tmp 7))⟩,⟨some 6,none,(.mov (.tmp 85))⟩]) .ret)))))
set_option maxRecDepth 100000 in
theorem tab32:tb.code 32=some ⟨86,[(6,none)],body32⟩:=by kernel_rfl
theorem come_ok (h:AHeap) (v w:Value) (L:List LBlk) (first:List Int) (but:Int) (hm:h.mark≤h.n) (sb:SlB h v L) (sw:SlI h w first) (hL:L.length≤16) (hin:∀ c,0≤c∧c<(L.length:Int)→∀ d∈nxL L c,0≤d∧d<(L.length:Int)) (hf:∀ a∈first,0≤a∧a<(L.length:Int)) (hfl:first.length≤1000):
  WC Tryz.prog tb 32 [v,w,I but] h fun r h'=>(∃ bs:List Bool,OwnBo h h' r bs∧bs.length=L.length∧∀ j:Int,0≤j∧j<(L.length:Int)→(bO bs j=true↔Rch (nxL L) first but j))∧Ext h h':=by
 replace hin:=Hid.mk hin
 replace hf:=Hid.mk hf
 refine WC.of (nostub 32) tab32 ?_;simp only[mkTm,Nat.zero_add,Nat.reduceAdd]
 refine go ?_
 refine WO.mkBo (n:=L.length) (by omega) ?_
 intro r h1 e1 o1
 have hrl:∀ j:Int,bO (List.replicate L.length false) j=false:=fun j=>by
  unfold bO;rw[List.getD_eq_getElem?_getD,List.getElem?_replicate];split<;>rfl
 refine go ?_
 refine WX.loopA [16,17,18,19,22,23,24,25,26,27,28,29,30,31,32,33,20,21,8] (by kernel_rfl) (fun i=>first.length - i) (fun i t h2=>Ext h h2∧tmGet t 8=I i∧i≤first.length∧∃ bs:List Bool,OwnBo h h2 r bs∧bs.length=L.length∧Hid ((∀ j:Int,0≤j→bO bs j=true→Rch (nxL L) first but j)∧∀ k,k<i→first.getD k 0≠but→bO bs (first.getD k 0)=true)) 0 ?_ ?_
 ·exact⟨e1,sl_,Nat.zero_le _,_,o1,by simp,⟨⟨fun j hj hh=>(by rw[hrl]at hh;cases hh),fun k hk=>absurd hk (Nat.not_lt_zero _)⟩⟩⟩
 clear o1 hrl
 rintro i t h2 hsame ⟨e2,s8,hi,bs,o2,hbl,hP⟩
 have sw2:=sw.ext e2
 refine go ?_
 refine WX.br (fun hb=> ?_) (fun hb=> ?_)<;>simp only[DB]at hb
 ·have hi':i<first.length:=by omega
  have hfi:=hf.out _ (getD_mem hi')
  have hbd:(first.getD i 0).toNat<bs.length:=by omega
  refine go ?_
  refine WX.regionU2 0 rfl rfl ?_
  have swX:SlI (inC (asideN 0 h2)) w first:=sw2
  have oX:OwnBo h (asideN 0 h2) r bs:=o2
  have sX:SlBo (inC (asideN 0 h2)) r bs:=o2.sl
  refine goU ?_
  refine WU2.stBo (hS:=h2) (i:=(first.getD i 0).toNat) (b:= !decide (first.getD i 0=but)) oX e2 (by rw[e2.mark];exact hm) rfl hbd ?_
  intro h3 e3 o3 _ _
  refine go ?_
  have hset:∀ j:Int,0≤j→bO (bs.set (first.getD i 0).toNat (!decide (first.getD i 0=but))) j=if j=first.getD i 0 then !decide (first.getD i 0=but) else bO bs j:=fun j hj=>bO_set (by omega) hj
  refine loopK_normal (i+1) (by omega) ⟨e3,sln,by omega,_,o3,by rw[List.length_set];exact hbl,⟨⟨fun j hj hh=> ?_,fun k hk hne=> ?_⟩⟩⟩
  ·rw[hset j hj]at hh
   split at hh
   ·rename_i e;rw[e];exact .here (getD_mem hi') (by simpa using hh)
   ·exact hP.out.1 j hj hh
  ·by_cases e:k=i
   ·subst e
    rw[hset _ hfi.1,if_pos rfl];simpa using hne
   ·have hk':k<first.length:=by omega
    rw[hset _ (hf.out _ (getD_mem hk')).1]
    split
    ·rename_i e2;rw[e2]at hne;simpa using hne
    ·exact hP.out.2 k (by omega) hne
 have hii:i=first.length:=by omega
 subst hii
 have hR:Hid (Rds (nxL L) first but L.length bs 0):=⟨⟨hbl,hP.out.1,fun a ha hb=>by
  obtain⟨k,hk,rfl⟩:=mem_getD ha
  exact hP.out.2 k hk hb,.inr (Nat.zero_le _)⟩⟩
 clear hP
 refine go ?_
 refine WX.loopA [34,35,36,37,10,40,41,42,43,46,47,48,49,50,51,11,12,52,53,54,55,56,57,58,59,60,61,64,65,66,67,68,69,70,71,72,73,74,75,76,77,78,79,80,81,82,83,84,62,63,12,44,45,10,38,39,9] (by kernel_rfl) (fun n=>L.length - n) (fun n t h3=>Ext h h3∧tmGet t 9=I n∧n≤L.length∧∃ bs:List Bool,OwnBo h h3 r bs∧Hid (Rds (nxL L) first but L.length bs n)) 0 ?_ ?_
 ·exact⟨e2,sl_,Nat.zero_le _,_,o2,hR⟩
 clear hR o2 hbl bs
 rintro n t3 h3 hsame3 ⟨e3,s9,hn,bs0,o3,hR⟩
 have sb3:=SlB.ext sb e3
 refine go ?_
 refine WX.br (fun hb=> ?_) (fun hb=> ?_)<;>simp only[DB]at hb
 case refine_2=>
  have hnn:n=L.length:=by omega
  subst hnn
  have hdone:=Rds.done hin.out hf.out hR.out
  have hlen:=hR.out.len
  refine go ?_
  refine rt ?_
  exact⟨⟨bs0,o3,hlen,fun j hj=>hdone j hj⟩,e3⟩
 refine go ?_
 refine WX.loopA [40,41,42,43,46,47,48,49,50,51,11,12,52,53,54,55,56,57,58,59,60,61,64,65,66,67,68,69,70,71,72,73,74,75,76,77,78,79,80,81,82,83,84,62,63,12,44,45,10] (by kernel_rfl) (fun i=>L.length - i) (fun i t h4=>Ext h h4∧tmGet t 10=I i∧i≤L.length∧∃ bs:List Bool,OwnBo h h4 r bs∧Hid (Swp (nxL L) first but L.length bs0 bs i)) 0 ?_ ?_
 ·exact⟨e3,sl_,Nat.zero_le _,_,o3,⟨Swp.start hR.out.len hR.out.sound⟩⟩
 clear o3
 rintro i t4 h4 hsame4 ⟨e4,s10,hi,bs,o4,hS⟩
 have sb4:=SlB.ext sb e4
 refine go ?_
 refine WX.br (fun hc=> ?_) (fun hc=> ?_)<;>simp only[DB]at hc
 case refine_2=>
  have hii:i=L.length:=by omega
  subst hii
  refine go ?_
  exact loopK_normal (n+1) (by omega) ⟨e4,sln,by omega,_,o4,⟨Rds.next (fun a ha=>(hf.out a ha).1) hR.out hS.out⟩⟩
 have hi':i<L.length:=by omega
 obtain⟨cs,⟨vi,rfl,si,hsi⟩,pc,hs⟩:=slr_at sb4 hi'
 obtain⟨_,_,_,rfl⟩:=slr_shape si
 refine go ?_
 refine WO.con (to_ok h4 (L.getD i default).fin) ?_
 rintro u h5 ⟨ou,e5⟩
 have hnx:nextL (L.getD i default).fin=nxL L i:=by unfold nxL;rw[Int.toNat_natCast]
 rw[hnx]at ou
 have hul:(nxL L i).length≤2:=next_len _
 have hinI:=Hid.mk (hin.out i (by omega))
 have hqv:∀ q n k,r= .slice (some ⟨q,0,none⟩) n k→q<h4.n:=fun q n k e=>(ownBo_keep (h':=h4) o4 ⟨n,k,e⟩).2
 have o5:=o4.ext e5
 have e45:=e4.trans e5
 clear pc
 generalize hX:nxL L i=X at *
 refine go ?_
 refine WX.loopA [52,53,54,55,56,57,58,59,60,61,64,65,66,67,68,69,70,71,72,73,74,75,76,77,78,79,80,81,82,83,84,62,63,12] (by kernel_rfl) (fun k=>X.length - k) (fun k t h6=>Ext h h6∧tmGet t 12=I k∧k≤X.length∧OwnN h4 h6 u X∧∃ bs:List Bool,OwnBo h h6 r bs∧Hid (Swp (nxL L) first but L.length bs0 bs i∧(bs=bs0→bO bs i=true→∀ k',k'<k→X.getD k' 0≠but→bO bs (X.getD k' 0)=true))) 0 ?_ ?_
 ·exact⟨e45,sl_,Nat.zero_le _,ou,_,o5,⟨⟨hS.out,fun _ _ k hk=>absurd hk (Nat.not_lt_zero _)⟩⟩⟩
 clear o4 o5 hS ou e45
 rintro k t6 h6 hsame6 ⟨e6,s12,hk,ou,bs,o6,hS⟩
 have hlen:=hS.out.1.len
 have su:=ou.sl
 have sr:=o6.sl
 by_cases hkX:(k:Int)<X.length
 case neg=>
  have hkk:k=X.length:=by omega
  subst hkk
  refine go ?_
  refine loopK_normal (i+1) (by omega) ⟨e6,sln,by omega,_,o6,⟨hS.out.1.next fun e hb c hc hne=> ?_⟩⟩
  rw[hX]at hc
  obtain⟨k',hk',rfl⟩:=mem_getD hc
  exact hS.out.2 e hb k' hk' hne
 have hk':k<X.length:=by omega
 obtain⟨cs1,hcs1,pc1,hs1⟩:=slr_at sr (i:=i) (by omega)
 have hcs1:cs1=[.bool (bO bs i)]:=by
  have:bs.getD i default=bO bs i:=by unfold bO;rw[Int.toNat_natCast];rfl
  rw[←this];exact hcs1
 subst hcs1
 by_cases hbi:bO bs i=true
 case neg=>
  have hbi':bO bs i=false:=by simpa using hbi
  refine go ?_
  refine loopK_normal (i+1) (by omega) ⟨e6,sln,by omega,_,o6,⟨hS.out.1.next fun e hb=>absurd hb hbi⟩⟩
 have hci:=hinI.out _ (getD_mem hk')
 have hcm:=getD_mem hk'
 obtain⟨c,hc0⟩:∃ c,X.getD k 0=c:=⟨_,rfl⟩
 rw[hc0]at hci hcm
 have hcb:c.toNat<bs.length:=by omega
 rw[←hX]at hcm
 obtain⟨s1,s2,s3,s4⟩:=hS.out.1.add hbi hcm (by omega) hi'
 have hfin:Hid (Swp (nxL L) first but L.length bs0 (bs.set c.toNat (bO bs c|| !decide (c=but))) i∧(bs.set c.toNat (bO bs c|| !decide (c=but))=bs0→bO (bs.set c.toNat (bO bs c|| !decide (c=but))) i=true→∀ k',k'<k+1→X.getD k' 0≠but→bO (bs.set c.toNat (bO bs c|| !decide (c=but))) (X.getD k' 0)=true)):=by
  refine⟨⟨s1,fun e _ k' hk2 hne=> ?_⟩⟩
  by_cases ek:k'=k
  ·subst ek;rw[hc0]at hne ⊢;exact s4 hne
  ·have e2:=s2 e
   have:=hS.out.2 e2 hbi k' (by omega) hne
   rw[e,←e2];exact this
 clear s1 s2 s3 s4 hS
 have s0:=hc0
 refine go ?_
 refine WX.regionU2 0 rfl rfl ?_
 have suX:SlI (inC (asideN 0 h6)) u X:=su
 have oX:OwnBo h (asideN 0 h6) r bs:=o6
 have sX:SlBo (inC (asideN 0 h6)) r bs:=o6.sl
 obtain⟨cs2,hcs2,pc2,hs2⟩:=slr_at sX (i:=c.toNat) hcb
 have hcs2:cs2=[.bool (bO bs c)]:=hcs2
 subst hcs2
 refine goU ?_
 rw[hc0]
 refine goU ?_
 cases hbc:bO bs c with
 |true=>
  rw[hbc]at hfin pc2
  refine goU ?_
  refine WU2.stBo (hS:=h6) (i:=c.toNat) (b:=true) oX e6 (by rw[e6.mark];exact hm) rfl hcb ?_
  intro h7 e7 o7 keep hn7
  refine go ?_
  exact loopK_normal (k+1) (by omega) ⟨e7,sln,by omega,ownN_keepBo ou keep hn7 hqv,_,o7,hfin⟩
 |false=>
  rw[hbc]at hfin pc2
  refine goU ?_
  rw[hc0]
  refine goU ?_
  refine WU2.stBo (hS:=h6) (i:=c.toNat) (b:= !decide (c=but)) oX e6 (by rw[e6.mark];exact hm) rfl hcb ?_
  intro h7 e7 o7 keep hn7
  refine go ?_
  exact loopK_normal (k+1) (by omega) ⟨e7,sln,by omega,ownN_keepBo ou keep hn7 hqv,_,o7,hfin⟩
end Go.Proofs.YtbhdfhiecgebnaaGreatDoor
namespace Go.Proofs.YtbhdfhiecgebnaaGreatDoor
open Go.Am
set_option linter.unusedVariables false
set_option linter.unusedSimpArgs false
set_option maxHeartbeats 1000000
def Ris (l:List Int):Prop:=∀ i,i+1<l.length→l.getD i 0<l.getD (i+1) 0
theorem Ris.tail {a:Int} {l:List Int} (h:Ris (a::l)):Ris l:=fun i hi=>by
 have:=h (i+1) (by simp only[List.length_cons];omega)
 simpa [List.getD]using this
theorem Ris.lt {l:List Int}:∀ {a:Int},Ris (a::l)→∀ x∈l,a<x:=by
 induction l with
 |nil=>intro a _ x hx;cases hx
 |cons b l ih=>
  intro a h x hx
  have h0:a<b:=by have:=h 0 (by simp);simpa [List.getD]using this
  rcases List.mem_cons.1 hx with rfl|hx
  ·exact h0
  ·have:=ih h.tail x hx;omega
theorem ris_ext {l k:List Int} (hl:Ris l) (hk:Ris k) (h:∀ x,x∈l↔x∈k):l=k:=by
 induction l generalizing k with
 |nil=>
  cases k with
  |nil=>rfl
  |cons b k=>have:=(h b).2 (by simp);cases this
 |cons a l ih=>
  cases k with
  |nil=>have:=(h a).1 (by simp);cases this
  |cons b k=>
   have hab:a=b:=by
    have h1:=(h a).1 (by simp)
    have h2:=(h b).2 (by simp)
    rcases List.mem_cons.1 h1 with e|h1
    ·exact e
    ·rcases List.mem_cons.1 h2 with e|h2
     ·exact e.symm
     ·have:=hl.lt b h2;have:=hk.lt a h1;omega
   subst hab
   congr 1
   refine ih hl.tail hk.tail fun x=>⟨fun hx=> ?_,fun hx=> ?_⟩
   ·rcases List.mem_cons.1 ((h x).1 (by simp[hx]))with e|h2
    ·have:=hl.lt x hx;omega
    ·exact h2
   ·rcases List.mem_cons.1 ((h x).2 (by simp[hx]))with e|h2
    ·have:=hk.lt x hx;omega
    ·exact h2
theorem ris_filter (p:Nat→Bool) (n:Nat):Ris (((List.range n).filter p).map fun (i:Nat)=>(i:Int)):=by
 intro i hi
 have hp:((List.range n).filter p).Pairwise (·<·):=List.Pairwise.filter _ List.pairwise_lt_range
 rw[List.length_map]at hi
 have:=List.pairwise_iff_getElem.1 hp i (i+1) (by omega) hi (by omega)
 simp only[List.getD_eq_getElem?_getD,List.getElem?_map,List.getElem?_eq_getElem hi,List.getElem?_eq_getElem (show i<((List.range n).filter p).length by omega),Option.map_some,Option.getD_some]
 omega
noncomputable def body20_0:ACode:=(.seq (.seq (.region [⟨some 9,none,(.mov (.tmp 5))⟩,⟨some 10,none,(.mov (.tmp 4))⟩,⟨some 11,none,(.len (.tmp 10))⟩,⟨some 12,none,(.bin .lss (.tmp 9) (.tmp 11))⟩]) (.cond (.tmp 12) .skip (.exit 0))) (.seq (.block 1 (.seq (.region [⟨some 15,none,(.mov (.tmp 4))⟩,⟨some 16,none,(.mov (.tmp 5))⟩,⟨some 17,none,(.idx 1 (.tmp 15) (.tmp 16))⟩,⟨some 18,none,(.load false 1 (.tmp 17))⟩]) (.cond (.tmp 18) (.region [⟨some 19,none,(.mov (.tmp 3))⟩,⟨some 20,none,(.mov (.tmp 5))⟩,⟨some 21,none,(.buildSlice 1 1 [(.int .i64 0)] [(0,1,(.tmp 20))])⟩,⟨some 22,none,(.append 1 (.tmp 19) (.tmp 21))⟩,⟨some 3,none,(.mov (.tmp 22))⟩]) .skip))) (.region [⟨some 13,none,(.mov (.tmp 5))⟩,⟨some 14,none,(.bin .add (.tmp 13) (.const (.int .i64 1)))⟩,⟨some 5,none,(.mov (.tmp 14))⟩])))
noncomputable def body20:ACode:=(.seq (.region [⟨some 2,none,(.mov (.const (.slice none 0 0)))⟩]) (.seq (.region [⟨some 3,none,(.mov (.const (.slice none 0 0)))⟩]) (.seq (.region [⟨some 6,none,(.mov (.tmp 0))⟩,⟨some 7,none,(.buildSlice 1 1 [(.int .i64 0)] [(0,1,(.const (.int .i64 0)))])⟩,⟨some 8,none,(.call (.func 32) [(.tmp 6),(.tmp 7),(.const (.int .i64 (-1)))])⟩,⟨some 4,none,(.mov (.tmp 8))⟩]) (.seq (.seq (.region [⟨some 5,none,(.mov (.const (.int .i64 0)))⟩]) (.block 0 (.loop body20_0))) (.seq (.region [⟨some 23,none,(.mov (.tmp 3))⟩,⟨some 2,none,(.mov (.tmp 23))⟩]) .ret)))))
set_option maxRecDepth 100000 in
theorem tab20:tb.code 20=some ⟨24,[(2,none)],body20⟩:=by kernel_rfl
def onL (bs:List Bool) (n:Nat):List Int:=((List.range n).filter fun (i:Nat)=>bO bs (i:Int)).map fun (i:Nat)=>(i:Int)
theorem onL_succ (bs:List Bool) (n:Nat):onL bs (n+1)=if bO bs (n:Int) then onL bs n++[(n:Int)] else onL bs n:=by
 unfold onL
 rw[List.range_succ,List.filter_append,List.map_append]
 by_cases h:bO bs (n:Int)=true
 ·rw[if_pos h,List.filter_cons_of_pos (by simpa using h)];rfl
 ·rw[if_neg h,List.filter_cons_of_neg (by simpa using h)];simp
theorem onL_len (bs:List Bool) (n:Nat):(onL bs n).length≤n:=by
 unfold onL
 rw[List.length_map]
 exact Nat.le_trans (List.length_filter_le _ _) (by simp)
theorem mem_onL {bs:List Bool} {n:Nat} {x:Int}:x∈onL bs n↔(0≤x∧x<(n:Int))∧bO bs x=true:=by
 unfold onL
 rw[List.mem_map]
 constructor
 ·rintro⟨i,hi,rfl⟩
  rw[List.mem_filter,List.mem_range]at hi
  exact⟨by omega,hi.2⟩
 ·rintro⟨h1,h2⟩
  refine⟨x.toNat,?_,by omega⟩
  rw[List.mem_filter,List.mem_range]
  refine⟨by omega,?_⟩
  rw[show ((x.toNat:Nat):Int)=x by omega];exact h2
theorem reached_ok (h:AHeap) (v:Value) (L:List LBlk) (hm:h.mark≤h.n) (sb:SlB h v L) (hL:L.length≤16) (hL0:0<L.length) (hin:∀ c,0≤c∧c<(L.length:Int)→∀ d∈nxL L c,0≤d∧d<(L.length:Int)):
  WC Tryz.prog tb 20 [v] h fun r h'=>(∃ l,OwnN h h' r l∧Ris l∧l.length≤16∧∀ c,c∈l↔Way (nxL L) 0 c)∧Ext h h':=by
 have hf0:∀ a∈([0]:List Int),0≤a∧a<(L.length:Int):=fun a ha=>by rw[List.mem_singleton]at ha;subst ha;omega
 have hrw:∀ c,Rch (nxL L) [0] (-1) c↔Way (nxL L) 0 c:=fun c=>by
  rw[rch_way hin hf0]
  exact⟨fun ⟨a,ha,w⟩=>by rw[List.mem_singleton]at ha;subst ha;exact w,fun w=>⟨0,by simp,w⟩⟩
 have hwin:∀ c,Way (nxL L) 0 c→0≤c∧c<(L.length:Int):=fun c w=>((hrw c).2 w).in hin hf0
 replace hwin:=Hid.mk hwin
 replace hrw:=Hid.mk hrw
 refine WC.of (nostub 20) tab20 ?_;simp only[mkTm,Nat.zero_add,Nat.reduceAdd]
 refine go ?_
 refine WO.bl [0] ?_
 intro v1 h1 e1 o1
 refine go ?_
 refine WO.con (come_ok h1 v v1 L [0] (-1) (mark_ext e1 hm) (SlB.ext sb e1) o1.sl hL hin hf0 (by simp)) ?_
 rintro r h2 ⟨⟨bs,ob,hbl,hbs⟩,e2⟩
 replace hbs:=Hid.mk hbs
 have e12:=e1.trans e2
 refine go ?_
 refine WX.loopA [9,10,11,12,15,16,17,18,19,20,21,22,3,13,14,5] (by kernel_rfl) (fun i=>L.length - i) (fun i t h3=>Ext h2 h3∧tmGet t 5=I i∧i≤L.length∧∃ w,tmGet t 3=w∧OwnN h2 h3 w (onL bs i)) 0 ?_ ?_
 ·exact⟨Ext.refl _,sl_,Nat.zero_le _,_,sl_,.inl ⟨rfl,rfl⟩⟩
 rintro i t h3 hsame ⟨e3,s5,hi,w,s3,ow⟩
 have sr:SlBo h3 r bs:=(ob.ext e3).sl
 refine go ?_
 refine WX.br (fun hb=> ?_) (fun hb=> ?_)<;>simp only[DB]at hb
 ·have hi':i<L.length:=by omega
  obtain⟨cs1,hcs1,pc1,hs1⟩:=slr_at sr (i:=i) (by omega)
  have hcs1:cs1=[.bool (bO bs i)]:=by
   have:bs.getD i default=bO bs i:=by unfold bO;rw[Int.toNat_natCast];rfl
   rw[←this];exact hcs1
  subst hcs1
  have hsucc:=onL_succ bs i
  have hln:=onL_len bs i
  cases hbi:bO bs i with
  |true=>
   rw[hbi]at pc1
   rw[hbi,if_pos rfl]at hsucc
   refine go ?_
   refine WO.bl [(i:Int)] ?_
   intro v4 h4 e4 o4
   refine go ?_
   refine WO.apN (ow.ext e4) o4.sl (e3.trans e4) (by simp only[List.length_singleton];omega) ?_
   intro v5 h5 e5 o5
   refine go ?_
   exact loopK_normal (i+1) (by omega) ⟨e5,sln,by omega,v5,sl_,by rw[hsucc];exact o5⟩
  |false=>
   rw[hbi]at pc1
   rw[hbi,if_neg (by simp)]at hsucc
   refine go ?_
   exact loopK_normal (i+1) (by omega) ⟨e3,sln,by omega,w,sl_,by rw[hsucc];exact ow⟩
 ·have hii:i=L.length:=by omega
  subst hii
  refine go ?_
  refine rt ?_
  have hln:=onL_len bs L.length
  refine⟨⟨_,ow.since e12,ris_filter _ _,by omega,fun c=> ?_⟩,e12.trans e3⟩
  rw[mem_onL]
  exact⟨fun hh=>(hrw.out c).1 ((hbs.out c hh.1).1 hh.2),fun w=>⟨hwin.out c w,(hbs.out c (hwin.out c w)).2 ((hrw.out c).2 w)⟩⟩
noncomputable def body34_0:ACode:=(.seq (.seq (.region [⟨some 29,none,(.mov (.tmp 11))⟩,⟨some 30,none,(.mov (.tmp 10))⟩,⟨some 31,none,(.len (.tmp 30))⟩,⟨some 32,none,(.bin .lss (.tmp 29) (.tmp 31))⟩]) (.cond (.tmp 32) .skip (.exit 0))) (.seq (.block 1 (.region [⟨some 36,none,(.mov (.tmp 0))⟩,⟨some 37,none,(.mov (.tmp 10))⟩,⟨some 38,none,(.mov (.tmp 11))⟩,⟨some 39,none,(.idx 1 (.tmp 37) (.tmp 38))⟩,⟨some 40,none,(.load false 1 (.tmp 39))⟩,⟨some 41,none,(.mov (.tmp 2))⟩,⟨some 42,none,(.mov (.tmp 3))⟩,⟨some 43,none,(.call (.func 34) [(.tmp 36),(.tmp 40),(.tmp 41),(.tmp 42)])⟩,⟨some 35,none,(.mov (.tmp 43))⟩,⟨some 44,none,(.extract (.tmp 35) 0)⟩,⟨some 45,none,(.extract (.tmp 35) 1)⟩,⟨some 2,none,(.mov (.tmp 44))⟩,⟨some 3,none,(.mov (.tmp 45))⟩])) (.region [⟨some 33,none,(.mov (.tmp 11))⟩,⟨some 34,none,(.bin .add (.tmp 33) (.const (.int .i64 1)))⟩,⟨some 11,none,(.mov (.tmp 34))⟩])))
noncomputable def body34:ACode:=(.seq (.region [⟨some 8,none,(.mov (.const (.slice none 0 0)))⟩,⟨some 9,none,(.mov (.const (.slice none 0 0)))⟩]) (.seq (.seq (.region [⟨some 12,none,(.mov (.tmp 2))⟩,⟨some 13,none,(.mov (.tmp 1))⟩,⟨some 14,none,(.call (.func 45) [(.tmp 12),(.tmp 13)])⟩]) (.cond (.tmp 14) (.seq (.region [⟨some 15,none,(.mov (.tmp 2))⟩,⟨some 16,none,(.mov (.tmp 3))⟩,⟨some 8,none,(.mov (.tmp 15))⟩,⟨some 9,none,(.mov (.tmp 16))⟩]) .ret) .skip)) (.seq (.region [⟨some 17,none,(.buildSlice 0 1 [(.int .i64 0)] [])⟩,⟨some 18,none,(.mov (.tmp 2))⟩,⟨some 19,none,(.append 1 (.tmp 17) (.tmp 18))⟩,⟨some 20,none,(.mov (.tmp 1))⟩,⟨some 21,none,(.buildSlice 1 1 [(.int .i64 0)] [(0,1,(.tmp 20))])⟩,⟨some 22,none,(.append 1 (.tmp 19) (.tmp 21))⟩,⟨some 2,none,(.mov (.tmp 22))⟩]) (.seq (.region [⟨some 23,none,(.mov (.tmp 0))⟩,⟨some 24,none,(.mov (.tmp 1))⟩,⟨some 25,none,(.idx 5 (.tmp 23) (.tmp 24))⟩,⟨some 26,none,(.fld 1 (.tmp 25))⟩,⟨some 27,none,(.load true 4 (.tmp 26))⟩,⟨some 28,none,(.call (.func 44) [(.tmp 27)])⟩,⟨some 10,none,(.mov (.tmp 28))⟩]) (.seq (.seq (.region [⟨some 11,none,(.mov (.const (.int .i64 0)))⟩]) (.block 0 (.loop body34_0))) (.seq (.region [⟨some 46,none,(.mov (.tmp 2))⟩,⟨some 47,none,(.buildSlice 0 1 [(.int .i64 0)] [])⟩,⟨some 48,none,(.mov (.tmp 3))⟩,⟨some 49,none,(.append 1 (.tmp 47) (.tmp 48))⟩,⟨some 50,none,(.mov (.tmp 1))⟩,⟨some 51,none,(.buildSlice 1 1 [(.int .i64 0)] [(0,1,(.tmp 50))])⟩,⟨some 52,none,(.append 1 (.tmp 49) (.tmp 51))⟩,⟨some 8,none,(.mov (.tmp 46))⟩,⟨some 9,none,(.mov (.tmp 52))⟩]) .ret))))))
set_option maxRecDepth 100000 in
theorem tab34:tb.code 34=some ⟨53,[(8,none),(9,none)],body34⟩:=by kernel_rfl
theorem mem_fst {es:List (Int×Int)} {b:Int}:b∈es.map (·.1)↔(es.lookup b).isSome:=by
 induction es with
 |nil=>simp
 |cons e es ih=>
  obtain⟨k,v⟩:=e
  simp only[List.map_cons,List.mem_cons,ih,List.lookup_cons]
  by_cases h:b=k
  ·subst h;simp
  ·have:(b == k)=false:=by simpa using h
   rw[this];simp[h]
theorem dfs_len1 {nx:Int→List Int} {N:Nat} (hin:∀ b,0≤b∧b<(N:Int)→∀ c∈nx b,0≤c∧c<(N:Int)):∀ (n:Nat) (b:Int) (s:DS),0≤b∧b<(N:Int)→(dfsB nx n b s).1.length+unb N (dfsB nx n b s).1≤s.1.length+unb N s.1:=by
 intro n
 induction n with
 |zero=>intro b s _;exact Nat.le_refl _
 |succ n ih=>
  intro b s hb
  unfold dfsB
  split
  ·exact Nat.le_refl _
  ·rename_i hns
   have hnone:s.1.lookup b=none:=by
    cases hc:s.1.lookup b with
    |none=>rfl
    |some w=>rw[hc]at hns;exact absurd rfl hns
   have:∀ (l:List Int) (s:DS),(∀ c∈l,0≤c∧c<(N:Int))→(l.foldl (fun s c=>dfsB nx n c s) s).1.length+unb N (l.foldl (fun s c=>dfsB nx n c s) s).1≤s.1.length+unb N s.1:=by
    intro l
    induction l with
    |nil=>intro s _;exact Nat.le_refl _
    |cons x l ihl=>intro s hl;exact Nat.le_trans (ihl _ fun c hc=>hl c (by simp[hc])) (ih x s (hl x (by simp)))
   have h1:=this (nx b) (s.1++[(b,(s.1.length:Int))],s.2) (hin b hb)
   have h2:=unb_lt (v:=(s.1.length:Int)) hnone hb
   simp only[List.length_append,List.length_singleton]at *
   omega
theorem dfsL_bounds {nx:Int→List Int} {N n:Nat} (hin:∀ b,0≤b∧b<(N:Int)→∀ c∈nx b,0≤c∧c<(N:Int)):∀ (m:List Int) (s:DS),(∀ c∈m,0≤c∧c<(N:Int))→(dfsL nx n m s).2.length+unb N (dfsL nx n m s).1≤s.2.length+unb N s.1∧(dfsL nx n m s).1.length+unb N (dfsL nx n m s).1≤s.1.length+unb N s.1:=by
 intro m
 induction m with
 |nil=>intro s _;exact⟨Nat.le_refl _,Nat.le_refl _⟩
 |cons x m ih=>
  intro s hm
  obtain⟨i1,i2⟩:=ih (dfsB nx n x s) fun c hc=>hm c (by simp[hc])
  exact⟨Nat.le_trans i1 (dfs_bound hin n x s (hm x (by simp))),Nat.le_trans i2 (dfs_len1 hin n x s (hm x (by simp)))⟩
theorem through_ok (v:Value) (L:List LBlk) (hL:L.length≤16) (hin:∀ c,0≤c∧c<(L.length:Int)→∀ d∈nxL L c,0≤d∧d<(L.length:Int)):∀ (n:Nat) (h:AHeap) (vb vo:Value) (b:Int) (s:DS),SlB h v L→SlI h vb (s.1.map (·.1))→SlI h vo s.2→0≤b∧b<(L.length:Int)→unb L.length s.1≤n→s.2.length+unb L.length s.1≤L.length→s.1.length+unb L.length s.1≤L.length→
  WC Tryz.prog tb 34 [v,I b,vb,vo] h fun r h'=>(∃ rb ro,r= .tuple #[rb,ro]∧SlI h' rb ((dfsB (nxL L) n b s).1.map (·.1))∧SlI h' ro (dfsB (nxL L) n b s).2)∧Ext h h':=by
 replace hin:=Hid.mk hin
 intro n
 induction n with
 |zero=>
  intro h vb vo b s sb svb svo hb hu hd hd1
  have hsome:=unb_zero (Nat.le_zero.1 hu) hb
  have hmem:b∈s.1.map (·.1):=mem_fst.2 hsome
  refine WC.of (nostub 34) tab34 ?_;simp only[mkTm,Nat.zero_add,Nat.reduceAdd]
  refine go ?_
  refine WO.con (in_ok h vb _ b svb (by rw[List.length_map];omega)) ?_
  rintro _ _ ⟨rfl,rfl⟩
  refine go ?_
  refine rt ?_
  exact⟨⟨_,_,rfl,svb,svo⟩,Ext.refl _⟩
 |succ n IH=>
  intro h vb vo b s sb svb svo hb hu hd hd1
  refine WC.of (nostub 34) tab34 ?_;simp only[mkTm,Nat.zero_add,Nat.reduceAdd]
  refine go ?_
  refine WO.con (in_ok h vb _ b svb (by rw[List.length_map];omega)) ?_
  rintro _ _ ⟨rfl,rfl⟩
  by_cases hmem:b∈s.1.map (·.1)
  ·rw[dfsB_some (mem_fst.1 hmem)]
   refine go ?_
   refine rt ?_
   exact⟨⟨_,_,rfl,svb,svo⟩,Ext.refl _⟩
  have hnone:s.1.lookup b=none:=by
   cases hc:s.1.lookup b with
   |none=>rfl
   |some w=>exact absurd (mem_fst.2 (by rw[hc];rfl)) hmem
  have hlt:=unb_lt (v:=(s.1.length:Int)) hnone hb
  obtain⟨i,rfl⟩:∃ i:Nat,b=i:=⟨b.toNat,by omega⟩
  refine go ?_
  refine WO.bl [] ?_
  intro v1 h1 e1 o1
  refine go ?_
  refine WO.apN (h0:=h) (.inr o1) (svb.ext e1) e1 (by simp;omega) ?_
  intro v2 h2 e2 o2
  rw[List.nil_append]at o2
  refine go ?_
  refine WO.bl [(i:Int)] ?_
  intro v3 h3 e3 o3
  refine go ?_
  refine WO.apN (o2.ext e3) o3.sl (e2.trans e3) (by simp;omega) ?_
  intro v4 h4 e4 o4
  have sb4:=SlB.ext sb e4
  have so4:=svo.ext e4
  have hs4:SlI h4 v4 ((s.1++[((i:Int),(s.1.length:Int))]).map (·.1)):=by rw[List.map_append];exact o4.sl
  obtain⟨cs,⟨vi,rfl,si,hsi⟩,pc,hs⟩:=slr_at sb4 (i:=i) (by omega)
  obtain⟨_,_,_,rfl⟩:=slr_shape si
  refine go ?_
  refine WO.con (to_ok h4 (L.getD i default).fin) ?_
  rintro u h5 ⟨ou,e5⟩
  have hnx:nextL (L.getD i default).fin=nxL L (i:Int):=by unfold nxL;rw[Int.toNat_natCast]
  rw[hnx]at ou
  have su:=ou.sl
  have hul:(nxL L (i:Int)).length≤2:=next_len _
  have hr:=hin.out i hb
  have hdf:dfsB (nxL L) (n+1) (i:Int) s=((dfsL (nxL L) n (nxL L (i:Int)) (s.1++[((i:Int),(s.1.length:Int))],s.2)).1,(dfsL (nxL L) n (nxL L (i:Int)) (s.1++[((i:Int),(s.1.length:Int))],s.2)).2++[(i:Int)]):=by
   conv=>lhs;unfold dfsB
   rw[if_neg (by rw[hnone];exact Bool.noConfusion)];rfl
  rw[hdf]
  have hs1:s.2.length+unb L.length (s.1++[((i:Int),(s.1.length:Int))])≤L.length:=by omega
  have hs2:(s.1++[((i:Int),(s.1.length:Int))]).length+unb L.length (s.1++[((i:Int),(s.1.length:Int))])≤L.length:=by simp only[List.length_append,List.length_singleton];omega
  have hu2:unb L.length (s.1++[((i:Int),(s.1.length:Int))])≤n:=by omega
  have hs4:=hs4.ext e5
  have so5:=so4.ext e5
  clear hdf hlt hmem o4 o2 o1 o3 pc
  generalize (s.1++[((i:Int),(s.1.length:Int))])=s1 at *
  generalize nxL L (i:Int)=X at *
  have hbds:=Hid.mk (dfsL_bounds (n:=n) hin.out)
  replace hr:=Hid.mk hr
  refine go ?_
  refine WX.loopA [29,30,31,32,36,37,38,39,40,41,42,43,35,44,45,2,3,33,34,11] (by kernel_rfl) (fun k=>X.length - k) (fun k t h6=>Ext h5 h6∧tmGet t 11=I k∧k≤X.length∧∃ wb wo,tmGet t 2=wb∧tmGet t 3=wo∧SlI h6 wb ((dfsL (nxL L) n (X.take k) (s1,s.2)).1.map (·.1))∧SlI h6 wo (dfsL (nxL L) n (X.take k) (s1,s.2)).2) 0 ?_ ?_
  ·exact⟨Ext.refl _,sl_,Nat.zero_le _,_,_,sl_,sl_,hs4,so5⟩
  rintro k t6 h6 hsame ⟨e6,s11,hk,wb,wo,s2,s3,swb,swo⟩
  have su6:=su.ext e6
  have sb6:=SlB.ext sb4 (e5.trans e6)
  have hmono:unb L.length (dfsL (nxL L) n (X.take k) (s1,s.2)).1≤n:=Nat.le_trans (unb_mono fun c hc=>dfsL_mono _ _ hc) hu2
  have hb2:=hbds.out (X.take k) (s1,s.2) fun c hc=>hr.out c (List.mem_of_mem_take hc)
  simp only at hb2
  refine go ?_
  refine WX.br (fun hc=> ?_) (fun hc=> ?_)<;>simp only[DB]at hc
  ·have hk':k<X.length:=by omega
   have e:dfsL (nxL L) n (X.take (k+1)) (s1,s.2)=dfsB (nxL L) n (X.getD k 0) (dfsL (nxL L) n (X.take k) (s1,s.2)):=by
    unfold dfsL
    rw[List.take_add_one,List.foldl_append];simp[List.getD,List.getElem?_eq_getElem hk']
   refine go ?_
   refine WO.con (IH h6 wb wo (X.getD k 0) _ sb6 swb swo (hr.out _ (getD_mem hk')) hmono (by omega) (by omega)) ?_
   rintro _ h7 ⟨⟨rb,ro,rfl,srb,sro⟩,e7⟩
   rw[←e]at srb sro
   refine go ?_
   exact loopK_normal (k+1) (by omega) ⟨e6.trans e7,sln,by omega,rb,ro,sl_,sl_,srb,sro⟩
  ·have hkk:k=X.length:=by omega
   subst hkk
   rw[List.take_length]at swb swo hb2
   refine go ?_
   refine WO.bl [] ?_
   intro v7 h7 e7 o7
   refine go ?_
   refine WO.apN (h0:=h6) (.inr o7) (swo.ext e7) e7 (by simp;omega) ?_
   intro v8 h8 e8 o8
   rw[List.nil_append]at o8
   refine go ?_
   refine WO.bl [(i:Int)] ?_
   intro v9 h9 e9 o9
   refine go ?_
   refine WO.apN (o8.ext e9) o9.sl (e8.trans e9) (by simp;omega) ?_
   intro v10 h10 e10 o10
   refine go ?_
   refine rt ?_
   exact⟨⟨_,_,rfl,swb.ext e10,o10.sl⟩,((e4.trans e5).trans e6).trans e10⟩
noncomputable def body22_0:ACode:=(.seq (.seq (.region [⟨some 15,none,(.mov (.tmp 6))⟩,⟨some 16,none,(.bin .geq (.tmp 15) (.const (.int .i64 0)))⟩]) (.cond (.tmp 16) .skip (.exit 0))) (.seq (.block 1 (.region [⟨some 19,none,(.mov (.tmp 5))⟩,⟨some 20,none,(.mov (.tmp 4))⟩,⟨some 21,none,(.mov (.tmp 6))⟩,⟨some 22,none,(.idx 1 (.tmp 20) (.tmp 21))⟩,⟨some 23,none,(.load false 1 (.tmp 22))⟩,⟨some 24,none,(.buildSlice 1 1 [(.int .i64 0)] [(0,1,(.tmp 23))])⟩,⟨some 25,none,(.append 1 (.tmp 19) (.tmp 24))⟩,⟨some 5,none,(.mov (.tmp 25))⟩])) (.region [⟨some 17,none,(.mov (.tmp 6))⟩,⟨some 18,none,(.bin .sub (.tmp 17) (.const (.int .i64 1)))⟩,⟨some 6,none,(.mov (.tmp 18))⟩])))
noncomputable def body22:ACode:=(.seq (.region [⟨some 2,none,(.mov (.const (.slice none 0 0)))⟩]) (.seq (.region [⟨some 8,none,(.mov (.tmp 0))⟩,⟨some 9,none,(.call (.func 34) [(.tmp 8),(.const (.int .i64 0)),(.const (.slice none 0 0)),(.const (.slice none 0 0))])⟩,⟨some 7,none,(.mov (.tmp 9))⟩,⟨some 10,none,(.extract (.tmp 7) 0)⟩,⟨some 11,none,(.extract (.tmp 7) 1)⟩,⟨some 3,none,(.mov (.tmp 10))⟩,⟨some 4,none,(.mov (.tmp 11))⟩]) (.seq (.region [⟨some 5,none,(.mov (.const (.slice none 0 0)))⟩]) (.seq (.seq (.region [⟨some 12,none,(.mov (.tmp 4))⟩,⟨some 13,none,(.len (.tmp 12))⟩,⟨some 14,none,(.bin .sub (.tmp 13) (.const (.int .i64 1)))⟩,⟨some 6,none,(.mov (.tmp 14))⟩]) (.block 0 (.loop body22_0))) (.seq (.region [⟨some 26,none,(.mov (.tmp 5))⟩,⟨some 2,none,(.mov (.tmp 26))⟩]) .ret)))))
set_option maxRecDepth 100000 in
theorem tab22:tb.code 22=some ⟨27,[(2,none)],body22⟩:=by kernel_rfl
theorem ordered_ok (h:AHeap) (v:Value) (L:List LBlk) (sb:SlB h v L) (hL:L.length≤16) (hL0:0<L.length) (hin:∀ c,0≤c∧c<(L.length:Int)→∀ d∈nxL L c,0≤d∧d<(L.length:Int)):
  WC Tryz.prog tb 22 [v] h fun r h'=>OwnN h h' r ((dfsB (nxL L) L.length 0 ([],[])).2.reverse)∧(dfsB (nxL L) L.length 0 ([],[])).2.length≤16∧Ext h h':=by
 have hun:unb L.length []≤L.length:=by
  unfold unb
  exact Nat.le_trans (List.length_filter_le _ _) (by simp)
 have hbd:=dfs_bound hin L.length 0 ([],[]) (by omega)
 simp only[List.length_nil]at hbd
 refine WC.of (nostub 22) tab22 ?_;simp only[mkTm,Nat.zero_add,Nat.reduceAdd]
 refine go ?_
 refine WO.con (through_ok v L hL hin L.length h _ _ 0 ([],[]) sb (SlI.nil _) (SlI.nil _) (by omega) hun (by simp only[List.length_nil];omega) (by simp only[List.length_nil];omega)) ?_
 rintro _ h1 ⟨⟨rb,ro,rfl,srb,sro⟩,e1⟩
 generalize (dfsB (nxL L) L.length 0 ([],[])).2=D at *
 refine go ?_
 refine WX.loopA [15,16,19,20,21,22,23,24,25,5,17,18,6] (by kernel_rfl) (fun i=>D.length - i) (fun i t h2=>Ext h1 h2∧tmGet t 6=I ((D.length:Int) - 1 - i)∧i≤D.length∧∃ w,tmGet t 5=w∧OwnN h1 h2 w (D.reverse.take i)) 0 ?_ ?_
 ·exact⟨Ext.refl _,by have:I ((D.length:Int) - 1 - ((0:Nat):Int))=I ((D.length:Int) - 1):=by simp
                      rw[this];exact sl_,Nat.zero_le _,_,sl_,.inl ⟨rfl,rfl⟩⟩
 rintro i t h2 hsame ⟨e2,s6,hi,w,s5,ow⟩
 have sro2:=sro.ext e2
 refine go ?_
 refine WX.br (fun hc=> ?_) (fun hc=> ?_)<;>simp only[DB]at hc
 ·have hi':i<D.length:=by omega
  have htk:(D.reverse.take i).length≤i:=List.length_take_le _ _
  have hidx:((D.length:Int) - 1 - (i:Int)).toNat=D.length - 1 - i:=by omega
  have hrt:=rev_take D hi'
  refine go ?_
  rw[hidx]
  refine go ?_
  refine WO.bl [D.getD (D.length - 1 - i) 0] ?_
  intro v3 h3 e3 o3
  refine go ?_
  refine WO.apN (ow.ext e3) o3.sl (e2.trans e3) (by simp only[List.length_singleton];omega) ?_
  intro v4 h4 e4 o4
  refine go ?_
  refine loopK_normal (i+1) (by omega) ⟨e4,?_,by omega,v4,sl_,by rw[hrt];exact o4⟩
  have:I ((D.length:Int) - 1 - ((i+1:Nat):Int))=I ((D.length:Int) - 1 - (i:Int) - 1):=by congr 1;omega
  rw[this];exact sl_
 ·have hii:i=D.length:=by omega
  subst hii
  rw[←List.length_reverse,List.take_length]at ow
  refine go ?_
  refine rt ?_
  exact⟨ow.since e1,by omega,e1.trans e2⟩
end Go.Proofs.YtbhdfhiecgebnaaGreatDoor
namespace Go.Proofs.YtbhdfhiecgebnaaGreatDoor
open Go.Am
set_option linter.unusedVariables false
set_option linter.unusedSimpArgs false
set_option maxHeartbeats 1000000
structure En (h:AHeap) (vt vf:Value) (T:List LType) (F:List LFn):Prop where
 tt:Tbl h
 hm:h.mark≤h.n
 sm:Small T F
 si:SmallI F
 st:SlT h vt T
 sf:SlF h vf F
theorem En.ext {h h':AHeap} {vt vf:Value} {T:List LType} {F:List LFn} (E:En h vt vf T F) (e:Ext h h'):En h' vt vf T F:=
 ⟨E.tt.ext e,mark_ext e E.hm,E.sm,E.si,E.st.ext e,SlF.ext E.sf e⟩
theorem En.inC {h:AHeap} {vt vf:Value} {T:List LType} {F:List LFn} (E:En h vt vf T F):En (inC (asideN 0 h)) vt vf T F:=⟨E.tt,Nat.le_refl _,E.sm,E.si,E.st,E.sf⟩
noncomputable def body60_0:ACode:=(.seq (.seq (.region [⟨some 11,none,(.mov (.tmp 4))⟩,⟨some 12,none,(.fld 1 (.tmp 1))⟩,⟨some 13,none,(.load false 1 (.tmp 12))⟩,⟨some 14,none,(.len (.tmp 13))⟩,⟨some 15,none,(.bin .lss (.tmp 11) (.tmp 14))⟩]) (.cond (.tmp 15) .skip (.exit 0))) (.seq (.block 1 (.seq (.regionC [(⟨some 18,none,(.load true 2 (.tmp 1))⟩,[]),(⟨some 19,none,(.fld 1 (.tmp 1))⟩,[]),(⟨some 20,none,(.load false 1 (.tmp 19))⟩,[]),(⟨some 21,none,(.mov (.tmp 4))⟩,[]),(⟨some 22,none,(.idx 2 (.tmp 20) (.tmp 21))⟩,[]),(⟨some 23,none,(.load true 2 (.tmp 22))⟩,[]),(⟨some 24,none,(.call (.func 74) [(.tmp 18),(.tmp 23)])⟩,[]),(⟨some 25,none,(.un .not (.tmp 24))⟩,[])]) (.cond (.tmp 25) (.seq (.region [⟨some 2,none,(.mov (.const (.int .i64 60)))⟩]) .ret) .skip))) (.region [⟨some 16,none,(.mov (.tmp 4))⟩,⟨some 17,none,(.bin .add (.tmp 16) (.const (.int .i64 1)))⟩,⟨some 4,none,(.mov (.tmp 17))⟩])))
noncomputable def body60:ACode:=(.seq (.region [⟨some 1,none,(.box (.tmp 0))⟩,⟨some 2,none,(.mov (.const (.int .i64 0)))⟩]) (.seq (.region [⟨some 5,none,(.fld 0 (.tmp 1))⟩,⟨some 6,none,(.load false 1 (.tmp 5))⟩,⟨some 7,none,(.call (.func 73) [(.tmp 6)])⟩,⟨some 3,none,(.mov (.tmp 7))⟩]) (.seq (.seq (.region [⟨some 8,none,(.mov (.tmp 3))⟩,⟨some 9,none,(.bin .neq (.tmp 8) (.const (.int .i64 0)))⟩]) (.cond (.tmp 9) (.seq (.region [⟨some 10,none,(.mov (.tmp 3))⟩,⟨some 2,none,(.mov (.tmp 10))⟩]) .ret) .skip)) (.seq (.seq (.region [⟨some 4,none,(.mov (.const (.int .i64 0)))⟩]) (.block 0 (.loop body60_0))) (.seq (.seq (.region [⟨some 26,none,(.fld 1 (.tmp 1))⟩,⟨some 27,none,(.load false 1 (.tmp 26))⟩,⟨some 28,none,(.len (.tmp 27))⟩,⟨some 29,none,(.bin .lss (.tmp 28) (.const (.int .i64 1)))⟩,⟨some 30,none,(.mov (.tmp 29))⟩,⟨some 31,some (30,false),(.fld 1 (.tmp 1))⟩,⟨some 32,some (30,false),(.load false 1 (.tmp 31))⟩,⟨some 33,some (30,false),(.len (.tmp 32))⟩,⟨some 34,some (30,false),(.bin .gtr (.tmp 33) (.const (.int .i64 8)))⟩,⟨some 35,none,(.pick (.tmp 30) (.const (.bool true)) (.tmp 34))⟩]) (.cond (.tmp 35) (.seq (.region [⟨some 2,none,(.mov (.const (.int .i64 60)))⟩]) .ret) .skip)) (.seq (.region [⟨some 2,none,(.mov (.const (.int .i64 0)))⟩]) .ret))))))
set_option maxRecDepth 100000 in
theorem tab60:tb.code 60=some ⟨36,[(2,none)],body60⟩:=by kernel_rfl
theorem rCheck6_ok (h:AHeap) (vt vf:Value) (T:List LType) (F:List LFn) (E:En h vt vf T F):
  WC Tryz.prog tb 60 [.agg #[vt,vf]] h fun r h'=>r=I (progL T F)∧Ext h h':=by
 have st:=E.st
 have sf:=E.sf
 have hT:=E.sm.types
 have hF:=E.sm.funcs
 obtain⟨ta,tn,tk,rfl⟩:=slr_shape st
 obtain⟨ga,gn,gk,rfl⟩:=slr_shape sf
 refine WC.of (nostub 60) tab60 ?_;simp only[mkTm,Nat.zero_add,Nat.reduceAdd]
 refine go ?_
 refine WO.bx ?_
 intro p h1 e1 o1
 have st1:=st.ext e1
 have sf1:=SlF.ext sf e1
 refine go ?_
 refine WO.con (rCheck_ok h1 _ T st1 (by omega) (fun x hx=>by have:=E.sm.parts x hx;omega)) ?_
 rintro _ h2 ⟨rfl,e2⟩
 have o1:=o1.ext e2
 have e02:=e1.trans e2
 by_cases hc:checkL T=0
 case neg=>
  have hc':checkL T≠0:=hc
  refine go ?_
  refine rt ?_
  exact⟨by unfold progL;rw[if_pos hc];rfl,e02⟩
 have E2:=E.ext e02
 rw[hc]
 have hp0:progL T F=if (!belowL ((F.length:Int) - 1) 8||F.any fun f=> !fnL T F.length f) then 60 else 0:=by unfold progL;rw[if_neg (fun e=>e hc)]
 refine go ?_
 refine WX.loopA [11,12,13,14,15,18,19,20,21,22,23,24,25,2,16,17,4] (by kernel_rfl) (fun i=>F.length - i) (fun i t h3=>Ext h2 h3∧tmGet t 4=I i∧i≤F.length∧Hid (∀ j,j<i→fnL T F.length (F.getD j default)=true)) 0 ?_ ?_
 ·exact⟨Ext.refl _,sl_,Nat.zero_le _,⟨fun j hj=>absurd hj (Nat.not_lt_zero _)⟩⟩
 rintro i t h3 hsame ⟨e3,s4,hi,hall⟩
 have o1:=o1.ext e3
 have e03:=e02.trans e3
 have E3:=E2.ext e3
 have sf3:=E3.sf
 refine go ?_
 refine WX.br (fun hd=> ?_) (fun hd=> ?_)<;>simp only[DB]at hd
 ·have hi':i<F.length:=by omega
  have hmem:=getD_memR (l:=F) hi'
  refine go ?_
  refine WX.regionU2 0 rfl rfl ?_
  have o1X:OwnC h (inC (asideN 0 h3)) p [_,_]:=o1
  have sfX:SlF (inC (asideN 0 h3)) _ F:=sf3
  obtain⟨cs,⟨vb,rfl,sb,hlb⟩,pc,hs⟩:=slr_at sfX hi'
  obtain⟨ba,bn,bk,rfl⟩:=slr_shape sb
  refine goU ?_
  refine WO.con (rmayFunc_ok (inC (asideN 0 h3)) _ _ T F (F.getD i default) [I (F.getD i default).sig,.slice ba bn bk] E.sm E.si hmem (Nat.le_refl _) E3.inC.st sfX ⟨_,rfl,sb,hlb⟩) ?_
  rintro _ h4 ⟨rfl,e4⟩
  refine WO.nil ?_
  refine uK2_e e4 reads_call ?_
  refine goU ?_
  have e5:Ext h3 (outC h3 (inC h4)):=e4.reg
  obtain⟨h5,hh5⟩:∃ h5,h5=outC h3 (inC h4):=⟨_,rfl⟩
  rw[←hh5]at e5
  rw[←hh5]
  clear o1X sfX pc e4 hh5 sb
  cases hfn:fnL T F.length (F.getD i default)with
  |false=>
   refine go ?_
   refine rt ?_
   refine⟨?_,e03.trans e5⟩
   rw[hp0,List.any_eq_true.2 ⟨_,hmem,by rw[hfn];rfl⟩,Bool.or_true];rfl
  |true=>
   refine go ?_
   refine loopK_normal (i+1) (by omega) ⟨e3.trans e5,sln,by omega,⟨fun j hj=> ?_⟩⟩
   by_cases e:j=i
   ·subst e;exact hfn
   ·exact hall.out j (by omega)
 ·have hany:(F.any fun f=> !fnL T F.length f)=false:=any_false fun f hf=>by
   obtain⟨j,hj,rfl⟩:=mem_getDR hf
   rw[hall.out j (by omega)];rfl
  rw[hany,Bool.or_false]at hp0
  by_cases c1:(F.length:Int)<1
  ·refine go ?_
   refine rt ?_
   refine⟨?_,e03⟩
   have:belowL ((F.length:Int) - 1) 8=false:=by unfold belowL;simp;omega
   rw[hp0,this];rfl
  by_cases c2:8<(F.length:Int)
  ·refine go ?_
   refine rt ?_
   refine⟨?_,e03⟩
   have:belowL ((F.length:Int) - 1) 8=false:=by unfold belowL;simp;omega
   rw[hp0,this];rfl
  ·refine go ?_
   refine rt ?_
   refine⟨?_,e03⟩
   have:belowL ((F.length:Int) - 1) 8=true:=by unfold belowL;simp;omega
   rw[hp0,this];rfl
noncomputable def body42:ACode:=(.seq (.region [⟨some 2,none,(.box (.tmp 0))⟩,⟨some 4,none,(.mov (.const (.int .i64 0)))⟩]) (.seq (.region [⟨some 6,none,(.load true 2 (.tmp 2))⟩,⟨some 7,none,(.call (.func 60) [(.tmp 6)])⟩,⟨some 5,none,(.mov (.tmp 7))⟩]) (.seq (.seq (.region [⟨some 8,none,(.mov (.tmp 5))⟩,⟨some 9,none,(.bin .eql (.tmp 8) (.const (.int .i64 0)))⟩,⟨some 10,none,(.mov (.tmp 9))⟩,⟨some 11,some (10,true),(.mov (.tmp 1))⟩,⟨some 12,some (10,true),(.bin .lss (.tmp 11) (.const (.int .i64 0)))⟩,⟨some 13,some (10,true),(.mov (.tmp 12))⟩,⟨some 14,some (13,false),(.mov (.tmp 1))⟩,⟨some 15,some (13,false),(.fld 1 (.tmp 2))⟩,⟨some 16,some (13,false),(.load false 1 (.tmp 15))⟩,⟨some 17,some (13,false),(.len (.tmp 16))⟩,⟨some 18,some (13,false),(.bin .geq (.tmp 14) (.tmp 17))⟩,⟨some 19,some (10,true),(.pick (.tmp 13) (.const (.bool true)) (.tmp 18))⟩,⟨some 20,none,(.pick (.tmp 10) (.tmp 19) (.const (.bool false)))⟩]) (.cond (.tmp 20) (.seq (.region [⟨some 4,none,(.mov (.const (.int .i64 2)))⟩]) .ret) .skip)) (.seq (.region [⟨some 21,none,(.mov (.tmp 5))⟩,⟨some 4,none,(.mov (.tmp 21))⟩]) .ret))))
set_option maxRecDepth 100000 in
theorem tab42:tb.code 42=some ⟨22,[(4,none)],body42⟩:=by kernel_rfl
theorem rasked6_ok (h:AHeap) (vt vf:Value) (T:List LType) (F:List LFn) (f:Int) (E:En h vt vf T F):
  WC Tryz.prog tb 42 [.agg #[vt,vf],I f] h fun r h'=>r=I (askedL T F f).2∧Ext h h':=by
 have hF:=E.sm.funcs
 refine WC.of (nostub 42) tab42 ?_;simp only[mkTm,Nat.zero_add,Nat.reduceAdd]
 refine go ?_
 refine WO.bx ?_
 intro p h1 e1 o1
 have E1:=E.ext e1
 refine go ?_
 refine WO.con (rCheck6_ok h1 vt vf T F E1) ?_
 rintro _ h2 ⟨rfl,e2⟩
 have o1:=o1.ext e2
 have e02:=e1.trans e2
 have sf2:=(E1.ext e2).sf
 obtain⟨ta,tn,tk,rfl⟩:=slr_shape E.st
 obtain⟨ga,gn,gk,rfl⟩:=slr_shape sf2
 unfold askedL
 by_cases hc:progL T F=0
 case neg=>
  have hc':progL T F≠0:=hc
  rw[if_pos hc]
  refine go ?_
  refine rt ?_
  exact⟨rfl,e02⟩
 rw[if_neg (fun e=>e hc),hc]
 by_cases c1:f<0
 ·have hb:belowL f F.length=false:=by unfold belowL;simp;omega
  refine go ?_
  refine rt ?_
  exact⟨by rw[hb];rfl,e02⟩
 by_cases c2:(F.length:Int)≤f
 ·have hb:belowL f F.length=false:=by unfold belowL;simp;omega
  refine go ?_
  refine rt ?_
  exact⟨by rw[hb];rfl,e02⟩
 ·have hb:belowL f F.length=true:=by unfold belowL;simp;omega
  refine go ?_
  refine rt ?_
  exact⟨by rw[hb];rfl,e02⟩
theorem asked_in {T:List LType} {F:List LFn} {f:Int} (h:(askedL T F f).2=0):0≤f∧f<(F.length:Int)∧progL T F=0∧askedL T F f=(((T.getD (F.getD f.toNat default).sig.toNat default).parts.length:Int),0):=by
 unfold askedL at h ⊢
 split at h
 ·rename_i hp;exact absurd h hp
 ·rename_i hp
  rw[if_neg hp]
  split at h
  ·rename_i hb
   have hb2:=hb
   unfold belowL at hb2;simp at hb2
   exact⟨hb2.1,hb2.2,by omega,by rw[if_pos hb]⟩
  ·cases h
noncomputable def body43:ACode:=(.seq (.region [⟨some 2,none,(.box (.tmp 0))⟩,⟨some 4,none,(.mov (.const (.int .i64 0)))⟩]) (.seq (.regionC [(⟨some 5,none,(.load true 2 (.tmp 2))⟩,[]),(⟨some 6,none,(.fld 1 (.tmp 2))⟩,[]),(⟨some 7,none,(.load false 1 (.tmp 6))⟩,[]),(⟨some 8,none,(.mov (.tmp 1))⟩,[]),(⟨some 9,none,(.idx 2 (.tmp 7) (.tmp 8))⟩,[]),(⟨some 10,none,(.load true 2 (.tmp 9))⟩,[]),(⟨some 11,none,(.call (.func 61) [(.tmp 5),(.tmp 10)])⟩,[]),(⟨some 12,none,(.fld 1 (.tmp 2))⟩,[]),(⟨some 13,none,(.load false 1 (.tmp 12))⟩,[6]),(⟨some 14,none,(.mov (.tmp 1))⟩,[]),(⟨some 15,none,(.idx 2 (.tmp 13) (.tmp 14))⟩,[]),(⟨some 16,none,(.fld 1 (.tmp 15))⟩,[]),(⟨some 17,none,(.load false 1 (.tmp 16))⟩,[6]),(⟨some 18,none,(.call (.func 62) [(.tmp 17)])⟩,[]),(⟨some 19,none,(.bin .add (.tmp 11) (.tmp 18))⟩,[]),(⟨some 4,none,(.mov (.tmp 19))⟩,[])]) .ret))
set_option maxRecDepth 100000 in
theorem tab43:tb.code 43=some ⟨20,[(4,none)],body43⟩:=by kernel_rfl
theorem rcount_ok (h:AHeap) (vt vf:Value) (T:List LType) (F:List LFn) (f:Int) (E:En h vt vf T F) (hf:0≤f∧f<(F.length:Int)) (hsig:0≤(F.getD f.toNat default).sig∧(F.getD f.toNat default).sig<(T.length:Int)):
  WC Tryz.prog tb 43 [.agg #[vt,vf],I f] h fun r h'=>r=I (((T.getD (F.getD f.toNat default).sig.toNat default).parts.length:Int)+manyL (F.getD f.toNat default).blocks)∧Ext h h':=by
 have hF:=E.sm.funcs
 have hmem:=getD_memR (l:=F) (i:=f.toNat) (by omega)
 have hB:=E.sm.blocks _ hmem
 have hI:=E.sm.ins _ hmem
 have hmany:=manyL_le hI
 have hpart:=E.sm.parts _ (getD_memR (l:=T) (i:=(F.getD f.toNat default).sig.toNat) (by omega))
 obtain⟨ta,tn,tk,rfl⟩:=slr_shape E.st
 obtain⟨ga,gn,gk,rfl⟩:=slr_shape E.sf
 refine WC.of (nostub 43) tab43 ?_;simp only[mkTm,Nat.zero_add,Nat.reduceAdd]
 refine go ?_
 refine WO.bx ?_
 intro p h1 e1 o1
 have E1:=E.ext e1
 have sf1:=E1.sf
 refine go ?_
 refine WX.regionU2 0 rfl rfl ?_
 have o1X:OwnC h (inC (asideN 0 h1)) p [_,_]:=o1
 have sfX:SlF (inC (asideN 0 h1)) _ F:=sf1
 obtain⟨cs,⟨vb,rfl,sb,hlb⟩,px,hs⟩:=slr_atX sf1 (i:=f.toNat) (by omega)
 have pcX:=(px h1 (Ext.refl _)).2
 have pcX:Piece (inC (asideN 0 h1)) (.slice ga gn gk) (f.toNat * 2) [I (F.getD f.toNat default).sig,vb]:=pcX
 obtain⟨ba,bn,bk,rfl⟩:=slr_shape sb
 obtain⟨qa,qn,qk,hqv,hqb⟩:=slr_block sf1 (i:=f.toNat) (by omega)
 refine goU ?_
 refine WO.con (rparams_ok (inC (asideN 0 h1)) _ _ _ T F _ E1.inC.st sfX ⟨_,_,_,rfl⟩ hsig (by omega)) ?_
 rintro _ h2 ⟨rfl,e2⟩
 refine WO.nil ?_
 refine uK2_e e2 reads_call ?_
 have sfY:SlF (inC h2) (.slice ga gn gk) F:=by have:=SlF.ext sfX e2;exact this
 have e3:Ext h1 (outC h1 (inC h2)):=e2.reg
 have pcY:Piece (inC h2) (.slice ga gn gk) (f.toNat * 2) [I (F.getD f.toNat default).sig,.slice ba bn bk]:=by
  have:=(px _ e3).2;exact this
 have sbY:SlB (inC h2) (.slice ba bn bk) (F.getD f.toNat default).blocks:=by
  have:=SlB.ext sb e3;exact this
 have o1Y:OwnC h (inC h2) p [.slice ta tn tk,.slice ga gn gk]:=by have:=o1X.ext e2;exact this
 refine goU ?_
 refine uK2_own o1 (Nat.le_refl _) ?_
 refine goU ?_
 refine uK2_el ⟨qa,qn,qk,hqv,hqb⟩ ?_
 refine goU ?_
 refine WO.con (rmany_ok (inC h2) _ _ sbY hB hI) ?_
 rintro _ _ ⟨rfl,rfl⟩
 refine WO.nil ?_
 refine uK2_q ?_
 refine goU ?_
 refine go ?_
 refine rt ?_
 exact⟨rfl,e1.trans e3⟩
theorem regs_eq {T:List LType} {F:List LFn} {f:Int} (h:(askedL T F f).2=0):regsL T F f=(((T.getD (F.getD f.toNat default).sig.toNat default).parts.length:Int)+manyL (F.getD f.toNat default).blocks,0):=by
 unfold regsL
 rw[if_neg (by rw[h];exact fun e=>e rfl),(asked_in h).2.2.2]
theorem sig_in {T:List LType} {F:List LFn} {f:Int} (h:(askedL T F f).2=0):0≤(F.getD f.toNat default).sig∧(F.getD f.toNat default).sig<(T.length:Int):=by
 obtain⟨h1,h2,h3,_⟩:=asked_in h
 exact fn_sig ((prog_sig h3).2.2.2 _ (getD_memR (l:=F) (i:=f.toNat) (by omega)))
noncomputable def body31:ACode:=(.seq (.region [⟨some 2,none,(.box (.tmp 0))⟩,⟨some 4,none,(.mov (.const (.int .i64 0)))⟩,⟨some 5,none,(.mov (.const (.int .i64 0)))⟩]) (.seq (.region [⟨some 7,none,(.load true 2 (.tmp 2))⟩,⟨some 8,none,(.mov (.tmp 1))⟩,⟨some 9,none,(.call (.func 42) [(.tmp 7),(.tmp 8)])⟩,⟨some 6,none,(.mov (.tmp 9))⟩]) (.seq (.seq (.region [⟨some 10,none,(.mov (.tmp 6))⟩,⟨some 11,none,(.bin .neq (.tmp 10) (.const (.int .i64 0)))⟩]) (.cond (.tmp 11) (.seq (.region [⟨some 12,none,(.mov (.tmp 6))⟩,⟨some 4,none,(.mov (.const (.int .i64 0)))⟩,⟨some 5,none,(.mov (.tmp 12))⟩]) .ret) .skip)) (.seq (.region [⟨some 13,none,(.load true 2 (.tmp 2))⟩,⟨some 14,none,(.mov (.tmp 1))⟩,⟨some 15,none,(.call (.func 43) [(.tmp 13),(.tmp 14)])⟩,⟨some 4,none,(.mov (.tmp 15))⟩,⟨some 5,none,(.mov (.const (.int .i64 0)))⟩]) .ret))))
set_option maxRecDepth 100000 in
theorem tab31:tb.code 31=some ⟨16,[(4,none),(5,none)],body31⟩:=by kernel_rfl
theorem rregs_ok (h:AHeap) (vt vf:Value) (T:List LType) (F:List LFn) (f:Int) (E:En h vt vf T F):
  WC Tryz.prog tb 31 [.agg #[vt,vf],I f] h fun r h'=>r= .tuple #[I (regsL T F f).1,I (regsL T F f).2]∧Ext h h':=by
 refine WC.of (nostub 31) tab31 ?_;simp only[mkTm,Nat.zero_add,Nat.reduceAdd]
 refine go ?_
 refine WO.bx ?_
 intro p h1 e1 o1
 have E1:=E.ext e1
 refine go ?_
 refine WO.con (rasked6_ok h1 vt vf T F f E1) ?_
 rintro _ h2 ⟨rfl,e2⟩
 have o1:=o1.ext e2
 have e02:=e1.trans e2
 have E2:=E1.ext e2
 by_cases ha:(askedL T F f).2=0
 case neg=>
  have ha':(askedL T F f).2≠0:=ha
  refine go ?_
  refine rt ?_
  exact⟨by unfold regsL;rw[if_pos ha];rfl,e02⟩
 have hin:=asked_in ha
 rw[ha,regs_eq ha]
 refine go ?_
 refine WO.con (rcount_ok h2 vt vf T F f E2 ⟨hin.1,hin.2.1⟩ (sig_in ha)) ?_
 rintro _ h3 ⟨rfl,e3⟩
 refine go ?_
 refine rt ?_
 exact⟨rfl,e02.trans e3⟩
noncomputable def body19:ACode:=(.seq (.region [⟨some 3,none,(.box (.tmp 0))⟩,⟨some 6,none,(.mov (.const (.int .i64 0)))⟩]) (.seq (.region [⟨some 10,none,(.load true 2 (.tmp 3))⟩,⟨some 11,none,(.mov (.tmp 1))⟩,⟨some 12,none,(.call (.func 31) [(.tmp 10),(.tmp 11)])⟩,⟨some 9,none,(.mov (.tmp 12))⟩,⟨some 13,none,(.extract (.tmp 9) 0)⟩,⟨some 14,none,(.extract (.tmp 9) 1)⟩,⟨some 7,none,(.mov (.tmp 13))⟩,⟨some 8,none,(.mov (.tmp 14))⟩]) (.seq (.seq (.region [⟨some 15,none,(.mov (.tmp 8))⟩,⟨some 16,none,(.bin .neq (.tmp 15) (.const (.int .i64 0)))⟩]) (.cond (.tmp 16) (.seq (.region [⟨some 17,none,(.mov (.tmp 8))⟩,⟨some 6,none,(.mov (.tmp 17))⟩]) .ret) .skip)) (.seq (.seq (.region [⟨some 18,none,(.mov (.tmp 2))⟩,⟨some 19,none,(.bin .lss (.tmp 18) (.const (.int .i64 0)))⟩,⟨some 20,none,(.mov (.tmp 19))⟩,⟨some 21,some (20,false),(.mov (.tmp 2))⟩,⟨some 22,some (20,false),(.fld 1 (.tmp 3))⟩,⟨some 23,some (20,false),(.load false 1 (.tmp 22))⟩,⟨some 24,some (20,false),(.mov (.tmp 1))⟩,⟨some 25,some (20,false),(.idx 2 (.tmp 23) (.tmp 24))⟩,⟨some 26,some (20,false),(.fld 1 (.tmp 25))⟩,⟨some 27,some (20,false),(.load false 1 (.tmp 26))⟩,⟨some 28,some (20,false),(.len (.tmp 27))⟩,⟨some 29,some (20,false),(.bin .geq (.tmp 21) (.tmp 28))⟩,⟨some 30,none,(.pick (.tmp 20) (.const (.bool true)) (.tmp 29))⟩]) (.cond (.tmp 30) (.seq (.region [⟨some 6,none,(.mov (.const (.int .i64 2)))⟩]) .ret) .skip)) (.seq (.region [⟨some 6,none,(.mov (.const (.int .i64 0)))⟩]) .ret)))))
set_option maxRecDepth 100000 in
theorem tab19:tb.code 19=some ⟨31,[(6,none)],body19⟩:=by kernel_rfl
theorem r9asked_ok (h:AHeap) (vt vf:Value) (T:List LType) (F:List LFn) (f b:Int) (E:En h vt vf T F):
  WC Tryz.prog tb 19 [.agg #[vt,vf],I f,I b] h fun r h'=>r=I (blocksL T F f b).2∧Ext h h':=by
 have hF:=E.sm.funcs
 refine WC.of (nostub 19) tab19 ?_;simp only[mkTm,Nat.zero_add,Nat.reduceAdd]
 refine go ?_
 refine WO.bx ?_
 intro p h1 e1 o1
 have E1:=E.ext e1
 refine go ?_
 refine WO.con (rregs_ok h1 vt vf T F f E1) ?_
 rintro _ h2 ⟨rfl,e2⟩
 have o1:=o1.ext e2
 have e02:=e1.trans e2
 have sf2:=(E1.ext e2).sf
 obtain⟨ta,tn,tk,rfl⟩:=slr_shape E.st
 obtain⟨ga,gn,gk,rfl⟩:=slr_shape sf2
 unfold blocksL
 by_cases hc:(regsL T F f).2=0
 case neg=>
  have hc':(regsL T F f).2≠0:=hc
  rw[if_pos hc]
  refine go ?_
  refine rt ?_
  exact⟨rfl,e02⟩
 have hin:=regs_in hc
 rw[if_neg (fun e=>e hc),hc]
 obtain⟨csF,⟨vb,rfl,sb,hlb⟩,pcF,hsF⟩:=slr_at (i:=f.toNat) sf2 (by omega)
 by_cases c1:b<0
 ·rw[if_pos (.inl c1)]
  refine go ?_
  refine rt ?_
  exact⟨rfl,e02⟩
 by_cases c2:((F.getD f.toNat default).blocks.length:Int)≤b
 ·rw[if_pos (.inr c2)]
  refine go ?_
  refine rt ?_
  exact⟨rfl,e02⟩
 ·rw[if_neg (by omega)]
  refine go ?_
  refine rt ?_
  exact⟨rfl,e02⟩
end Go.Proofs.YtbhdfhiecgebnaaGreatDoor
namespace Go.Proofs.YtbhdfhiecgebnaaGreatDoor
open Go.Am
set_option linter.unusedVariables false
set_option linter.unusedSimpArgs false
set_option maxHeartbeats 1000000
theorem reach_eq {T:List LType} {F:List LFn} {f:Int} (h:(blocksL T F f 0).2=0) {l:List Int} (hr:Ris l) (hm:∀ c,c∈l↔Way (nxL (blocksL T F f 0).1) 0 c):(ReachL T F f).1=l:=by
 refine ris_ext ?_ hr fun x=>(mem_reach h).trans (hm x).symm
 obtain⟨_,_,_,_,h5,_⟩:=order_law h
 exact h5
theorem post_eq {T:List LType} {F:List LFn} {f:Int}:postL T F f=(dfsB (nxL (blocksL T F f 0).1) (blocksL T F f 0).1.length 0 ([],[])).2:=rfl
noncomputable def body7:ACode:=(.seq (.region [⟨some 2,none,(.box (.tmp 0))⟩,⟨some 4,none,(.mov (.const (.slice none 0 0)))⟩,⟨some 5,none,(.mov (.const (.int .i64 0)))⟩]) (.seq (.region [⟨some 7,none,(.load true 2 (.tmp 2))⟩,⟨some 8,none,(.mov (.tmp 1))⟩,⟨some 9,none,(.call (.func 19) [(.tmp 7),(.tmp 8),(.const (.int .i64 0))])⟩,⟨some 6,none,(.mov (.tmp 9))⟩]) (.seq (.seq (.region [⟨some 10,none,(.mov (.tmp 6))⟩,⟨some 11,none,(.bin .neq (.tmp 10) (.const (.int .i64 0)))⟩]) (.cond (.tmp 11) (.seq (.region [⟨some 12,none,(.mov (.tmp 6))⟩,⟨some 4,none,(.mov (.const (.slice none 0 0)))⟩,⟨some 5,none,(.mov (.tmp 12))⟩]) .ret) .skip)) (.seq (.region [⟨some 13,none,(.fld 1 (.tmp 2))⟩,⟨some 14,none,(.load false 1 (.tmp 13))⟩,⟨some 15,none,(.mov (.tmp 1))⟩,⟨some 16,none,(.idx 2 (.tmp 14) (.tmp 15))⟩,⟨some 17,none,(.fld 1 (.tmp 16))⟩,⟨some 18,none,(.load false 1 (.tmp 17))⟩,⟨some 19,none,(.call (.func 20) [(.tmp 18)])⟩,⟨some 4,none,(.mov (.tmp 19))⟩,⟨some 5,none,(.mov (.const (.int .i64 0)))⟩]) .ret))))
set_option maxRecDepth 100000 in
theorem tab7:tb.code 7=some ⟨20,[(4,none),(5,none)],body7⟩:=by kernel_rfl
theorem r9Reach_ok (h:AHeap) (vt vf:Value) (T:List LType) (F:List LFn) (f:Int) (E:En h vt vf T F):
  WC Tryz.prog tb 7 [.agg #[vt,vf],I f] h fun r h'=>(∃ v,r= .tuple #[v,I (ReachL T F f).2]∧SlI h' v (ReachL T F f).1)∧Ext h h':=by
 have hF:=E.sm.funcs
 refine WC.of (nostub 7) tab7 ?_;simp only[mkTm,Nat.zero_add,Nat.reduceAdd]
 refine go ?_
 refine WO.bx ?_
 intro p h1 e1 o1
 have E1:=E.ext e1
 refine go ?_
 refine WO.con (r9asked_ok h1 vt vf T F f 0 E1) ?_
 rintro _ h2 ⟨rfl,e2⟩
 have o1:=o1.ext e2
 have e02:=e1.trans e2
 have E2:=E1.ext e2
 have sf2:=E2.sf
 obtain⟨ta,tn,tk,rfl⟩:=slr_shape E.st
 obtain⟨ga,gn,gk,rfl⟩:=slr_shape sf2
 rw[reach_err]
 by_cases hc:(blocksL T F f 0).2=0
 case neg=>
  have hc':(blocksL T F f 0).2≠0:=hc
  have hR:(ReachL T F f).1=[]:=by unfold ReachL;rw[if_pos hc]
  rw[hR]
  refine go ?_
  refine rt ?_
  exact⟨⟨_,rfl,SlI.nil _⟩,e02⟩
 obtain⟨h1b,h2b,h3b,h4b⟩:=blocks_in hc
 obtain⟨hlen,hnx⟩:=blocks_nx hc
 have hin:=regs_in h4b
 have heq:=Hid.mk fun (l:List Int)=>reach_eq (l:=l) hc
 rw[h3b]at h2b hlen hnx heq
 rw[hc]
 obtain⟨csF,⟨vb,rfl,sb,hlb⟩,pcF,hsF⟩:=slr_at (i:=f.toNat) sf2 (by omega)
 obtain⟨_,_,_,rfl⟩:=slr_shape sb
 refine go ?_
 refine WO.con (reached_ok h2 _ _ E2.hm sb hlen (by omega) hnx) ?_
 rintro r h3 ⟨⟨l,ol,hl1,hl2,hl3⟩,e3⟩
 have:=heq.out l hl1 hl3
 rw[this]
 refine go ?_
 refine rt ?_
 exact⟨⟨_,rfl,ol.sl⟩,e02.trans e3⟩
noncomputable def body9:ACode:=(.seq (.region [⟨some 2,none,(.box (.tmp 0))⟩,⟨some 4,none,(.mov (.const (.slice none 0 0)))⟩,⟨some 5,none,(.mov (.const (.int .i64 0)))⟩]) (.seq (.region [⟨some 7,none,(.load true 2 (.tmp 2))⟩,⟨some 8,none,(.mov (.tmp 1))⟩,⟨some 9,none,(.call (.func 19) [(.tmp 7),(.tmp 8),(.const (.int .i64 0))])⟩,⟨some 6,none,(.mov (.tmp 9))⟩]) (.seq (.seq (.region [⟨some 10,none,(.mov (.tmp 6))⟩,⟨some 11,none,(.bin .neq (.tmp 10) (.const (.int .i64 0)))⟩]) (.cond (.tmp 11) (.seq (.region [⟨some 12,none,(.mov (.tmp 6))⟩,⟨some 4,none,(.mov (.const (.slice none 0 0)))⟩,⟨some 5,none,(.mov (.tmp 12))⟩]) .ret) .skip)) (.seq (.region [⟨some 13,none,(.fld 1 (.tmp 2))⟩,⟨some 14,none,(.load false 1 (.tmp 13))⟩,⟨some 15,none,(.mov (.tmp 1))⟩,⟨some 16,none,(.idx 2 (.tmp 14) (.tmp 15))⟩,⟨some 17,none,(.fld 1 (.tmp 16))⟩,⟨some 18,none,(.load false 1 (.tmp 17))⟩,⟨some 19,none,(.call (.func 22) [(.tmp 18)])⟩,⟨some 4,none,(.mov (.tmp 19))⟩,⟨some 5,none,(.mov (.const (.int .i64 0)))⟩]) .ret))))
set_option maxRecDepth 100000 in
theorem tab9:tb.code 9=some ⟨20,[(4,none),(5,none)],body9⟩:=by kernel_rfl
theorem r9Order_ok (h:AHeap) (vt vf:Value) (T:List LType) (F:List LFn) (f:Int) (E:En h vt vf T F):
  WC Tryz.prog tb 9 [.agg #[vt,vf],I f] h fun r h'=>(∃ v,r= .tuple #[v,I (OrderL T F f).2]∧SlI h' v (OrderL T F f).1)∧Ext h h':=by
 have hF:=E.sm.funcs
 refine WC.of (nostub 9) tab9 ?_;simp only[mkTm,Nat.zero_add,Nat.reduceAdd]
 refine go ?_
 refine WO.bx ?_
 intro p h1 e1 o1
 have E1:=E.ext e1
 refine go ?_
 refine WO.con (r9asked_ok h1 vt vf T F f 0 E1) ?_
 rintro _ h2 ⟨rfl,e2⟩
 have o1:=o1.ext e2
 have e02:=e1.trans e2
 have E2:=E1.ext e2
 have sf2:=E2.sf
 obtain⟨ta,tn,tk,rfl⟩:=slr_shape E.st
 obtain⟨ga,gn,gk,rfl⟩:=slr_shape sf2
 unfold OrderL
 by_cases hc:(blocksL T F f 0).2=0
 case neg=>
  have hc':(blocksL T F f 0).2≠0:=hc
  rw[if_pos hc]
  refine go ?_
  refine rt ?_
  exact⟨⟨_,rfl,SlI.nil _⟩,e02⟩
 obtain⟨h1b,h2b,h3b,h4b⟩:=blocks_in hc
 obtain⟨hlen,hnx⟩:=blocks_nx hc
 have hin:=regs_in h4b
 rw[if_neg (fun e=>e hc),hc,post_eq]
 rw[h3b]at h2b hlen hnx ⊢
 obtain⟨csF,⟨vb,rfl,sb,hlb⟩,pcF,hsF⟩:=slr_at (i:=f.toNat) sf2 (by omega)
 obtain⟨_,_,_,rfl⟩:=slr_shape sb
 refine go ?_
 refine WO.con (ordered_ok h2 _ _ sb hlen (by omega) hnx) ?_
 rintro r h3 ⟨ol,_,e3⟩
 refine go ?_
 refine rt ?_
 exact⟨⟨_,rfl,ol.sl⟩,e02.trans e3⟩
end Go.Proofs.YtbhdfhiecgebnaaGreatDoor
namespace Go.Proofs.YtbhdfhiecgebnaaGreatDoor
open Go.Am
set_option linter.unusedVariables false
set_option linter.unusedSimpArgs false
set_option maxHeartbeats 1000000
theorem order_le (T:List LType) (F:List LFn) (f:Int):(OrderL T F f).1.length≤16∧(ReachL T F f).1.length≤16∧(OrderL T F f).2=(blocksL T F f 0).2:=by
 by_cases hc:(blocksL T F f 0).2=0
 ·obtain⟨h1,h2,_⟩:=order_law hc
  exact⟨h2,by omega,by unfold OrderL;rw[if_neg (fun e=>e hc),hc]⟩
 ·unfold OrderL ReachL;rw[if_pos hc,if_pos hc];simp
noncomputable def body3:ACode:=(.seq (.region [⟨some 2,none,(.box (.tmp 0))⟩,⟨some 4,none,(.mov (.const (.bool false)))⟩]) (.seq (.seq (.region [⟨some 14,none,(.load true 2 (.tmp 2))⟩,⟨some 15,none,(.call (.func 4) [(.tmp 14),(.const (.int .i64 300))])⟩]) (.cond (.tmp 15) (.seq (.region [⟨some 4,none,(.mov (.const (.bool true)))⟩]) .ret) .skip)) (.seq (.region [⟨some 16,none,(.load true 2 (.tmp 2))⟩,⟨some 17,none,(.call (.func 5) [(.tmp 16)])⟩,⟨some 5,none,(.alloc [(.slice none 0 0),(.slice none 0 0)])⟩,⟨none,none,(.store 2 (.tmp 5) (.tmp 17))⟩]) (.seq (.region [⟨some 19,none,(.load true 2 (.tmp 5))⟩,⟨some 20,none,(.mov (.tmp 1))⟩,⟨some 21,none,(.call (.func 6) [(.tmp 19),(.tmp 20)])⟩,⟨some 18,none,(.mov (.tmp 21))⟩,⟨some 22,none,(.extract (.tmp 18) 0)⟩,⟨some 23,none,(.extract (.tmp 18) 1)⟩,⟨some 6,none,(.mov (.tmp 22))⟩,⟨some 7,none,(.mov (.tmp 23))⟩]) (.seq (.region [⟨some 25,none,(.load true 2 (.tmp 2))⟩,⟨some 26,none,(.mov (.tmp 1))⟩,⟨some 27,none,(.call (.func 7) [(.tmp 25),(.tmp 26)])⟩,⟨some 24,none,(.mov (.tmp 27))⟩,⟨some 28,none,(.extract (.tmp 24) 0)⟩,⟨some 29,none,(.extract (.tmp 24) 1)⟩,⟨some 8,none,(.mov (.tmp 28))⟩,⟨some 9,none,(.mov (.tmp 29))⟩]) (.seq (.region [⟨some 31,none,(.load true 2 (.tmp 5))⟩,⟨some 32,none,(.mov (.tmp 1))⟩,⟨some 33,none,(.call (.func 8) [(.tmp 31),(.tmp 32)])⟩,⟨some 30,none,(.mov (.tmp 33))⟩,⟨some 34,none,(.extract (.tmp 30) 0)⟩,⟨some 35,none,(.extract (.tmp 30) 1)⟩,⟨some 10,none,(.mov (.tmp 34))⟩,⟨some 11,none,(.mov (.tmp 35))⟩]) (.seq (.region [⟨some 37,none,(.load true 2 (.tmp 2))⟩,⟨some 38,none,(.mov (.tmp 1))⟩,⟨some 39,none,(.call (.func 9) [(.tmp 37),(.tmp 38)])⟩,⟨some 36,none,(.mov (.tmp 39))⟩,⟨some 40,none,(.extract (.tmp 36) 0)⟩,⟨some 41,none,(.extract (.tmp 36) 1)⟩,⟨some 12,none,(.mov (.tmp 40))⟩,⟨some 13,none,(.mov (.tmp 41))⟩]) (.seq (.region [⟨some 42,none,(.mov (.tmp 6))⟩,⟨some 43,none,(.mov (.tmp 8))⟩,⟨some 44,none,(.call (.func 10) [(.tmp 42),(.tmp 43)])⟩,⟨some 45,none,(.mov (.tmp 44))⟩,⟨some 46,some (45,true),(.mov (.tmp 7))⟩,⟨some 47,some (45,true),(.mov (.tmp 9))⟩,⟨some 48,some (45,true),(.bin .eql (.tmp 46) (.tmp 47))⟩,⟨some 49,none,(.pick (.tmp 45) (.tmp 48) (.const (.bool false)))⟩,⟨some 50,none,(.mov (.tmp 49))⟩,⟨some 51,some (50,true),(.mov (.tmp 10))⟩,⟨some 52,some (50,true),(.mov (.tmp 12))⟩,⟨some 53,some (50,true),(.call (.func 10) [(.tmp 51),(.tmp 52)])⟩,⟨some 54,none,(.pick (.tmp 50) (.tmp 53) (.const (.bool false)))⟩,⟨some 55,none,(.mov (.tmp 54))⟩,⟨some 56,some (55,true),(.mov (.tmp 11))⟩,⟨some 57,some (55,true),(.mov (.tmp 13))⟩,⟨some 58,some (55,true),(.bin .eql (.tmp 56) (.tmp 57))⟩,⟨some 59,none,(.pick (.tmp 55) (.tmp 58) (.const (.bool false)))⟩,⟨some 60,none,(.mov (.tmp 59))⟩,⟨some 61,some (60,true),(.load true 2 (.tmp 5))⟩,⟨some 62,some (60,true),(.load true 2 (.tmp 2))⟩,⟨some 63,some (60,true),(.call (.func 11) [(.tmp 61),(.tmp 62)])⟩,⟨some 64,none,(.pick (.tmp 60) (.tmp 63) (.const (.bool false)))⟩,⟨some 4,none,(.mov (.tmp 64))⟩]) .ret))))))))
set_option maxRecDepth 100000 in
theorem tab3:tb.code 3=some ⟨65,[(4,none)],body3⟩:=by kernel_rfl
theorem FlowOrders_ok (h:AHeap) (vt vf:Value) (T:List LType) (F:List LFn) (f:Int) (tt:Tbl h) (hm:h.mark≤h.n) (st:SlT h vt T) (sf:SlF h vf F) (hT:(T.length:Int)≤1152921504606846976) (hF:(F.length:Int)≤1152921504606846976):
  WC Tryz.prog tb 3 [.agg #[vt,vf],I f] h fun r h'=>r= .bool true:=by
 refine WC.of (nostub 3) tab3 ?_;simp only[mkTm,Nat.zero_add,Nat.reduceAdd]
 refine go ?_
 refine WO.bx ?_
 intro p h1 e1 o1
 refine go ?_
 refine WO.con (great2_ok h1 vt vf T F 300 (by omega) (st.ext e1) (SlF.ext sf e1) (by omega) (by omega)) ?_
 rintro r h2 ⟨hr,e2⟩
 have o1:=o1.ext e2
 rcases hr with rfl|⟨rfl,sm,si⟩
 ·refine go ?_
  refine rt ?_
  rfl
 have E:En h2 vt vf T F:=⟨(tt.ext e1).ext e2,mark_ext e2 (mark_ext e1 hm),sm,si,(st.ext e1).ext e2,SlF.ext (SlF.ext sf e1) e2⟩
 clear st sf tt hm e1 e2
 refine go ?_
 refine WO.con (rTwin_ok h2 vt vf T F sm si E.hm E.st E.sf) ?_
 rintro _ h3 ⟨⟨wt,wf,rfl,swt,swf⟩,e3⟩
 have o1:=o1.ext e3
 have E:=E.ext e3
 obtain⟨wa,wn,wk,rfl⟩:=slr_shape swt
 obtain⟨xa,xn,xk,rfl⟩:=slr_shape swf
 refine go ?_
 refine WO.al ?_
 intro q h4 e4 o4
 refine WO.stC0 o4 e4 ?_
 intro h5 e5 o5 _
 have o1:=o1.ext e5
 have E:=E.ext e5
 have W:En h5 _ _ T F:=⟨E.tt,E.hm,sm,si,swt.ext e5,SlF.ext swf e5⟩
 clear e3 e4 e5 o4 swt swf
 refine go ?_
 refine WO.con (Reach_ok h5 _ _ T F f W.tt W.hm W.sm W.st W.sf) ?_
 rintro _ h6 ⟨⟨v1,rfl,s1⟩,e6⟩
 have s1:=s1.sl
 have o1:=o1.ext e6
 have o5:=o5.ext e6
 have E:=E.ext e6
 have W:=W.ext e6
 refine go ?_
 refine WO.con (r9Reach_ok h6 vt vf T F f E) ?_
 rintro _ h7 ⟨⟨v2,rfl,s2⟩,e7⟩
 have s1:=s1.ext e7
 have o1:=o1.ext e7
 have o5:=o5.ext e7
 have E:=E.ext e7
 have W:=W.ext e7
 refine go ?_
 refine WO.con (Order_ok h7 _ _ T F f W.tt W.hm W.sm W.st W.sf) ?_
 rintro _ h8 ⟨⟨v3,rfl,s3⟩,e8⟩
 have s1:=s1.ext e8
 have s2:=s2.ext e8
 have s3:=s3.sl
 have o1:=o1.ext e8
 have o5:=o5.ext e8
 have E:=E.ext e8
 have W:=W.ext e8
 refine go ?_
 refine WO.con (r9Order_ok h8 vt vf T F f E) ?_
 rintro _ h9 ⟨⟨v4,rfl,s4⟩,e9⟩
 have s1:=s1.ext e9
 have s2:=s2.ext e9
 have s3:=s3.ext e9
 have o1:=o1.ext e9
 have o5:=o5.ext e9
 have E:=E.ext e9
 have W:=W.ext e9
 obtain⟨l1,l2,_⟩:=order_le T F f
 clear e6 e7 e8 e9
 refine go ?_
 refine WO.con (sameInts_ok h9 _ _ _ _ s1 s2 (by omega)) ?_
 rintro _ _ ⟨rfl,rfl⟩
 refine go ?_
 refine WO.con (sameInts_ok h9 _ _ _ _ s3 s4 (by omega)) ?_
 rintro _ _ ⟨rfl,rfl⟩
 refine go ?_
 refine WO.con (rSame_ok h9 _ _ _ _ T F sm si E.hm W.st W.sf E.st E.sf) ?_
 rintro _ h12 ⟨rfl,e12⟩
 refine go ?_
 refine rt ?_
 rfl
end Go.Proofs.YtbhdfhiecgebnaaGreatDoor
