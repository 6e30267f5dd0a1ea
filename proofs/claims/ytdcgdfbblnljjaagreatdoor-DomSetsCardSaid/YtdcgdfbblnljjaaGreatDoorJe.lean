/- What functions of the program come to in the abstract machine, and plain laws about it; no statement of the seat is proved in this text. -/
import Derived.Test.YtdcgdfbblnljjaaGreatDoorJd
import Derived.Test.YtdcgdfbblnljjaaGreatDoorAmV
import Derived.Test.YtdcgdfbblnljjaaGreatDoorAmU
import Derived.Test.YtdcgdfbblnljjaaGreatDoorJb
import Derived.Test.YtdcgdfbblnljjaaGreatDoorJc
namespace Go.Proofs.YtdcgdfbblnljjaaGreatDoor
open Go.Am
set_option linter.unusedVariables false
set_option linter.unusedSimpArgs false
set_option maxHeartbeats 1000000
noncomputable def body13_0:ACode:=(.seq (.seq (.region [⟨some 11,none,(.mov (.tmp 5))⟩,⟨some 12,none,(.mov (.tmp 0))⟩,⟨some 13,none,(.len (.tmp 12))⟩,⟨some 14,none,(.bin .lss (.tmp 11) (.tmp 13))⟩]) (.cond (.tmp 14) .skip (.exit 0))) (.seq (.block 1 (.seq (.regionC [(⟨some 17,none,(.mov (.tmp 0))⟩,[]),(⟨some 18,none,(.mov (.tmp 5))⟩,[]),(⟨some 19,none,(.idx 1 (.tmp 17) (.tmp 18))⟩,[]),(⟨some 20,none,(.load false 1 (.tmp 19))⟩,[]),(⟨some 21,none,(.mov (.tmp 1))⟩,[]),(⟨some 22,none,(.mov (.tmp 5))⟩,[]),(⟨some 23,none,(.idx 1 (.tmp 21) (.tmp 22))⟩,[]),(⟨some 24,none,(.load false 1 (.tmp 23))⟩,[]),(⟨some 25,none,(.bin .neq (.tmp 20) (.tmp 24))⟩,[])]) (.cond (.tmp 25) (.seq (.region [⟨some 4,none,(.mov (.const (.bool false)))⟩]) .ret) .skip))) (.region [⟨some 15,none,(.mov (.tmp 5))⟩,⟨some 16,none,(.bin .add (.tmp 15) (.const (.int .i64 1)))⟩,⟨some 5,none,(.mov (.tmp 16))⟩])))
noncomputable def body13:ACode:=(.seq (.region [⟨some 4,none,(.mov (.const (.bool false)))⟩]) (.seq (.seq (.region [⟨some 6,none,(.mov (.tmp 0))⟩,⟨some 7,none,(.len (.tmp 6))⟩,⟨some 8,none,(.mov (.tmp 1))⟩,⟨some 9,none,(.len (.tmp 8))⟩,⟨some 10,none,(.bin .neq (.tmp 7) (.tmp 9))⟩]) (.cond (.tmp 10) (.seq (.region [⟨some 4,none,(.mov (.const (.bool false)))⟩]) .ret) .skip)) (.seq (.seq (.region [⟨some 5,none,(.mov (.const (.int .i64 0)))⟩]) (.block 0 (.loop body13_0))) (.seq (.region [⟨some 4,none,(.mov (.const (.bool true)))⟩]) .ret))))
set_option maxRecDepth 100000 in
theorem tab13:tb.code 13=some ⟨26,[(4,none)],body13⟩:=by kernel_rfl
theorem zBl (h:AHeap) (v w:Value) (a b:List Int) (sa:SlI h v a) (sb:SlI h w b) (ha:(a.length:Int)≤1000000000):
  WC Tryz.prog tb 13 [v,w] h fun r h'=>r= .bool (decide (a=b))∧h=h':=by
 refine WC.of (zG 13) tab13 ?_;simp only[zN,Nat.zero_add,Nat.reduceAdd]
 by_cases hl:(a.length:Int)=(b.length:Int)
 case neg=>
  have hne:a≠b:=fun e=>hl (by rw[e])
  refine go ?_
  refine rt ?_
  exact⟨by rw[decide_eq_false hne];rfl,rfl⟩
 refine go ?_
 refine WX.loopA [11,12,13,14,17,18,19,20,21,22,23,24,25,4,15,16,5] (by kernel_rfl) (fun i=>a.length - i) (fun i t h1=>h=h1∧zB t 5=I i∧i≤a.length∧Hid (∀ j,j<i→a.getD j 0=b.getD j 0)) 0 ?_ ?_
 ·exact⟨rfl,sl_,Nat.zero_le _,⟨fun j hj=>absurd hj (Nat.not_lt_zero _)⟩⟩
 rintro i t _ hsame ⟨rfl,s5,hi,hm⟩
 refine go ?_
 refine WX.br (fun hb=> ?_) (fun hb=> ?_)<;>simp only[DB]at hb
 ·have hi':i<a.length:=by omega
  by_cases he:a.getD i 0=b.getD i 0
  ·refine go ?_
   refine zA (i+1) (by omega) ⟨rfl,sln,by omega,⟨fun j hj=> ?_⟩⟩
   by_cases e:j=i
   ·subst e;exact he
   ·exact hm.out j (by omega)
  ·have hne:a≠b:=fun e=>he (by rw[e])
   refine go ?_
   refine rt ?_
   exact⟨by rw[decide_eq_false hne];rfl,rfl⟩
 ·have heq:a=b:=by
   refine List.ext_getElem (by omega) fun j h1 h2=> ?_
   have:=hm.out j (by omega)
   simpa [List.getD,List.getElem?_eq_getElem h1,List.getElem?_eq_getElem h2]using this
  refine go ?_
  refine rt ?_
  exact⟨by rw[decide_eq_true heq];rfl,rfl⟩
noncomputable def body29_0:ACode:=(.seq (.seq (.region [⟨some 70,none,(.mov (.tmp 6))⟩,⟨some 71,none,(.mov (.tmp 0))⟩,⟨some 72,none,(.mov (.tmp 5))⟩,⟨some 73,none,(.idx 4 (.tmp 71) (.tmp 72))⟩,⟨some 74,none,(.fld 3 (.tmp 73))⟩,⟨some 75,none,(.load false 1 (.tmp 74))⟩,⟨some 76,none,(.len (.tmp 75))⟩,⟨some 77,none,(.bin .lss (.tmp 70) (.tmp 76))⟩]) (.cond (.tmp 77) .skip (.exit 2))) (.seq (.block 3 (.seq (.regionC [(⟨some 80,none,(.mov (.tmp 0))⟩,[]),(⟨some 81,none,(.mov (.tmp 5))⟩,[]),(⟨some 82,none,(.idx 4 (.tmp 80) (.tmp 81))⟩,[]),(⟨some 83,none,(.fld 3 (.tmp 82))⟩,[]),(⟨some 84,none,(.load false 1 (.tmp 83))⟩,[]),(⟨some 85,none,(.mov (.tmp 6))⟩,[]),(⟨some 86,none,(.idx 1 (.tmp 84) (.tmp 85))⟩,[]),(⟨some 87,none,(.load false 1 (.tmp 86))⟩,[]),(⟨some 88,none,(.mov (.tmp 1))⟩,[]),(⟨some 89,none,(.mov (.tmp 5))⟩,[]),(⟨some 90,none,(.idx 4 (.tmp 88) (.tmp 89))⟩,[]),(⟨some 91,none,(.fld 3 (.tmp 90))⟩,[]),(⟨some 92,none,(.load false 1 (.tmp 91))⟩,[]),(⟨some 93,none,(.mov (.tmp 6))⟩,[]),(⟨some 94,none,(.idx 1 (.tmp 92) (.tmp 93))⟩,[]),(⟨some 95,none,(.load false 1 (.tmp 94))⟩,[]),(⟨some 96,none,(.bin .neq (.tmp 87) (.tmp 95))⟩,[])]) (.cond (.tmp 96) (.seq (.region [⟨some 4,none,(.mov (.const (.bool false)))⟩]) .ret) .skip))) (.region [⟨some 78,none,(.mov (.tmp 6))⟩,⟨some 79,none,(.bin .add (.tmp 78) (.const (.int .i64 1)))⟩,⟨some 6,none,(.mov (.tmp 79))⟩])))
noncomputable def body29_1:ACode:=(.seq (.seq (.region [⟨some 12,none,(.mov (.tmp 5))⟩,⟨some 13,none,(.mov (.tmp 0))⟩,⟨some 14,none,(.len (.tmp 13))⟩,⟨some 15,none,(.bin .lss (.tmp 12) (.tmp 14))⟩]) (.cond (.tmp 15) .skip (.exit 0))) (.seq (.block 1 (.seq (.seq (.regionC [(⟨some 18,none,(.mov (.tmp 0))⟩,[]),(⟨some 19,none,(.mov (.tmp 5))⟩,[]),(⟨some 20,none,(.idx 4 (.tmp 18) (.tmp 19))⟩,[]),(⟨some 21,none,(.fld 0 (.tmp 20))⟩,[]),(⟨some 22,none,(.load false 1 (.tmp 21))⟩,[]),(⟨some 23,none,(.mov (.tmp 1))⟩,[]),(⟨some 24,none,(.mov (.tmp 5))⟩,[]),(⟨some 25,none,(.idx 4 (.tmp 23) (.tmp 24))⟩,[]),(⟨some 26,none,(.fld 0 (.tmp 25))⟩,[]),(⟨some 27,none,(.load false 1 (.tmp 26))⟩,[]),(⟨some 28,none,(.bin .neq (.tmp 22) (.tmp 27))⟩,[]),(⟨some 29,none,(.mov (.tmp 28))⟩,[]),(⟨some 30,some (29,false),(.mov (.tmp 0))⟩,[]),(⟨some 31,some (29,false),(.mov (.tmp 5))⟩,[]),(⟨some 32,some (29,false),(.idx 4 (.tmp 30) (.tmp 31))⟩,[]),(⟨some 33,some (29,false),(.fld 1 (.tmp 32))⟩,[]),(⟨some 34,some (29,false),(.load false 1 (.tmp 33))⟩,[]),(⟨some 35,some (29,false),(.mov (.tmp 1))⟩,[]),(⟨some 36,some (29,false),(.mov (.tmp 5))⟩,[]),(⟨some 37,some (29,false),(.idx 4 (.tmp 35) (.tmp 36))⟩,[]),(⟨some 38,some (29,false),(.fld 1 (.tmp 37))⟩,[]),(⟨some 39,some (29,false),(.load false 1 (.tmp 38))⟩,[]),(⟨some 40,some (29,false),(.bin .neq (.tmp 34) (.tmp 39))⟩,[]),(⟨some 41,none,(.pick (.tmp 29) (.const (.bool true)) (.tmp 40))⟩,[]),(⟨some 42,none,(.mov (.tmp 41))⟩,[]),(⟨some 43,some (42,false),(.mov (.tmp 0))⟩,[]),(⟨some 44,some (42,false),(.mov (.tmp 5))⟩,[]),(⟨some 45,some (42,false),(.idx 4 (.tmp 43) (.tmp 44))⟩,[]),(⟨some 46,some (42,false),(.fld 2 (.tmp 45))⟩,[]),(⟨some 47,some (42,false),(.load false 1 (.tmp 46))⟩,[]),(⟨some 48,some (42,false),(.mov (.tmp 1))⟩,[]),(⟨some 49,some (42,false),(.mov (.tmp 5))⟩,[]),(⟨some 50,some (42,false),(.idx 4 (.tmp 48) (.tmp 49))⟩,[]),(⟨some 51,some (42,false),(.fld 2 (.tmp 50))⟩,[]),(⟨some 52,some (42,false),(.load false 1 (.tmp 51))⟩,[]),(⟨some 53,some (42,false),(.bin .neq (.tmp 47) (.tmp 52))⟩,[]),(⟨some 54,none,(.pick (.tmp 42) (.const (.bool true)) (.tmp 53))⟩,[]),(⟨some 55,none,(.mov (.tmp 54))⟩,[]),(⟨some 56,some (55,false),(.mov (.tmp 0))⟩,[]),(⟨some 57,some (55,false),(.mov (.tmp 5))⟩,[]),(⟨some 58,some (55,false),(.idx 4 (.tmp 56) (.tmp 57))⟩,[]),(⟨some 59,some (55,false),(.fld 3 (.tmp 58))⟩,[]),(⟨some 60,some (55,false),(.load false 1 (.tmp 59))⟩,[]),(⟨some 61,some (55,false),(.len (.tmp 60))⟩,[]),(⟨some 62,some (55,false),(.mov (.tmp 1))⟩,[]),(⟨some 63,some (55,false),(.mov (.tmp 5))⟩,[]),(⟨some 64,some (55,false),(.idx 4 (.tmp 62) (.tmp 63))⟩,[]),(⟨some 65,some (55,false),(.fld 3 (.tmp 64))⟩,[]),(⟨some 66,some (55,false),(.load false 1 (.tmp 65))⟩,[]),(⟨some 67,some (55,false),(.len (.tmp 66))⟩,[]),(⟨some 68,some (55,false),(.bin .neq (.tmp 61) (.tmp 67))⟩,[]),(⟨some 69,none,(.pick (.tmp 55) (.const (.bool true)) (.tmp 68))⟩,[])]) (.cond (.tmp 69) (.seq (.region [⟨some 4,none,(.mov (.const (.bool false)))⟩]) .ret) .skip)) (.seq (.region [⟨some 6,none,(.mov (.const (.int .i64 0)))⟩]) (.block 2 (.loop body29_0))))) (.region [⟨some 16,none,(.mov (.tmp 5))⟩,⟨some 17,none,(.bin .add (.tmp 16) (.const (.int .i64 1)))⟩,⟨some 5,none,(.mov (.tmp 17))⟩])))
noncomputable def body29:ACode:=(.seq (.region [⟨some 4,none,(.mov (.const (.bool false)))⟩]) (.seq (.seq (.region [⟨some 7,none,(.mov (.tmp 0))⟩,⟨some 8,none,(.len (.tmp 7))⟩,⟨some 9,none,(.mov (.tmp 1))⟩,⟨some 10,none,(.len (.tmp 9))⟩,⟨some 11,none,(.bin .neq (.tmp 8) (.tmp 10))⟩]) (.cond (.tmp 11) (.seq (.region [⟨some 4,none,(.mov (.const (.bool false)))⟩]) .ret) .skip)) (.seq (.seq (.region [⟨some 5,none,(.mov (.const (.int .i64 0)))⟩]) (.block 0 (.loop body29_1))) (.seq (.region [⟨some 4,none,(.mov (.const (.bool true)))⟩]) .ret))))
set_option maxRecDepth 100000 in
theorem tab29:tb.code 29=some ⟨97,[(4,none)],body29⟩:=by kernel_rfl
theorem zG8 (h:AHeap) (v w:Value) (T:List LType) (sa:SlT h v T) (sb:SlT h w T) (hT:T.length≤1000) (hp:∀ x∈T,x.parts.length≤1000):
  WC Tryz.prog tb 29 [v,w] h fun r h'=>r= .bool true∧h=h':=by
 refine WC.of (zG 29) tab29 ?_;simp only[zN,Nat.zero_add,Nat.reduceAdd]
 replace hp:=Hid.mk hp
 refine go ?_
 refine WX.loopA [12,13,14,15,18,19,20,21,22,23,24,25,26,27,28,29,30,31,32,33,34,35,36,37,38,39,40,41,42,43,44,45,46,47,48,49,50,51,52,53,54,55,56,57,58,59,60,61,62,63,64,65,66,67,68,69,4,6,70,71,72,73,74,75,76,77,80,81,82,83,84,85,86,87,88,89,90,91,92,93,94,95,96,4,78,79,6,16,17,5] (by kernel_rfl) (fun i=>T.length - i) (fun i t h1=>h=h1∧zB t 5=I i∧i≤T.length) 0 ?_ ?_
 ·exact⟨rfl,sl_,Nat.zero_le _⟩
 rintro i t _ hsame ⟨rfl,s5,hi⟩
 refine go ?_
 refine WX.br (fun hb=> ?_) (fun hb=> ?_)<;>simp only[DB]at hb
 ·have hi':i<T.length:=by omega
  have hpl:=hp.out _ (zL (l:=T) hi')
  obtain⟨cs1,⟨va1,rfl,sa1,hla1⟩,pc1,hs1⟩:=ZR sa hi'
  obtain⟨cs2,⟨va2,rfl,sa2,hla2⟩,pc2,hs2⟩:=ZR sb hi'
  generalize T.getD i default=x at *
  refine go ?_
  refine WX.loopA [70,71,72,73,74,75,76,77,80,81,82,83,84,85,86,87,88,89,90,91,92,93,94,95,96,4,78,79,6] (by kernel_rfl) (fun k=>x.parts.length - k) (fun k t h1=>h=h1∧zB t 6=I k∧k≤x.parts.length) 0 ?_ ?_
  ·exact⟨rfl,sl_,Nat.zero_le _⟩
  rintro k t2 _ hsame2 ⟨rfl,s6,hk⟩
  refine go ?_
  refine WX.br (fun hc=> ?_) (fun hc=> ?_)<;>simp only[DB]at hc
  ·have hk':k<x.parts.length:=by omega
   refine go ?_
   exact zA (k+1) (by omega) ⟨rfl,sln,by omega⟩
  ·refine go ?_
   exact zA (i+1) (by omega) ⟨rfl,sln,by omega⟩
 ·refine go ?_
  refine rt ?_
  exact⟨rfl,rfl⟩
noncomputable def body43_0:ACode:=(.seq (.seq (.region [⟨some 13,none,(.mov (.tmp 5))⟩,⟨some 14,none,(.mov (.tmp 0))⟩,⟨some 15,none,(.len (.tmp 14))⟩,⟨some 16,none,(.bin .lss (.tmp 13) (.tmp 15))⟩]) (.cond (.tmp 16) .skip (.exit 0))) (.seq (.block 1 (.seq (.regionC [(⟨some 19,none,(.mov (.tmp 0))⟩,[]),(⟨some 20,none,(.mov (.tmp 5))⟩,[]),(⟨some 21,none,(.idx 7 (.tmp 19) (.tmp 20))⟩,[]),(⟨some 22,none,(.load true 7 (.tmp 21))⟩,[]),(⟨some 23,none,(.mov (.tmp 1))⟩,[]),(⟨some 24,none,(.mov (.tmp 5))⟩,[]),(⟨some 25,none,(.idx 7 (.tmp 23) (.tmp 24))⟩,[]),(⟨some 26,none,(.load true 7 (.tmp 25))⟩,[]),(⟨some 6,none,(.alloc [(.int .u8 0),(.int .i64 0),(.int .i64 0),(.int .i64 0),(.int .i64 0),(.slice none 0 0),(.slice none 0 0)])⟩,[]),(⟨some 7,none,(.alloc [(.int .u8 0),(.int .i64 0),(.int .i64 0),(.int .i64 0),(.int .i64 0),(.slice none 0 0),(.slice none 0 0)])⟩,[]),(⟨none,none,(.store 7 (.tmp 6) (.tmp 22))⟩,[7]),(⟨none,none,(.store 7 (.tmp 7) (.tmp 26))⟩,[])]) (.seq (.region [⟨some 27,none,(.fld 0 (.tmp 6))⟩,⟨some 28,none,(.load false 1 (.tmp 27))⟩,⟨some 29,none,(.fld 0 (.tmp 7))⟩,⟨some 30,none,(.load false 1 (.tmp 29))⟩,⟨some 31,none,(.bin .neq (.tmp 28) (.tmp 30))⟩,⟨some 32,none,(.mov (.tmp 31))⟩,⟨some 33,some (32,false),(.fld 1 (.tmp 6))⟩,⟨some 34,some (32,false),(.load false 1 (.tmp 33))⟩,⟨some 35,some (32,false),(.fld 1 (.tmp 7))⟩,⟨some 36,some (32,false),(.load false 1 (.tmp 35))⟩,⟨some 37,some (32,false),(.bin .neq (.tmp 34) (.tmp 36))⟩,⟨some 38,none,(.pick (.tmp 32) (.const (.bool true)) (.tmp 37))⟩,⟨some 39,none,(.mov (.tmp 38))⟩,⟨some 40,some (39,false),(.fld 2 (.tmp 6))⟩,⟨some 41,some (39,false),(.load false 1 (.tmp 40))⟩,⟨some 42,some (39,false),(.fld 2 (.tmp 7))⟩,⟨some 43,some (39,false),(.load false 1 (.tmp 42))⟩,⟨some 44,some (39,false),(.bin .neq (.tmp 41) (.tmp 43))⟩,⟨some 45,none,(.pick (.tmp 39) (.const (.bool true)) (.tmp 44))⟩,⟨some 46,none,(.mov (.tmp 45))⟩,⟨some 47,some (46,false),(.fld 3 (.tmp 6))⟩,⟨some 48,some (46,false),(.load false 1 (.tmp 47))⟩,⟨some 49,some (46,false),(.fld 3 (.tmp 7))⟩,⟨some 50,some (46,false),(.load false 1 (.tmp 49))⟩,⟨some 51,some (46,false),(.bin .neq (.tmp 48) (.tmp 50))⟩,⟨some 52,none,(.pick (.tmp 46) (.const (.bool true)) (.tmp 51))⟩,⟨some 53,none,(.mov (.tmp 52))⟩,⟨some 54,some (53,false),(.fld 4 (.tmp 6))⟩,⟨some 55,some (53,false),(.load false 1 (.tmp 54))⟩,⟨some 56,some (53,false),(.fld 4 (.tmp 7))⟩,⟨some 57,some (53,false),(.load false 1 (.tmp 56))⟩,⟨some 58,some (53,false),(.bin .neq (.tmp 55) (.tmp 57))⟩,⟨some 59,none,(.pick (.tmp 53) (.const (.bool true)) (.tmp 58))⟩,⟨some 60,none,(.mov (.tmp 59))⟩,⟨some 61,some (60,false),(.fld 5 (.tmp 6))⟩,⟨some 62,some (60,false),(.load false 1 (.tmp 61))⟩,⟨some 63,some (60,false),(.fld 5 (.tmp 7))⟩,⟨some 64,some (60,false),(.load false 1 (.tmp 63))⟩,⟨some 65,some (60,false),(.call (.func 13) [(.tmp 62),(.tmp 64)])⟩,⟨some 66,some (60,false),(.un .not (.tmp 65))⟩,⟨some 67,none,(.pick (.tmp 60) (.const (.bool true)) (.tmp 66))⟩,⟨some 68,none,(.mov (.tmp 67))⟩,⟨some 69,some (68,false),(.fld 6 (.tmp 6))⟩,⟨some 70,some (68,false),(.load false 1 (.tmp 69))⟩,⟨some 71,some (68,false),(.fld 6 (.tmp 7))⟩,⟨some 72,some (68,false),(.load false 1 (.tmp 71))⟩,⟨some 73,some (68,false),(.call (.func 13) [(.tmp 70),(.tmp 72)])⟩,⟨some 74,some (68,false),(.un .not (.tmp 73))⟩,⟨some 75,none,(.pick (.tmp 68) (.const (.bool true)) (.tmp 74))⟩]) (.cond (.tmp 75) (.seq (.region [⟨some 4,none,(.mov (.const (.bool false)))⟩]) .ret) .skip)))) (.region [⟨some 17,none,(.mov (.tmp 5))⟩,⟨some 18,none,(.bin .add (.tmp 17) (.const (.int .i64 1)))⟩,⟨some 5,none,(.mov (.tmp 18))⟩])))
noncomputable def body43:ACode:=(.seq (.region [⟨some 4,none,(.mov (.const (.bool false)))⟩]) (.seq (.seq (.region [⟨some 8,none,(.mov (.tmp 0))⟩,⟨some 9,none,(.len (.tmp 8))⟩,⟨some 10,none,(.mov (.tmp 1))⟩,⟨some 11,none,(.len (.tmp 10))⟩,⟨some 12,none,(.bin .neq (.tmp 9) (.tmp 11))⟩]) (.cond (.tmp 12) (.seq (.region [⟨some 4,none,(.mov (.const (.bool false)))⟩]) .ret) .skip)) (.seq (.seq (.region [⟨some 5,none,(.mov (.const (.int .i64 0)))⟩]) (.block 0 (.loop body43_0))) (.seq (.region [⟨some 4,none,(.mov (.const (.bool true)))⟩]) .ret))))
set_option maxRecDepth 100000 in
theorem tab43:tb.code 43=some ⟨76,[(4,none)],body43⟩:=by kernel_rfl
theorem zFX (h:AHeap) (v w:Value) (L:List LIns) (sa:SlN h v L) (sb:SlN h w L) (hm:h.mark≤h.n) (hL:L.length≤1000) (hX:∀ x∈L,x.args.length≤20∧x.frm.length≤20):
  WC Tryz.prog tb 43 [v,w] h fun r h'=>r= .bool true∧Ext h h':=by
 refine WC.of (zG 43) tab43 ?_;simp only[zN,Nat.zero_add,Nat.reduceAdd]
 replace hX:=Hid.mk hX
 refine go ?_
 refine WX.loopA [13,14,15,16,19,20,21,22,23,24,25,26,6,7,27,28,29,30,31,32,33,34,35,36,37,38,39,40,41,42,43,44,45,46,47,48,49,50,51,52,53,54,55,56,57,58,59,60,61,62,63,64,65,66,67,68,69,70,71,72,73,74,75,4,17,18,5] (by kernel_rfl) (fun i=>L.length - i) (fun i t h1=>Ext h h1∧zB t 5=I i∧i≤L.length) 0 ?_ ?_
 ·exact⟨Ext.refl _,sl_,Nat.zero_le _⟩
 rintro i t h1 hsame ⟨e1,s5,hi⟩
 have sa1:=SlN.ext sa e1
 have sb1:=SlN.ext sb e1
 have hm1:=zh e1 hm
 refine go ?_
 refine WX.br (fun hb=> ?_) (fun hb=> ?_)<;>simp only[DB]at hb
 ·have hi':i<L.length:=by omega
  have hxl:=hX.out _ (zL (l:=L) hi')
  obtain⟨aa,an,ak,hav,hab⟩:=zAC sa1 hi'
  obtain⟨ba,bn,bk,hbv,hbb⟩:=zAC sb1 hi'
  refine go ?_
  refine WX.regionU6 (fun g=>g=h1.n∨g=h1.n+1) 2 rfl rfl ?_
  have saX:SlN (inC (zF 2 h1)) v L:=by have:=SlN.ext sa1 (yY 2 h1);exact this
  have sbX:SlN (inC (zF 2 h1)) w L:=by have:=SlN.ext sb1 (yY 2 h1);exact this
  obtain⟨cs1,⟨xa,xf,rfl,sxa,sxf,hla,hlf,ho⟩,px1,hs1⟩:=zBH sa1 hi'
  obtain⟨cs2,⟨ya,yf,rfl,sya,syf,hlb,hlg,ho2⟩,px2,hs2⟩:=zBH sb1 hi'
  have pc1:=(px1 _ (yY 2 h1)).2
  have pc2:=(px2 _ (yY 2 h1)).2
  generalize L.getD i default=x at *
  obtain⟨a1,a2,a3,rfl⟩:=yM sxa
  obtain⟨f1,f2,f3,rfl⟩:=yM sxf
  obtain⟨b1,b2,b3,rfl⟩:=yM sya
  obtain⟨g1,g2,g3,rfl⟩:=yM syf
  refine goV ?_
  refine uK6_el ⟨aa,an,ak,hav,by omega⟩ ?_
  refine goV ?_
  refine uK6_el ⟨ba,bn,bk,hbv,by omega⟩ ?_
  refine goV ?_
  refine WU6.al2 hm1 ?_
  intro h2 p q e2 op oq
  have sxa2:SlI h2 (.slice a1 a2 a3) x.args:=sxa.ext e2
  have sxf2:SlI h2 (.slice f1 f2 f3) x.frm:=sxf.ext e2
  have sya2:SlI h2 (.slice b1 b2 b3) x.args:=sya.ext e2
  have syf2:SlI h2 (.slice g1 g2 g3) x.frm:=syf.ext e2
  refine go ?_
  refine WO.con (zBl h2 _ _ x.args x.args sxa2 sya2 (by omega)) ?_
  rintro _ _ ⟨rfl,rfl⟩
  refine go ?_
  refine WO.con (zBl h2 _ _ x.frm x.frm sxf2 syf2 (by omega)) ?_
  rintro _ _ ⟨rfl,rfl⟩
  refine go ?_
  exact zA (i+1) (by omega) ⟨e1.trans e2,sln,by omega⟩
 ·refine go ?_
  refine rt ?_
  exact⟨rfl,e1⟩
noncomputable def body30_0:ACode:=(.seq (.seq (.region [⟨some 11,none,(.mov (.tmp 5))⟩,⟨some 12,none,(.mov (.tmp 0))⟩,⟨some 13,none,(.len (.tmp 12))⟩,⟨some 14,none,(.bin .lss (.tmp 11) (.tmp 13))⟩]) (.cond (.tmp 14) .skip (.exit 0))) (.seq (.block 1 (.seq (.regionC [(⟨some 17,none,(.mov (.tmp 0))⟩,[]),(⟨some 18,none,(.mov (.tmp 5))⟩,[]),(⟨some 19,none,(.idx 5 (.tmp 17) (.tmp 18))⟩,[]),(⟨some 20,none,(.fld 1 (.tmp 19))⟩,[]),(⟨some 21,none,(.load true 4 (.tmp 20))⟩,[]),(⟨some 22,none,(.mov (.tmp 1))⟩,[]),(⟨some 23,none,(.mov (.tmp 5))⟩,[]),(⟨some 24,none,(.idx 5 (.tmp 22) (.tmp 23))⟩,[]),(⟨some 25,none,(.fld 1 (.tmp 24))⟩,[]),(⟨some 26,none,(.load true 4 (.tmp 25))⟩,[]),(⟨some 27,none,(.binP .neq 56 (.tmp 21) (.tmp 26))⟩,[]),(⟨some 28,none,(.mov (.tmp 27))⟩,[]),(⟨some 29,some (28,false),(.mov (.tmp 0))⟩,[]),(⟨some 30,some (28,false),(.mov (.tmp 5))⟩,[]),(⟨some 31,some (28,false),(.idx 5 (.tmp 29) (.tmp 30))⟩,[]),(⟨some 32,some (28,false),(.fld 0 (.tmp 31))⟩,[]),(⟨some 33,some (28,false),(.load false 1 (.tmp 32))⟩,[]),(⟨some 34,some (28,false),(.mov (.tmp 1))⟩,[]),(⟨some 35,some (28,false),(.mov (.tmp 5))⟩,[]),(⟨some 36,some (28,false),(.idx 5 (.tmp 34) (.tmp 35))⟩,[]),(⟨some 37,some (28,false),(.fld 0 (.tmp 36))⟩,[]),(⟨some 38,some (28,false),(.load false 1 (.tmp 37))⟩,[]),(⟨some 39,some (28,false),(.call (.func 43) [(.tmp 33),(.tmp 38)])⟩,[]),(⟨some 40,some (28,false),(.un .not (.tmp 39))⟩,[]),(⟨some 41,none,(.pick (.tmp 28) (.const (.bool true)) (.tmp 40))⟩,[])]) (.cond (.tmp 41) (.seq (.region [⟨some 4,none,(.mov (.const (.bool false)))⟩]) .ret) .skip))) (.region [⟨some 15,none,(.mov (.tmp 5))⟩,⟨some 16,none,(.bin .add (.tmp 15) (.const (.int .i64 1)))⟩,⟨some 5,none,(.mov (.tmp 16))⟩])))
noncomputable def body30:ACode:=(.seq (.region [⟨some 4,none,(.mov (.const (.bool false)))⟩]) (.seq (.seq (.region [⟨some 6,none,(.mov (.tmp 0))⟩,⟨some 7,none,(.len (.tmp 6))⟩,⟨some 8,none,(.mov (.tmp 1))⟩,⟨some 9,none,(.len (.tmp 8))⟩,⟨some 10,none,(.bin .neq (.tmp 7) (.tmp 9))⟩]) (.cond (.tmp 10) (.seq (.region [⟨some 4,none,(.mov (.const (.bool false)))⟩]) .ret) .skip)) (.seq (.seq (.region [⟨some 5,none,(.mov (.const (.int .i64 0)))⟩]) (.block 0 (.loop body30_0))) (.seq (.region [⟨some 4,none,(.mov (.const (.bool true)))⟩]) .ret))))
set_option maxRecDepth 100000 in
theorem tab30:tb.code 30=some ⟨42,[(4,none)],body30⟩:=by kernel_rfl
theorem zHl (h:AHeap) (v w:Value) (L:List LBlk) (sa:SlB h v L) (sb:SlB h w L) (hm:h.mark≤h.n) (hL:L.length≤1000) (hI:∀ b∈L,b.ins.length≤1000) (hX:∀ b∈L,∀ x∈b.ins,x.args.length≤20∧x.frm.length≤20):
  WC Tryz.prog tb 30 [v,w] h fun r h'=>r= .bool true∧Ext h h':=by
 refine WC.of (zG 30) tab30 ?_;simp only[zN,Nat.zero_add,Nat.reduceAdd]
 replace hI:=Hid.mk hI
 replace hX:=Hid.mk hX
 refine go ?_
 refine WX.loopA [11,12,13,14,17,18,19,20,21,22,23,24,25,26,27,28,29,30,31,32,33,34,35,36,37,38,39,40,41,4,15,16,5] (by kernel_rfl) (fun i=>L.length - i) (fun i t h1=>Ext h h1∧zB t 5=I i∧i≤L.length) 0 ?_ ?_
 ·exact⟨Ext.refl _,sl_,Nat.zero_le _⟩
 rintro i t h1 hsame ⟨e1,s5,hi⟩
 have sa1:=SlB.ext sa e1
 have sb1:=SlB.ext sb e1
 refine go ?_
 refine WX.br (fun hb=> ?_) (fun hb=> ?_)<;>simp only[DB]at hb
 ·have hi':i<L.length:=by omega
  have hmem:=zL (l:=L) hi'
  have hIl:=hI.out _ hmem
  have hXl:=hX.out _ hmem
  refine go ?_
  refine WX.regionU2 0 rfl rfl ?_
  have saX:SlB (inC (zF 0 h1)) v L:=sa1
  have sbX:SlB (inC (zF 0 h1)) w L:=sb1
  obtain⟨cs1,⟨v1,rfl,sn1,hl1⟩,pc1,hs1⟩:=zX saX hi'
  obtain⟨cs2,⟨v2,rfl,sn2,hl2⟩,pc2,hs2⟩:=zX sbX hi'
  generalize L.getD i default=B at *
  obtain⟨a1,a2,a3,rfl⟩:=zE sn1
  obtain⟨b1,b2,b3,rfl⟩:=zE sn2
  refine goU ?_
  refine WO.bp (ne_chk (xs:=#[.int .u8 B.fin.kind,I B.fin.a,I B.fin.to,I B.fin.els]) (ys:=#[.int .u8 B.fin.kind,I B.fin.a,I B.fin.to,I B.fin.els]) (b:=true) (by kernel_rfl) (by simp[YX,zC6,I])) ?_
  refine WO.nil ?_
  refine yo ?_
  refine goU ?_
  refine WO.con (zFX _ _ _ B.ins sn1 sn2 (Nat.le_refl _) hIl hXl) ?_
  rintro _ h2 ⟨rfl,e2⟩
  refine WO.nil ?_
  refine zAU e2 yq ?_
  refine goU ?_
  have e3:Ext h1 (outC h1 (inC h2)):=e2.reg
  refine go ?_
  exact zA (i+1) (by omega) ⟨e1.trans e3,sln,by omega⟩
 ·refine go ?_
  refine rt ?_
  exact⟨rfl,e1⟩
noncomputable def body14_0:ACode:=(.seq (.seq (.region [⟨some 21,none,(.mov (.tmp 5))⟩,⟨some 22,none,(.fld 1 (.tmp 2))⟩,⟨some 23,none,(.load false 1 (.tmp 22))⟩,⟨some 24,none,(.len (.tmp 23))⟩,⟨some 25,none,(.bin .lss (.tmp 21) (.tmp 24))⟩]) (.cond (.tmp 25) .skip (.exit 0))) (.seq (.block 1 (.seq (.regionC [(⟨some 28,none,(.fld 1 (.tmp 2))⟩,[]),(⟨some 29,none,(.load false 1 (.tmp 28))⟩,[]),(⟨some 30,none,(.mov (.tmp 5))⟩,[]),(⟨some 31,none,(.idx 2 (.tmp 29) (.tmp 30))⟩,[]),(⟨some 32,none,(.fld 0 (.tmp 31))⟩,[]),(⟨some 33,none,(.load false 1 (.tmp 32))⟩,[]),(⟨some 34,none,(.fld 1 (.tmp 3))⟩,[]),(⟨some 35,none,(.load false 1 (.tmp 34))⟩,[]),(⟨some 36,none,(.mov (.tmp 5))⟩,[]),(⟨some 37,none,(.idx 2 (.tmp 35) (.tmp 36))⟩,[]),(⟨some 38,none,(.fld 0 (.tmp 37))⟩,[]),(⟨some 39,none,(.load false 1 (.tmp 38))⟩,[]),(⟨some 40,none,(.bin .neq (.tmp 33) (.tmp 39))⟩,[]),(⟨some 41,none,(.mov (.tmp 40))⟩,[]),(⟨some 42,some (41,false),(.fld 1 (.tmp 2))⟩,[]),(⟨some 43,some (41,false),(.load false 1 (.tmp 42))⟩,[]),(⟨some 44,some (41,false),(.mov (.tmp 5))⟩,[]),(⟨some 45,some (41,false),(.idx 2 (.tmp 43) (.tmp 44))⟩,[]),(⟨some 46,some (41,false),(.fld 1 (.tmp 45))⟩,[]),(⟨some 47,some (41,false),(.load false 1 (.tmp 46))⟩,[]),(⟨some 48,some (41,false),(.fld 1 (.tmp 3))⟩,[]),(⟨some 49,some (41,false),(.load false 1 (.tmp 48))⟩,[]),(⟨some 50,some (41,false),(.mov (.tmp 5))⟩,[]),(⟨some 51,some (41,false),(.idx 2 (.tmp 49) (.tmp 50))⟩,[]),(⟨some 52,some (41,false),(.fld 1 (.tmp 51))⟩,[]),(⟨some 53,some (41,false),(.load false 1 (.tmp 52))⟩,[]),(⟨some 54,some (41,false),(.call (.func 30) [(.tmp 47),(.tmp 53)])⟩,[]),(⟨some 55,some (41,false),(.un .not (.tmp 54))⟩,[]),(⟨some 56,none,(.pick (.tmp 41) (.const (.bool true)) (.tmp 55))⟩,[])]) (.cond (.tmp 56) (.seq (.region [⟨some 4,none,(.mov (.const (.bool false)))⟩]) .ret) .skip))) (.region [⟨some 26,none,(.mov (.tmp 5))⟩,⟨some 27,none,(.bin .add (.tmp 26) (.const (.int .i64 1)))⟩,⟨some 5,none,(.mov (.tmp 27))⟩])))
noncomputable def body14:ACode:=(.seq (.region [⟨some 2,none,(.box (.tmp 0))⟩,⟨some 3,none,(.box (.tmp 1))⟩,⟨some 4,none,(.mov (.const (.bool false)))⟩]) (.seq (.seq (.region [⟨some 6,none,(.fld 1 (.tmp 2))⟩,⟨some 7,none,(.load false 1 (.tmp 6))⟩,⟨some 8,none,(.len (.tmp 7))⟩,⟨some 9,none,(.fld 1 (.tmp 3))⟩,⟨some 10,none,(.load false 1 (.tmp 9))⟩,⟨some 11,none,(.len (.tmp 10))⟩,⟨some 12,none,(.bin .neq (.tmp 8) (.tmp 11))⟩,⟨some 13,none,(.mov (.tmp 12))⟩,⟨some 14,some (13,false),(.fld 0 (.tmp 2))⟩,⟨some 15,some (13,false),(.load false 1 (.tmp 14))⟩,⟨some 16,some (13,false),(.fld 0 (.tmp 3))⟩,⟨some 17,some (13,false),(.load false 1 (.tmp 16))⟩,⟨some 18,some (13,false),(.call (.func 29) [(.tmp 15),(.tmp 17)])⟩,⟨some 19,some (13,false),(.un .not (.tmp 18))⟩,⟨some 20,none,(.pick (.tmp 13) (.const (.bool true)) (.tmp 19))⟩]) (.cond (.tmp 20) (.seq (.region [⟨some 4,none,(.mov (.const (.bool false)))⟩]) .ret) .skip)) (.seq (.seq (.region [⟨some 5,none,(.mov (.const (.int .i64 0)))⟩]) (.block 0 (.loop body14_0))) (.seq (.region [⟨some 4,none,(.mov (.const (.bool true)))⟩]) .ret))))
set_option maxRecDepth 100000 in
theorem tab14:tb.code 14=some ⟨57,[(4,none)],body14⟩:=by kernel_rfl
theorem rSame_ok (h:AHeap) (vt vf wt wf:Value) (T:List LType) (F:List LFn) (sm:Small T F) (smi:zCZ F) (hm:h.mark≤h.n) (st:SlT h vt T) (sf:SlF h vf F) (st2:SlT h wt T) (sf2:SlF h wf F):
  WC Tryz.prog tb 14 [.agg #[vt,vf],.agg #[wt,wf]] h fun r h'=>r= .bool true∧Ext h h':=by
 have hT:=sm.types
 have hF:=sm.funcs
 obtain⟨ta,tn,tk,rfl⟩:=zE st
 obtain⟨ga,gn,gk,rfl⟩:=zE sf
 obtain⟨ua,un,uk,rfl⟩:=zE st2
 obtain⟨za,zn,zk,rfl⟩:=zE sf2
 refine WC.of (zG 14) tab14 ?_;simp only[zN,Nat.zero_add,Nat.reduceAdd]
 refine go ?_
 refine WO.bx ?_
 intro p h1 e1 o1
 refine go ?_
 refine WO.bx ?_
 intro q h2 e2 o2
 have o1:=o1.ext e2
 have e12:=e1.trans e2
 have st_2:=st.ext e12
 have sf_2:=SlF.ext sf e12
 have st2_2:=st2.ext e12
 have sf2_2:=SlF.ext sf2 e12
 have hm2:=zh e12 hm
 refine go ?_
 refine WO.con (zG8 h2 _ _ T st_2 st2_2 (by omega) (fun x hx=>by have:=sm.parts x hx;omega)) ?_
 rintro _ _ ⟨rfl,rfl⟩
 refine go ?_
 refine WX.loopA [21,22,23,24,25,28,29,30,31,32,33,34,35,36,37,38,39,40,41,42,43,44,45,46,47,48,49,50,51,52,53,54,55,56,4,26,27,5] (by kernel_rfl) (fun i=>F.length - i) (fun i t h3=>Ext h2 h3∧zB t 5=I i∧i≤F.length) 0 ?_ ?_
 ·exact⟨Ext.refl _,sl_,Nat.zero_le _⟩
 rintro i t h3 hsame ⟨e3,s5,hi⟩
 have o1:=o1.ext e3
 have o2:=o2.ext e3
 have sf3:=SlF.ext sf_2 e3
 have sf23:=SlF.ext sf2_2 e3
 refine go ?_
 refine WX.br (fun hb=> ?_) (fun hb=> ?_)<;>simp only[DB]at hb
 ·have hi':i<F.length:=by omega
  have hmem:=zL (l:=F) hi'
  have hB:=sm.blocks _ hmem
  have hI:=sm.ins _ hmem
  have hX:=smi _ hmem
  refine go ?_
  refine WX.regionU2 0 rfl rfl ?_
  have o1X:OwnC h (inC (zF 0 h3)) p [_,_]:=o1
  have o2X:OwnC h1 (inC (zF 0 h3)) q [_,_]:=o2
  have saX:SlF (inC (zF 0 h3)) _ F:=sf3
  have sbX:SlF (inC (zF 0 h3)) _ F:=sf23
  obtain⟨cs1,⟨v1,rfl,sn1,hl1⟩,pc1,hs1⟩:=zX saX hi'
  obtain⟨cs2,⟨v2,rfl,sn2,hl2⟩,pc2,hs2⟩:=zX sbX hi'
  generalize F.getD i default=f at *
  obtain⟨a1,a2,a3,rfl⟩:=zE sn1
  obtain⟨b1,b2,b3,rfl⟩:=zE sn2
  refine goU ?_
  refine WO.con (zHl _ _ _ f.blocks sn1 sn2 (Nat.le_refl _) hB hI hX) ?_
  rintro _ h4 ⟨rfl,e4⟩
  refine WO.nil ?_
  refine zAU e4 yq ?_
  refine goU ?_
  have e5:Ext h3 (outC h3 (inC h4)):=e4.reg
  refine go ?_
  exact zA (i+1) (by omega) ⟨e3.trans e5,sln,by omega⟩
 ·refine go ?_
  refine rt ?_
  exact⟨rfl,e12.trans e3⟩
end Go.Proofs.YtdcgdfbblnljjaaGreatDoor
namespace Go.Proofs.YtdcgdfbblnljjaaGreatDoor
open Go.Am
set_option linter.unusedVariables false
set_option linter.unusedSimpArgs false
set_option maxHeartbeats 1000000
inductive Rch (nx:Int→List Int) (first:List Int) (but:Int):Int→Prop
 |here {a:Int}:a∈first→a≠but→Rch nx first but a
 |step {b c:Int}:Rch nx first but b→c∈nx b→c≠but→Rch nx first but c
theorem Rch.way {nx:Int→List Int} {first:List Int} {but c:Int} (h:Rch nx first but c):∃ a∈first,Way nx a c:=by
 induction h with
 |here h _=>exact⟨_,h,.here⟩
 |step _ hc _ ih=>obtain⟨a,h1,h2⟩:=ih;exact⟨a,h1,.step h2 hc⟩
theorem Rch.in {nx:Int→List Int} {first:List Int} {but c:Int} {N:Nat} (hin:∀ b,0≤b∧b<(N:Int)→∀ c∈nx b,0≤c∧c<(N:Int)) (hf:∀ a∈first,0≤a∧a<(N:Int)) (h:Rch nx first but c):0≤c∧c<(N:Int):=by
 induction h with
 |here h _=>exact hf _ h
 |step _ hc _ ih=>exact hin _ ih _ hc
theorem zGs {nx:Int→List Int} {first:List Int} {c:Int} {N:Nat} (hin:∀ b,0≤b∧b<(N:Int)→∀ c∈nx b,0≤c∧c<(N:Int)) (hf:∀ a∈first,0≤a∧a<(N:Int)):Rch nx first (-1) c↔∃ a∈first,Way nx a c:=by
 refine⟨Rch.way,fun hh=> ?_⟩
 obtain⟨a,h1,h2⟩:=hh
 have:Rch nx first (-1) c∧0≤c∧c<(N:Int):=by
  induction h2 with
  |here=>exact⟨.here h1 (by have:=hf a h1;omega),hf a h1⟩
  |step _ hc ih=>
   have:=hin _ ih.2 _ hc
   exact⟨.step ih.1 hc (by omega),this⟩
 exact this.1
abbrev bO (bs:List Bool) (j:Int):Bool:=bs.getD j.toNat false
theorem bO_set {bs:List Bool} {j c:Int} {b:Bool} (hc:0≤c∧c<(bs.length:Int)) (hj:0≤j):bO (bs.set c.toNat b) j=if j=c then b else bO bs j:=by
 unfold bO
 rw[List.getD_eq_getElem?_getD,List.getElem?_set]
 by_cases e:j=c
 ·subst e
  rw[if_pos rfl,if_pos (by omega),if_pos rfl];rfl
 ·rw[if_neg (by omega),if_neg e,List.getD_eq_getElem?_getD]
theorem zDh {xs ys:List Bool} (hl:xs.length=ys.length) (h:∀ j:Int,0≤j∧j<(xs.length:Int)→bO xs j=bO ys j):xs=ys:=by
 refine List.ext_getElem hl fun j h1 h2=> ?_
 have:=h (j:Int) (by omega)
 simpa [bO,List.getD,List.getElem?_eq_getElem h1,List.getElem?_eq_getElem h2]using this
def ClAt (nx:Int→List Int) (but:Int) (bs:List Bool) (j:Int):Prop:=bO bs j=true→∀ c∈nx j,c≠but→bO bs c=true
def Cl (nx:Int→List Int) (but:Int) (bs:List Bool):Prop:=∀ j:Int,0≤j∧j<(bs.length:Int)→ClAt nx but bs j
structure Swp (nx:Int→List Int) (first:List Int) (but:Int) (N:Nat) (bs0 bs:List Bool) (i:Nat):Prop where
 len0:bs0.length=N
 len:bs.length=N
 le:∀ j:Int,0≤j→bO bs0 j=true→bO bs j=true
 sound:∀ j:Int,0≤j→bO bs j=true→Rch nx first but j
 cl:Cl nx but bs0→bs=bs0
 fix:bs=bs0→∀ j:Int,0≤j∧j<(i:Int)→ClAt nx but bs j
theorem Swp.start {nx:Int→List Int} {first:List Int} {but:Int} {N:Nat} {bs:List Bool} (hl:bs.length=N) (hs:∀ j:Int,0≤j→bO bs j=true→Rch nx first but j):Swp nx first but N bs bs 0:=
 ⟨hl,hl,fun _ _ h=>h,hs,fun _=>rfl,fun _ j hj=>by omega⟩
theorem Swp.add {nx:Int→List Int} {first:List Int} {but:Int} {N i:Nat} {bs0 bs:List Bool} {c:Int} (s:Swp nx first but N bs0 bs i) (hi:bO bs i=true) (hc:c∈nx i) (hin:0≤c∧c<(N:Int)) (hiN:i<N):
  Swp nx first but N bs0 (bs.set c.toNat (bO bs c|| !decide (c=but))) i∧(bs.set c.toNat (bO bs c|| !decide (c=but))=bs0→bs=bs0)∧bO (bs.set c.toNat (bO bs c|| !decide (c=but))) i=true∧(c≠but→bO (bs.set c.toNat (bO bs c|| !decide (c=but))) c=true):=by
 have hlc:0≤c∧c<(bs.length:Int):=by rw[s.len];exact hin
 have get:∀ j:Int,0≤j→bO (bs.set c.toNat (bO bs c|| !decide (c=but))) j=if j=c then (bO bs c|| !decide (c=but)) else bO bs j:=fun j hj=>bO_set hlc hj
 have up:∀ j:Int,0≤j→bO bs j=true→bO (bs.set c.toNat (bO bs c|| !decide (c=but))) j=true:=fun j hj h=>by
  rw[get j hj]
  split
  ·rename_i e;subst e;rw[h];rfl
  ·exact h
 have back:bs.set c.toNat (bO bs c|| !decide (c=but))=bs0→bs=bs0:=fun e=>by
  refine zDh (by rw[s.len,s.len0]) fun j hj=> ?_
  cases h1:bO bs j with
  |true=>have:=up j hj.1 h1;rw[e]at this;exact this.symm
  |false=>
   cases h2:bO bs0 j with
   |false=>rfl
   |true=>rw[s.le j hj.1 h2]at h1;cases h1
 refine⟨⟨s.len0,by rw[List.length_set];exact s.len,fun j hj h=>up j hj (s.le j hj h),fun j hj h=> ?_,fun h=> ?_,fun e j hj=> ?_⟩,back,up i (by omega) hi,fun h=> ?_⟩
 ·rw[get j hj]at h
  split at h
  ·rename_i e
   subst e
   rw[Bool.or_eq_true]at h
   rcases h with h|h
   ·exact s.sound _ hj h
   ·exact .step (s.sound i (by omega) hi) hc (by simpa using h)
  ·exact s.sound j hj h
 ·have e:=s.cl h
  subst e
  refine zDh (by rw[List.length_set]) fun j hj=> ?_
  rw[List.length_set]at hj
  rw[get j hj.1]
  split
  ·rename_i e
   subst e
   by_cases hb:j=but
   ·simp[hb]
   ·rw[h i (by rw[s.len];omega) hi j hc hb];rfl
  ·rfl
 ·have e2:=back e
  have:=s.fix e2 j hj
  subst e2
  rw[e];exact this
 ·rw[get c hin.1,if_pos rfl];simp[h]
theorem Swp.next {nx:Int→List Int} {first:List Int} {but:Int} {N i:Nat} {bs0 bs:List Bool} (s:Swp nx first but N bs0 bs i) (h:bs=bs0→ClAt nx but bs i):Swp nx first but N bs0 bs (i+1):=
 ⟨s.len0,s.len,s.le,s.sound,s.cl,fun e j hj=>by
  by_cases hji:j=i
  ·rw[hji];exact h e
  ·exact s.fix e j (by omega)⟩
def cntB (bs:List Bool):Nat:=bs.countP id
theorem cntB_lt {xs ys:List Bool} (hl:xs.length=ys.length) (hle:∀ j:Int,0≤j→bO xs j=true→bO ys j=true) (hne:xs≠ys):cntB xs<cntB ys:=by
 unfold cntB
 induction xs generalizing ys with
 |nil=>cases ys with
  |nil=>exact absurd rfl hne
  |cons=>cases hl
 |cons x xs ih=>
  cases ys with
  |nil=>cases hl
  |cons y ys=>
   have hle':∀ j:Int,0≤j→bO xs j=true→bO ys j=true:=fun j hj h=>by
    have:=hle (j+1) (by omega)
    have e:(j+1).toNat=j.toNat+1:=by omega
    unfold bO at this h ⊢
    rw[e]at this
    simpa [List.getD]using this (by simpa [List.getD]using h)
   have h0:x=true→y=true:=fun h=>by have:=hle 0 (Int.le_refl _);simpa [bO,List.getD,h]using this
   have hlen:xs.length=ys.length:=by simpa using hl
   have mono:∀ {ps qs:List Bool},ps.length=qs.length→(∀ j:Int,0≤j→bO ps j=true→bO qs j=true)→ps.countP id≤qs.countP id:=by
    intro ps
    induction ps with
    |nil=>intro qs _ _;simp
    |cons a ps iha=>
     intro qs hl2 h2
     cases qs with
     |nil=>cases hl2
     |cons b qs=>
      have h3:∀ j:Int,0≤j→bO ps j=true→bO qs j=true:=fun j hj h=>by
       have:=h2 (j+1) (by omega)
       have e:(j+1).toNat=j.toNat+1:=by omega
       unfold bO at this h ⊢
       rw[e]at this
       simpa [List.getD]using this (by simpa [List.getD]using h)
      have h4:a=true→b=true:=fun h=>by have:=h2 0 (Int.le_refl _);simpa [bO,List.getD,h]using this
      have:=iha (by simpa using hl2) h3
      simp only[List.countP_cons,id]
      cases a with
      |true=>rw[h4 rfl];omega
      |false=>cases b<;>simp<;>omega
   have hm:=mono hlen hle'
   simp only[List.countP_cons,id]
   by_cases hxy:x=y
   ·subst hxy
    have:=ih hlen hle' (fun e=>hne (by rw[e]))
    omega
   ·cases x with
    |true=>exact absurd (h0 rfl).symm hxy
    |false=>
     cases y with
     |true=>simp;omega
     |false=>exact absurd rfl hxy
theorem cntB_all {bs:List Bool} (h:bs.length≤cntB bs) {j:Int} (hj:0≤j∧j<(bs.length:Int)):bO bs j=true:=by
 unfold cntB at h
 have h2:bs.countP id=bs.length:=Nat.le_antisymm List.countP_le_length h
 rw[List.countP_eq_length]at h2
 have hi:j.toNat<bs.length:=by omega
 have:=h2 (bs[j.toNat]) (List.getElem_mem hi)
 simpa [bO,List.getD,List.getElem?_eq_getElem hi]using this
structure Rds (nx:Int→List Int) (first:List Int) (but:Int) (N:Nat) (bs:List Bool) (n:Nat):Prop where
 len:bs.length=N
 sound:∀ j:Int,0≤j→bO bs j=true→Rch nx first but j
 init:∀ a∈first,a≠but→bO bs a=true
 cl:Cl nx but bs∨n≤cntB bs
theorem Rds.next {nx:Int→List Int} {first:List Int} {but:Int} {N n:Nat} {bs0 bs:List Bool} (hf:∀ a∈first,0≤a) (r:Rds nx first but N bs0 n) (s:Swp nx first but N bs0 bs N):Rds nx first but N bs (n+1):=by
 refine⟨s.len,s.sound,fun a ha hb=>s.le a (hf a ha) (r.init a ha hb),?_⟩
 by_cases e:bs=bs0
 ·left
  intro j hj
  exact s.fix e j (by rw[s.len]at hj;exact hj)
 ·right
  rcases r.cl with h|h
  ·exact absurd (s.cl h) e
  ·have:=cntB_lt (by rw[s.len,s.len0]) s.le (Ne.symm e)
   omega
theorem Rds.done {nx:Int→List Int} {first:List Int} {but:Int} {N:Nat} {bs:List Bool} (hin:∀ b,0≤b∧b<(N:Int)→∀ c∈nx b,0≤c∧c<(N:Int)) (hf:∀ a∈first,0≤a∧a<(N:Int)) (r:Rds nx first but N bs N) (j:Int) (hj:0≤j∧j<(N:Int)):bO bs j=true↔Rch nx first but j:=by
 refine⟨r.sound j hj.1,fun h=> ?_⟩
 have hcl:Cl nx but bs:=by
  rcases r.cl with h|h
  ·exact h
  ·intro i hi _ c hc _
   rw[r.len]at hi
   exact cntB_all (by rw[r.len];exact h) (by rw[r.len];exact hin i hi c hc)
 clear hj
 induction h with
 |here ha hb=>exact r.init _ ha hb
 |step hb hc hne ih=>exact hcl _ (by rw[r.len];exact hb.in hin hf) ih _ hc hne
end Go.Proofs.YtdcgdfbblnljjaaGreatDoor
namespace Go.Proofs.YtdcgdfbblnljjaaGreatDoor
open Go.Am
set_option linter.unusedVariables false
set_option linter.unusedSimpArgs false
set_option maxHeartbeats 1000000
noncomputable def body41:ACode:=(.seq (.region [⟨some 1,none,(.box (.tmp 0))⟩,⟨some 2,none,(.mov (.const (.slice none 0 0)))⟩]) (.seq (.seq (.region [⟨some 3,none,(.fld 0 (.tmp 1))⟩,⟨some 4,none,(.load false 1 (.tmp 3))⟩,⟨some 5,none,(.bin .eql (.tmp 4) (.const (.int .u8 1)))⟩,⟨some 6,none,(.mov (.tmp 5))⟩,⟨some 7,some (6,false),(.fld 0 (.tmp 1))⟩,⟨some 8,some (6,false),(.load false 1 (.tmp 7))⟩,⟨some 9,some (6,false),(.bin .eql (.tmp 8) (.const (.int .u8 2)))⟩,⟨some 10,some (6,false),(.mov (.tmp 9))⟩,⟨some 11,some (10,true),(.fld 2 (.tmp 1))⟩,⟨some 12,some (10,true),(.load false 1 (.tmp 11))⟩,⟨some 13,some (10,true),(.fld 3 (.tmp 1))⟩,⟨some 14,some (10,true),(.load false 1 (.tmp 13))⟩,⟨some 15,some (10,true),(.bin .eql (.tmp 12) (.tmp 14))⟩,⟨some 16,some (6,false),(.pick (.tmp 10) (.tmp 15) (.const (.bool false)))⟩,⟨some 17,none,(.pick (.tmp 6) (.const (.bool true)) (.tmp 16))⟩]) (.cond (.tmp 17) (.seq (.region [⟨some 18,none,(.fld 2 (.tmp 1))⟩,⟨some 19,none,(.load false 1 (.tmp 18))⟩,⟨some 20,none,(.buildSlice 1 1 [(.int .i64 0)] [(0,1,(.tmp 19))])⟩,⟨some 2,none,(.mov (.tmp 20))⟩]) .ret) .skip)) (.seq (.seq (.region [⟨some 21,none,(.fld 0 (.tmp 1))⟩,⟨some 22,none,(.load false 1 (.tmp 21))⟩,⟨some 23,none,(.bin .eql (.tmp 22) (.const (.int .u8 2)))⟩]) (.cond (.tmp 23) (.seq (.region [⟨some 24,none,(.fld 2 (.tmp 1))⟩,⟨some 25,none,(.load false 1 (.tmp 24))⟩,⟨some 26,none,(.fld 3 (.tmp 1))⟩,⟨some 27,none,(.load false 1 (.tmp 26))⟩,⟨some 28,none,(.buildSlice 2 1 [(.int .i64 0)] [(0,1,(.tmp 25)),(1,1,(.tmp 27))])⟩,⟨some 2,none,(.mov (.tmp 28))⟩]) .ret) .skip)) (.seq (.region [⟨some 2,none,(.mov (.const (.slice none 0 0)))⟩]) .ret))))
set_option maxRecDepth 100000 in
theorem tab41:tb.code 41=some ⟨29,[(2,none)],body41⟩:=by kernel_rfl
theorem to_ok (h:AHeap) (x:LEnd):
  WC Tryz.prog tb 41 [.agg #[.int .u8 x.kind,I x.a,I x.to,I x.els]] h fun r h'=>OwnN h h' r (ZQ x)∧Ext h h':=by
 refine WC.of (zG 41) tab41 ?_;simp only[zN,Nat.zero_add,Nat.reduceAdd]
 refine go ?_
 refine WO.bx ?_
 intro p h1 e1 o1
 unfold ZQ
 by_cases k1:x.kind=1
 ·rw[if_pos k1]
  refine go ?_
  refine WO.bl [x.to] ?_
  intro v h2 e2 o2
  refine go ?_
  refine rt ?_
  exact⟨.inr (o2.since e1),e1.trans e2⟩
 rw[if_neg k1]
 by_cases k2:x.kind=2
 ·rw[if_pos k2]
  by_cases k3:x.to=x.els
  ·rw[if_pos k3]
   refine go ?_
   refine WO.bl [x.to] ?_
   intro v h2 e2 o2
   refine go ?_
   refine rt ?_
   exact⟨.inr (o2.since e1),e1.trans e2⟩
  ·rw[if_neg k3]
   refine go ?_
   refine WO.bl [x.to,x.els] ?_
   intro v h2 e2 o2
   refine go ?_
   refine rt ?_
   exact⟨.inr (o2.since e1),e1.trans e2⟩
 ·rw[if_neg k2]
  refine go ?_
  refine rt ?_
  exact⟨.inl ⟨rfl,rfl⟩,e1⟩
noncomputable def body27_0:ACode:=(.seq (.seq (.region [⟨some 6,none,(.mov (.tmp 5))⟩,⟨some 7,none,(.mov (.tmp 0))⟩,⟨some 8,none,(.len (.tmp 7))⟩,⟨some 9,none,(.bin .lss (.tmp 6) (.tmp 8))⟩]) (.cond (.tmp 9) .skip (.exit 0))) (.seq (.block 1 (.seq (.region [⟨some 12,none,(.mov (.tmp 0))⟩,⟨some 13,none,(.mov (.tmp 5))⟩,⟨some 14,none,(.idx 1 (.tmp 12) (.tmp 13))⟩,⟨some 15,none,(.load false 1 (.tmp 14))⟩,⟨some 16,none,(.mov (.tmp 1))⟩,⟨some 17,none,(.bin .eql (.tmp 15) (.tmp 16))⟩]) (.cond (.tmp 17) (.seq (.region [⟨some 4,none,(.mov (.const (.bool true)))⟩]) .ret) .skip))) (.region [⟨some 10,none,(.mov (.tmp 5))⟩,⟨some 11,none,(.bin .add (.tmp 10) (.const (.int .i64 1)))⟩,⟨some 5,none,(.mov (.tmp 11))⟩])))
noncomputable def body27:ACode:=(.seq (.region [⟨some 4,none,(.mov (.const (.bool false)))⟩]) (.seq (.seq (.region [⟨some 5,none,(.mov (.const (.int .i64 0)))⟩]) (.block 0 (.loop body27_0))) (.seq (.region [⟨some 4,none,(.mov (.const (.bool false)))⟩]) .ret)))
set_option maxRecDepth 100000 in
theorem tab27:tb.code 27=some ⟨18,[(4,none)],body27⟩:=by kernel_rfl
theorem in_ok (h:AHeap) (v:Value) (l:List Int) (n:Int) (s:SlI h v l) (hl:(l.length:Int)≤1000000):
  WC Tryz.prog tb 27 [v,I n] h fun r h'=>r= .bool (decide (n∈l))∧h=h':=by
 refine WC.of (zG 27) tab27 ?_;simp only[zN,Nat.zero_add,Nat.reduceAdd]
 refine go ?_
 refine WX.loopA [6,7,8,9,12,13,14,15,16,17,4,10,11,5] (by kernel_rfl) (fun i=>l.length - i) (fun i t h1=>h=h1∧zB t 5=I i∧i≤l.length∧Hid (∀ j,j<i→l.getD j 0≠n)) 0 ?_ ?_
 ·exact⟨rfl,sl_,Nat.zero_le _,⟨fun j hj=>absurd hj (Nat.not_lt_zero _)⟩⟩
 rintro i t _ hsame ⟨rfl,s5,hi,hm⟩
 refine go ?_
 refine WX.br (fun hb=> ?_) (fun hb=> ?_)<;>simp only[DB]at hb
 ·have hi':i<l.length:=by omega
  by_cases he:l.getD i 0=n
  ·have hin:n∈l:=by rw[←he];exact z0 hi'
   refine go ?_
   refine rt ?_
   exact⟨by rw[decide_eq_true hin];rfl,rfl⟩
  ·refine go ?_
   refine zA (i+1) (by omega) ⟨rfl,sln,by omega,⟨fun j hj=> ?_⟩⟩
   by_cases e:j=i
   ·subst e;exact he
   ·exact hm.out j (by omega)
 ·have hno:n∉l:=fun hin=>by
   obtain⟨j,hj,e⟩:=ZA hin
   exact hm.out j (by omega) e
  refine go ?_
  refine rt ?_
  exact⟨by rw[decide_eq_false hno];rfl,rfl⟩
theorem zFz {h0 h h':AHeap} {v:Value} {bs:List Bool} (o:OwnBo h0 h v bs) {q:Nat} (hq:∃ n k,v= .slice (some ⟨q,0,none⟩) n k):h0.n≤q∧q<h.n:=by
 obtain⟨g,a,b,rfl,_⟩:=o
 obtain⟨n,k,e⟩:=hq
 cases e;exact⟨a,b⟩
theorem zBx {hA h h':AHeap} {v w:Value} {l:List Int} (o:OwnN hA h w l) (keep:∀ k,k<h.n→(∀ n k',v≠ .slice (some ⟨k,0,none⟩) n k')→h'.get k=h.get k) (hn:h.n≤h'.n) (hv:∀ q n k,v= .slice (some ⟨q,0,none⟩) n k→q<hA.n):OwnN hA h' w l:=by
 rcases o with o|⟨g,g1,g2,g3,g4⟩
 ·exact .inl o
 ·exact .inr ⟨g,g1,by omega,g3,(keep g g2 (fun n k' e=>by have:=hv g n k' e;omega)).trans g4⟩
noncomputable def body42_0:ACode:=(.seq (.seq (.region [⟨some 16,none,(.mov (.tmp 8))⟩,⟨some 17,none,(.mov (.tmp 1))⟩,⟨some 18,none,(.len (.tmp 17))⟩,⟨some 19,none,(.bin .lss (.tmp 16) (.tmp 18))⟩]) (.cond (.tmp 19) .skip (.exit 0))) (.seq (.block 1 (.regionC [(⟨some 22,none,(.mov (.tmp 7))⟩,[]),(⟨some 23,none,(.mov (.tmp 1))⟩,[]),(⟨some 24,none,(.mov (.tmp 8))⟩,[]),(⟨some 25,none,(.idx 1 (.tmp 23) (.tmp 24))⟩,[]),(⟨some 26,none,(.load false 1 (.tmp 25))⟩,[]),(⟨some 27,none,(.mov (.tmp 1))⟩,[]),(⟨some 28,none,(.mov (.tmp 8))⟩,[]),(⟨some 29,none,(.idx 1 (.tmp 27) (.tmp 28))⟩,[]),(⟨some 30,none,(.load false 1 (.tmp 29))⟩,[]),(⟨some 31,none,(.mov (.tmp 2))⟩,[]),(⟨some 32,none,(.bin .neq (.tmp 30) (.tmp 31))⟩,[]),(⟨some 33,none,(.idx 1 (.tmp 22) (.tmp 26))⟩,[]),(⟨none,none,(.store 1 (.tmp 33) (.tmp 32))⟩,[])])) (.region [⟨some 20,none,(.mov (.tmp 8))⟩,⟨some 21,none,(.bin .add (.tmp 20) (.const (.int .i64 1)))⟩,⟨some 8,none,(.mov (.tmp 21))⟩])))
noncomputable def body42_1:ACode:=(.seq (.seq (.region [⟨some 52,none,(.mov (.tmp 12))⟩,⟨some 53,none,(.mov (.tmp 11))⟩,⟨some 54,none,(.len (.tmp 53))⟩,⟨some 55,none,(.bin .lss (.tmp 52) (.tmp 54))⟩,⟨some 56,none,(.mov (.tmp 55))⟩,⟨some 57,some (56,true),(.mov (.tmp 7))⟩,⟨some 58,some (56,true),(.mov (.tmp 10))⟩,⟨some 59,some (56,true),(.idx 1 (.tmp 57) (.tmp 58))⟩,⟨some 60,some (56,true),(.load false 1 (.tmp 59))⟩,⟨some 61,none,(.pick (.tmp 56) (.tmp 60) (.const (.bool false)))⟩]) (.cond (.tmp 61) .skip (.exit 6))) (.seq (.block 7 (.regionC [(⟨some 64,none,(.mov (.tmp 7))⟩,[]),(⟨some 65,none,(.mov (.tmp 11))⟩,[]),(⟨some 66,none,(.mov (.tmp 12))⟩,[]),(⟨some 67,none,(.idx 1 (.tmp 65) (.tmp 66))⟩,[]),(⟨some 68,none,(.load false 1 (.tmp 67))⟩,[]),(⟨some 69,none,(.mov (.tmp 7))⟩,[]),(⟨some 70,none,(.mov (.tmp 11))⟩,[]),(⟨some 71,none,(.mov (.tmp 12))⟩,[]),(⟨some 72,none,(.idx 1 (.tmp 70) (.tmp 71))⟩,[]),(⟨some 73,none,(.load false 1 (.tmp 72))⟩,[]),(⟨some 74,none,(.idx 1 (.tmp 69) (.tmp 73))⟩,[]),(⟨some 75,none,(.load false 1 (.tmp 74))⟩,[]),(⟨some 76,none,(.mov (.tmp 75))⟩,[]),(⟨some 77,some (76,false),(.mov (.tmp 11))⟩,[]),(⟨some 78,some (76,false),(.mov (.tmp 12))⟩,[]),(⟨some 79,some (76,false),(.idx 1 (.tmp 77) (.tmp 78))⟩,[]),(⟨some 80,some (76,false),(.load false 1 (.tmp 79))⟩,[]),(⟨some 81,some (76,false),(.mov (.tmp 2))⟩,[]),(⟨some 82,some (76,false),(.bin .neq (.tmp 80) (.tmp 81))⟩,[]),(⟨some 83,none,(.pick (.tmp 76) (.const (.bool true)) (.tmp 82))⟩,[]),(⟨some 84,none,(.idx 1 (.tmp 64) (.tmp 68))⟩,[]),(⟨none,none,(.store 1 (.tmp 84) (.tmp 83))⟩,[])])) (.region [⟨some 62,none,(.mov (.tmp 12))⟩,⟨some 63,none,(.bin .add (.tmp 62) (.const (.int .i64 1)))⟩,⟨some 12,none,(.mov (.tmp 63))⟩])))
noncomputable def body42_2:ACode:=(.seq (.seq (.region [⟨some 40,none,(.mov (.tmp 10))⟩,⟨some 41,none,(.mov (.tmp 0))⟩,⟨some 42,none,(.len (.tmp 41))⟩,⟨some 43,none,(.bin .lss (.tmp 40) (.tmp 42))⟩]) (.cond (.tmp 43) .skip (.exit 4))) (.seq (.block 5 (.seq (.region [⟨some 46,none,(.mov (.tmp 0))⟩,⟨some 47,none,(.mov (.tmp 10))⟩,⟨some 48,none,(.idx 5 (.tmp 46) (.tmp 47))⟩,⟨some 49,none,(.fld 1 (.tmp 48))⟩,⟨some 50,none,(.load true 4 (.tmp 49))⟩,⟨some 51,none,(.call (.func 41) [(.tmp 50)])⟩,⟨some 11,none,(.mov (.tmp 51))⟩]) (.seq (.region [⟨some 12,none,(.mov (.const (.int .i64 0)))⟩]) (.block 6 (.loop body42_1))))) (.region [⟨some 44,none,(.mov (.tmp 10))⟩,⟨some 45,none,(.bin .add (.tmp 44) (.const (.int .i64 1)))⟩,⟨some 10,none,(.mov (.tmp 45))⟩])))
noncomputable def body42_3:ACode:=(.seq (.seq (.region [⟨some 34,none,(.mov (.tmp 9))⟩,⟨some 35,none,(.mov (.tmp 0))⟩,⟨some 36,none,(.len (.tmp 35))⟩,⟨some 37,none,(.bin .lss (.tmp 34) (.tmp 36))⟩]) (.cond (.tmp 37) .skip (.exit 2))) (.seq (.block 3 (.seq (.region [⟨some 10,none,(.mov (.const (.int .i64 0)))⟩]) (.block 4 (.loop body42_2)))) (.region [⟨some 38,none,(.mov (.tmp 9))⟩,⟨some 39,none,(.bin .add (.tmp 38) (.const (.int .i64 1)))⟩,⟨some 9,none,(.mov (.tmp 39))⟩])))
noncomputable def body42:ACode:=(.seq (.region [⟨some 6,none,(.mov (.const (.slice none 0 0)))⟩]) (.seq (.region [⟨some 13,none,(.mov (.tmp 0))⟩,⟨some 14,none,(.len (.tmp 13))⟩,⟨some 15,none,(.mkSlice 1 [(.bool false)] (.tmp 14) (.tmp 14))⟩,⟨some 7,none,(.mov (.tmp 15))⟩]) (.seq (.seq (.region [⟨some 8,none,(.mov (.const (.int .i64 0)))⟩]) (.block 0 (.loop body42_0))) (.seq (.seq (.region [⟨some 9,none,(.mov (.const (.int .i64 0)))⟩]) (.block 2 (.loop body42_3))) (.seq (.region [⟨some 85,none,(.mov (.tmp 7))⟩,⟨some 6,none,(.mov (.tmp 85))⟩]) .ret)))))
set_option maxRecDepth 100000 in
theorem tab42:tb.code 42=some ⟨86,[(6,none)],body42⟩:=by kernel_rfl
theorem zEO (h:AHeap) (v w:Value) (L:List LBlk) (first:List Int) (but:Int) (hm:h.mark≤h.n) (sb:SlB h v L) (sw:SlI h w first) (hL:L.length≤16) (hin:∀ c,0≤c∧c<(L.length:Int)→∀ d∈nxL L c,0≤d∧d<(L.length:Int)) (hf:∀ a∈first,0≤a∧a<(L.length:Int)) (hfl:first.length≤1000):
  WC Tryz.prog tb 42 [v,w,I but] h fun r h'=>(∃ bs:List Bool,OwnBo h h' r bs∧bs.length=L.length∧∀ j:Int,0≤j∧j<(L.length:Int)→(bO bs j=true↔Rch (nxL L) first but j))∧Ext h h':=by
 replace hin:=Hid.mk hin
 replace hf:=Hid.mk hf
 refine WC.of (zG 42) tab42 ?_;simp only[zN,Nat.zero_add,Nat.reduceAdd]
 refine go ?_
 refine WO.mkBo (n:=L.length) (by omega) ?_
 intro r h1 e1 o1
 have hrl:∀ j:Int,bO (List.replicate L.length false) j=false:=fun j=>by
  unfold bO;rw[List.getD_eq_getElem?_getD,List.getElem?_replicate];split<;>rfl
 refine go ?_
 refine WX.loopA [16,17,18,19,22,23,24,25,26,27,28,29,30,31,32,33,20,21,8] (by kernel_rfl) (fun i=>first.length - i) (fun i t h2=>Ext h h2∧zB t 8=I i∧i≤first.length∧∃ bs:List Bool,OwnBo h h2 r bs∧bs.length=L.length∧Hid ((∀ j:Int,0≤j→bO bs j=true→Rch (nxL L) first but j)∧∀ k,k<i→first.getD k 0≠but→bO bs (first.getD k 0)=true)) 0 ?_ ?_
 ·exact⟨e1,sl_,Nat.zero_le _,_,o1,by simp,⟨⟨fun j hj hh=>(by rw[hrl]at hh;cases hh),fun k hk=>absurd hk (Nat.not_lt_zero _)⟩⟩⟩
 clear o1 hrl
 rintro i t h2 hsame ⟨e2,s8,hi,bs,o2,hbl,hP⟩
 have sw2:=sw.ext e2
 refine go ?_
 refine WX.br (fun hb=> ?_) (fun hb=> ?_)<;>simp only[DB]at hb
 ·have hi':i<first.length:=by omega
  have hfi:=hf.out _ (z0 hi')
  have hbd:(first.getD i 0).toNat<bs.length:=by omega
  refine go ?_
  refine WX.regionU2 0 rfl rfl ?_
  have swX:SlI (inC (zF 0 h2)) w first:=sw2
  have oX:OwnBo h (zF 0 h2) r bs:=o2
  have sX:SlBo (inC (zF 0 h2)) r bs:=o2.sl
  refine goU ?_
  refine WU2.stBo (hS:=h2) (i:=(first.getD i 0).toNat) (b:= !decide (first.getD i 0=but)) oX e2 (by rw[e2.mark];exact hm) rfl hbd ?_
  intro h3 e3 o3 _ _
  refine go ?_
  have hset:∀ j:Int,0≤j→bO (bs.set (first.getD i 0).toNat (!decide (first.getD i 0=but))) j=if j=first.getD i 0 then !decide (first.getD i 0=but) else bO bs j:=fun j hj=>bO_set (by omega) hj
  refine zA (i+1) (by omega) ⟨e3,sln,by omega,_,o3,by rw[List.length_set];exact hbl,⟨⟨fun j hj hh=> ?_,fun k hk hne=> ?_⟩⟩⟩
  ·rw[hset j hj]at hh
   split at hh
   ·rename_i e;rw[e];exact .here (z0 hi') (by simpa using hh)
   ·exact hP.out.1 j hj hh
  ·by_cases e:k=i
   ·subst e
    rw[hset _ hfi.1,if_pos rfl];simpa using hne
   ·have hk':k<first.length:=by omega
    rw[hset _ (hf.out _ (z0 hk')).1]
    split
    ·rename_i e2;rw[e2]at hne;simpa using hne
    ·exact hP.out.2 k (by omega) hne
 have hii:i=first.length:=by omega
 subst hii
 have hR:Hid (Rds (nxL L) first but L.length bs 0):=⟨⟨hbl,hP.out.1,fun a ha hb=>by
  obtain⟨k,hk,rfl⟩:=ZA ha
  exact hP.out.2 k hk hb,.inr (Nat.zero_le _)⟩⟩
 clear hP
 refine go ?_
 refine WX.loopA [34,35,36,37,10,40,41,42,43,46,47,48,49,50,51,11,12,52,53,54,55,56,57,58,59,60,61,64,65,66,67,68,69,70,71,72,73,74,75,76,77,78,79,80,81,82,83,84,62,63,12,44,45,10,38,39,9] (by kernel_rfl) (fun n=>L.length - n) (fun n t h3=>Ext h h3∧zB t 9=I n∧n≤L.length∧∃ bs:List Bool,OwnBo h h3 r bs∧Hid (Rds (nxL L) first but L.length bs n)) 0 ?_ ?_
 ·exact⟨e2,sl_,Nat.zero_le _,_,o2,hR⟩
 clear hR o2 hbl bs
 rintro n t3 h3 hsame3 ⟨e3,s9,hn,bs0,o3,hR⟩
 have sb3:=SlB.ext sb e3
 refine go ?_
 refine WX.br (fun hb=> ?_) (fun hb=> ?_)<;>simp only[DB]at hb
 case refine_2=>
  have hnn:n=L.length:=by omega
  subst hnn
  have hdone:=Rds.done hin.out hf.out hR.out
  have hlen:=hR.out.len
  refine go ?_
  refine rt ?_
  exact⟨⟨bs0,o3,hlen,fun j hj=>hdone j hj⟩,e3⟩
 refine go ?_
 refine WX.loopA [40,41,42,43,46,47,48,49,50,51,11,12,52,53,54,55,56,57,58,59,60,61,64,65,66,67,68,69,70,71,72,73,74,75,76,77,78,79,80,81,82,83,84,62,63,12,44,45,10] (by kernel_rfl) (fun i=>L.length - i) (fun i t h4=>Ext h h4∧zB t 10=I i∧i≤L.length∧∃ bs:List Bool,OwnBo h h4 r bs∧Hid (Swp (nxL L) first but L.length bs0 bs i)) 0 ?_ ?_
 ·exact⟨e3,sl_,Nat.zero_le _,_,o3,⟨Swp.start hR.out.len hR.out.sound⟩⟩
 clear o3
 rintro i t4 h4 hsame4 ⟨e4,s10,hi,bs,o4,hS⟩
 have sb4:=SlB.ext sb e4
 refine go ?_
 refine WX.br (fun hc=> ?_) (fun hc=> ?_)<;>simp only[DB]at hc
 case refine_2=>
  have hii:i=L.length:=by omega
  subst hii
  refine go ?_
  exact zA (n+1) (by omega) ⟨e4,sln,by omega,_,o4,⟨Rds.next (fun a ha=>(hf.out a ha).1) hR.out hS.out⟩⟩
 have hi':i<L.length:=by omega
 obtain⟨cs,⟨vi,rfl,si,hsi⟩,pc,hs⟩:=zX sb4 hi'
 obtain⟨_,_,_,rfl⟩:=zE si
 refine go ?_
 refine WO.con (to_ok h4 (L.getD i default).fin) ?_
 rintro u h5 ⟨ou,e5⟩
 have hnx:ZQ (L.getD i default).fin=nxL L i:=by unfold nxL;rw[Int.toNat_natCast]
 rw[hnx]at ou
 have hul:(nxL L i).length≤2:=zFQ _
 have hinI:=Hid.mk (hin.out i (by omega))
 have hqv:∀ q n k,r= .slice (some ⟨q,0,none⟩) n k→q<h4.n:=fun q n k e=>(zFz (h':=h4) o4 ⟨n,k,e⟩).2
 have o5:=o4.ext e5
 have e45:=e4.trans e5
 clear pc
 generalize hX:nxL L i=X at *
 refine go ?_
 refine WX.loopA [52,53,54,55,56,57,58,59,60,61,64,65,66,67,68,69,70,71,72,73,74,75,76,77,78,79,80,81,82,83,84,62,63,12] (by kernel_rfl) (fun k=>X.length - k) (fun k t h6=>Ext h h6∧zB t 12=I k∧k≤X.length∧OwnN h4 h6 u X∧∃ bs:List Bool,OwnBo h h6 r bs∧Hid (Swp (nxL L) first but L.length bs0 bs i∧(bs=bs0→bO bs i=true→∀ k',k'<k→X.getD k' 0≠but→bO bs (X.getD k' 0)=true))) 0 ?_ ?_
 ·exact⟨e45,sl_,Nat.zero_le _,ou,_,o5,⟨⟨hS.out,fun _ _ k hk=>absurd hk (Nat.not_lt_zero _)⟩⟩⟩
 clear o4 o5 hS ou e45
 rintro k t6 h6 hsame6 ⟨e6,s12,hk,ou,bs,o6,hS⟩
 have hlen:=hS.out.1.len
 have su:=ou.sl
 have sr:=o6.sl
 by_cases hkX:(k:Int)<X.length
 case neg=>
  have hkk:k=X.length:=by omega
  subst hkk
  refine go ?_
  refine zA (i+1) (by omega) ⟨e6,sln,by omega,_,o6,⟨hS.out.1.next fun e hb c hc hne=> ?_⟩⟩
  rw[hX]at hc
  obtain⟨k',hk',rfl⟩:=ZA hc
  exact hS.out.2 e hb k' hk' hne
 have hk':k<X.length:=by omega
 obtain⟨cs1,hcs1,pc1,hs1⟩:=zX sr (i:=i) (by omega)
 have hcs1:cs1=[.bool (bO bs i)]:=by
  have:bs.getD i default=bO bs i:=by unfold bO;rw[Int.toNat_natCast];rfl
  rw[←this];exact hcs1
 subst hcs1
 by_cases hbi:bO bs i=true
 case neg=>
  have hbi':bO bs i=false:=by simpa using hbi
  refine go ?_
  refine zA (i+1) (by omega) ⟨e6,sln,by omega,_,o6,⟨hS.out.1.next fun e hb=>absurd hb hbi⟩⟩
 have hci:=hinI.out _ (z0 hk')
 have hcm:=z0 hk'
 obtain⟨c,hc0⟩:∃ c,X.getD k 0=c:=⟨_,rfl⟩
 rw[hc0]at hci hcm
 have hcb:c.toNat<bs.length:=by omega
 rw[←hX]at hcm
 obtain⟨s1,s2,s3,s4⟩:=hS.out.1.add hbi hcm (by omega) hi'
 have hfin:Hid (Swp (nxL L) first but L.length bs0 (bs.set c.toNat (bO bs c|| !decide (c=but))) i∧(bs.set c.toNat (bO bs c|| !decide (c=but))=bs0→bO (bs.set c.toNat (bO bs c|| !decide (c=but))) i=true→∀ k',k'<k+1→X.getD k' 0≠but→bO (bs.set c.toNat (bO bs c|| !decide (c=but))) (X.getD k' 0)=true)):=by
  refine⟨⟨s1,fun e _ k' hk2 hne=> ?_⟩⟩
  by_cases ek:k'=k
  ·subst ek;rw[hc0]at hne ⊢;exact s4 hne
  ·have e2:=s2 e
   have:=hS.out.2 e2 hbi k' (by omega) hne
   rw[e,←e2];exact this
 clear s1 s2 s3 s4 hS
 have s0:=hc0
 refine go ?_
 refine WX.regionU2 0 rfl rfl ?_
 have suX:SlI (inC (zF 0 h6)) u X:=su
 have oX:OwnBo h (zF 0 h6) r bs:=o6
 have sX:SlBo (inC (zF 0 h6)) r bs:=o6.sl
 obtain⟨cs2,hcs2,pc2,hs2⟩:=zX sX (i:=c.toNat) hcb
 have hcs2:cs2=[.bool (bO bs c)]:=hcs2
 subst hcs2
 refine goU ?_
 rw[hc0]
 refine goU ?_
 cases hbc:bO bs c with
 |true=>
  rw[hbc]at hfin pc2
  refine goU ?_
  refine WU2.stBo (hS:=h6) (i:=c.toNat) (b:=true) oX e6 (by rw[e6.mark];exact hm) rfl hcb ?_
  intro h7 e7 o7 keep hn7
  refine go ?_
  exact zA (k+1) (by omega) ⟨e7,sln,by omega,zBx ou keep hn7 hqv,_,o7,hfin⟩
 |false=>
  rw[hbc]at hfin pc2
  refine goU ?_
  rw[hc0]
  refine goU ?_
  refine WU2.stBo (hS:=h6) (i:=c.toNat) (b:= !decide (c=but)) oX e6 (by rw[e6.mark];exact hm) rfl hcb ?_
  intro h7 e7 o7 keep hn7
  refine go ?_
  exact zA (k+1) (by omega) ⟨e7,sln,by omega,zBx ou keep hn7 hqv,_,o7,hfin⟩
end Go.Proofs.YtdcgdfbblnljjaaGreatDoor
namespace Go.Proofs.YtdcgdfbblnljjaaGreatDoor
open Go.Am
set_option linter.unusedVariables false
set_option linter.unusedSimpArgs false
set_option maxHeartbeats 1000000
end Go.Proofs.YtdcgdfbblnljjaaGreatDoor
namespace Go.Proofs.YtdcgdfbblnljjaaGreatDoor
open Go.Am
set_option linter.unusedVariables false
set_option linter.unusedSimpArgs false
set_option maxHeartbeats 1000000
def Ris (l:List Int):Prop:=∀ i,i+1<l.length→l.getD i 0<l.getD (i+1) 0
theorem Ris.tail {a:Int} {l:List Int} (h:Ris (a::l)):Ris l:=fun i hi=>by
 have:=h (i+1) (by simp only[List.length_cons];omega)
 simpa [List.getD]using this
theorem Ris.lt {l:List Int}:∀ {a:Int},Ris (a::l)→∀ x∈l,a<x:=by
 induction l with
 |nil=>intro a _ x hx;cases hx
 |cons b l ih=>
  intro a h x hx
  have h0:a<b:=by have:=h 0 (by simp);simpa [List.getD]using this
  rcases List.mem_cons.1 hx with rfl|hx
  ·exact h0
  ·have:=ih h.tail x hx;omega
theorem zGF (p:Nat→Bool) (n:Nat):Ris (((List.range n).filter p).map fun (i:Nat)=>(i:Int)):=by
 intro i hi
 have hp:((List.range n).filter p).Pairwise (·<·):=List.Pairwise.filter _ List.pairwise_lt_range
 rw[List.length_map]at hi
 have:=List.pairwise_iff_getElem.1 hp i (i+1) (by omega) hi (by omega)
 simp only[List.getD_eq_getElem?_getD,List.getElem?_map,List.getElem?_eq_getElem hi,List.getElem?_eq_getElem (show i<((List.range n).filter p).length by omega),Option.map_some,Option.getD_some]
 omega
noncomputable def body28_0:ACode:=(.seq (.seq (.region [⟨some 9,none,(.mov (.tmp 5))⟩,⟨some 10,none,(.mov (.tmp 4))⟩,⟨some 11,none,(.len (.tmp 10))⟩,⟨some 12,none,(.bin .lss (.tmp 9) (.tmp 11))⟩]) (.cond (.tmp 12) .skip (.exit 0))) (.seq (.block 1 (.seq (.region [⟨some 15,none,(.mov (.tmp 4))⟩,⟨some 16,none,(.mov (.tmp 5))⟩,⟨some 17,none,(.idx 1 (.tmp 15) (.tmp 16))⟩,⟨some 18,none,(.load false 1 (.tmp 17))⟩]) (.cond (.tmp 18) (.region [⟨some 19,none,(.mov (.tmp 3))⟩,⟨some 20,none,(.mov (.tmp 5))⟩,⟨some 21,none,(.buildSlice 1 1 [(.int .i64 0)] [(0,1,(.tmp 20))])⟩,⟨some 22,none,(.append 1 (.tmp 19) (.tmp 21))⟩,⟨some 3,none,(.mov (.tmp 22))⟩]) .skip))) (.region [⟨some 13,none,(.mov (.tmp 5))⟩,⟨some 14,none,(.bin .add (.tmp 13) (.const (.int .i64 1)))⟩,⟨some 5,none,(.mov (.tmp 14))⟩])))
noncomputable def body28:ACode:=(.seq (.region [⟨some 2,none,(.mov (.const (.slice none 0 0)))⟩]) (.seq (.region [⟨some 3,none,(.mov (.const (.slice none 0 0)))⟩]) (.seq (.region [⟨some 6,none,(.mov (.tmp 0))⟩,⟨some 7,none,(.buildSlice 1 1 [(.int .i64 0)] [(0,1,(.const (.int .i64 0)))])⟩,⟨some 8,none,(.call (.func 42) [(.tmp 6),(.tmp 7),(.const (.int .i64 (-1)))])⟩,⟨some 4,none,(.mov (.tmp 8))⟩]) (.seq (.seq (.region [⟨some 5,none,(.mov (.const (.int .i64 0)))⟩]) (.block 0 (.loop body28_0))) (.seq (.region [⟨some 23,none,(.mov (.tmp 3))⟩,⟨some 2,none,(.mov (.tmp 23))⟩]) .ret)))))
set_option maxRecDepth 100000 in
theorem tab28:tb.code 28=some ⟨24,[(2,none)],body28⟩:=by kernel_rfl
def onL (bs:List Bool) (n:Nat):List Int:=((List.range n).filter fun (i:Nat)=>bO bs (i:Int)).map fun (i:Nat)=>(i:Int)
theorem onL_succ (bs:List Bool) (n:Nat):onL bs (n+1)=if bO bs (n:Int) then onL bs n++[(n:Int)] else onL bs n:=by
 unfold onL
 rw[List.range_succ,List.filter_append,List.map_append]
 by_cases h:bO bs (n:Int)=true
 ·rw[if_pos h,List.filter_cons_of_pos (by simpa using h)];rfl
 ·rw[if_neg h,List.filter_cons_of_neg (by simpa using h)];simp
theorem zGz (bs:List Bool) (n:Nat):(onL bs n).length≤n:=by
 unfold onL
 rw[List.length_map]
 exact Nat.le_trans (List.length_filter_le _ _) (by simp)
theorem mem_onL {bs:List Bool} {n:Nat} {x:Int}:x∈onL bs n↔(0≤x∧x<(n:Int))∧bO bs x=true:=by
 unfold onL
 rw[List.mem_map]
 constructor
 ·rintro⟨i,hi,rfl⟩
  rw[List.mem_filter,List.mem_range]at hi
  exact⟨by omega,hi.2⟩
 ·rintro⟨h1,h2⟩
  refine⟨x.toNat,?_,by omega⟩
  rw[List.mem_filter,List.mem_range]
  refine⟨by omega,?_⟩
  rw[show ((x.toNat:Nat):Int)=x by omega];exact h2
theorem zGX (h:AHeap) (v:Value) (L:List LBlk) (hm:h.mark≤h.n) (sb:SlB h v L) (hL:L.length≤16) (hL0:0<L.length) (hin:∀ c,0≤c∧c<(L.length:Int)→∀ d∈nxL L c,0≤d∧d<(L.length:Int)):
  WC Tryz.prog tb 28 [v] h fun r h'=>(∃ l,OwnN h h' r l∧Ris l∧l.length≤16∧∀ c,c∈l↔Way (nxL L) 0 c)∧Ext h h':=by
 have hf0:∀ a∈([0]:List Int),0≤a∧a<(L.length:Int):=fun a ha=>by rw[List.mem_singleton]at ha;subst ha;omega
 have hrw:∀ c,Rch (nxL L) [0] (-1) c↔Way (nxL L) 0 c:=fun c=>by
  rw[zGs hin hf0]
  exact⟨fun ⟨a,ha,w⟩=>by rw[List.mem_singleton]at ha;subst ha;exact w,fun w=>⟨0,by simp,w⟩⟩
 have hwin:∀ c,Way (nxL L) 0 c→0≤c∧c<(L.length:Int):=fun c w=>((hrw c).2 w).in hin hf0
 replace hwin:=Hid.mk hwin
 replace hrw:=Hid.mk hrw
 refine WC.of (zG 28) tab28 ?_;simp only[zN,Nat.zero_add,Nat.reduceAdd]
 refine go ?_
 refine WO.bl [0] ?_
 intro v1 h1 e1 o1
 refine go ?_
 refine WO.con (zEO h1 v v1 L [0] (-1) (zh e1 hm) (SlB.ext sb e1) o1.sl hL hin hf0 (by simp)) ?_
 rintro r h2 ⟨⟨bs,ob,hbl,hbs⟩,e2⟩
 replace hbs:=Hid.mk hbs
 have e12:=e1.trans e2
 refine go ?_
 refine WX.loopA [9,10,11,12,15,16,17,18,19,20,21,22,3,13,14,5] (by kernel_rfl) (fun i=>L.length - i) (fun i t h3=>Ext h2 h3∧zB t 5=I i∧i≤L.length∧∃ w,zB t 3=w∧OwnN h2 h3 w (onL bs i)) 0 ?_ ?_
 ·exact⟨Ext.refl _,sl_,Nat.zero_le _,_,sl_,.inl ⟨rfl,rfl⟩⟩
 rintro i t h3 hsame ⟨e3,s5,hi,w,s3,ow⟩
 have sr:SlBo h3 r bs:=(ob.ext e3).sl
 refine go ?_
 refine WX.br (fun hb=> ?_) (fun hb=> ?_)<;>simp only[DB]at hb
 ·have hi':i<L.length:=by omega
  obtain⟨cs1,hcs1,pc1,hs1⟩:=zX sr (i:=i) (by omega)
  have hcs1:cs1=[.bool (bO bs i)]:=by
   have:bs.getD i default=bO bs i:=by unfold bO;rw[Int.toNat_natCast];rfl
   rw[←this];exact hcs1
  subst hcs1
  have hsucc:=onL_succ bs i
  have hln:=zGz bs i
  cases hbi:bO bs i with
  |true=>
   rw[hbi]at pc1
   rw[hbi,if_pos rfl]at hsucc
   refine go ?_
   refine WO.bl [(i:Int)] ?_
   intro v4 h4 e4 o4
   refine go ?_
   refine WO.apN (ow.ext e4) o4.sl (e3.trans e4) (by simp only[List.length_singleton];omega) ?_
   intro v5 h5 e5 o5
   refine go ?_
   exact zA (i+1) (by omega) ⟨e5,sln,by omega,v5,sl_,by rw[hsucc];exact o5⟩
  |false=>
   rw[hbi]at pc1
   rw[hbi,if_neg (by simp)]at hsucc
   refine go ?_
   exact zA (i+1) (by omega) ⟨e3,sln,by omega,w,sl_,by rw[hsucc];exact ow⟩
 ·have hii:i=L.length:=by omega
  subst hii
  refine go ?_
  refine rt ?_
  have hln:=zGz bs L.length
  refine⟨⟨_,ow.since e12,zGF _ _,by omega,fun c=> ?_⟩,e12.trans e3⟩
  rw[mem_onL]
  exact⟨fun hh=>(hrw.out c).1 ((hbs.out c hh.1).1 hh.2),fun w=>⟨hwin.out c w,(hbs.out c (hwin.out c w)).2 ((hrw.out c).2 w)⟩⟩
end Go.Proofs.YtdcgdfbblnljjaaGreatDoor
namespace Go.Proofs.YtdcgdfbblnljjaaGreatDoor
open Go.Am
set_option linter.unusedVariables false
set_option linter.unusedSimpArgs false
set_option maxHeartbeats 1000000
structure En (h:AHeap) (vt vf:Value) (T:List LType) (F:List LFn):Prop where
 tt:Tbl h
 hm:h.mark≤h.n
 sm:Small T F
 si:zCZ F
 st:SlT h vt T
 sf:SlF h vf F
theorem En.ext {h h':AHeap} {vt vf:Value} {T:List LType} {F:List LFn} (E:En h vt vf T F) (e:Ext h h'):En h' vt vf T F:=
 ⟨E.tt.ext e,zh e E.hm,E.sm,E.si,E.st.ext e,SlF.ext E.sf e⟩
theorem En.inC {h:AHeap} {vt vf:Value} {T:List LType} {F:List LFn} (E:En h vt vf T F):En (inC (zF 0 h)) vt vf T F:=⟨E.tt,Nat.le_refl _,E.sm,E.si,E.st,E.sf⟩
noncomputable def body61_0:ACode:=(.seq (.seq (.region [⟨some 11,none,(.mov (.tmp 4))⟩,⟨some 12,none,(.fld 1 (.tmp 1))⟩,⟨some 13,none,(.load false 1 (.tmp 12))⟩,⟨some 14,none,(.len (.tmp 13))⟩,⟨some 15,none,(.bin .lss (.tmp 11) (.tmp 14))⟩]) (.cond (.tmp 15) .skip (.exit 0))) (.seq (.block 1 (.seq (.regionC [(⟨some 18,none,(.load true 2 (.tmp 1))⟩,[]),(⟨some 19,none,(.fld 1 (.tmp 1))⟩,[]),(⟨some 20,none,(.load false 1 (.tmp 19))⟩,[]),(⟨some 21,none,(.mov (.tmp 4))⟩,[]),(⟨some 22,none,(.idx 2 (.tmp 20) (.tmp 21))⟩,[]),(⟨some 23,none,(.load true 2 (.tmp 22))⟩,[]),(⟨some 24,none,(.call (.func 76) [(.tmp 18),(.tmp 23)])⟩,[]),(⟨some 25,none,(.un .not (.tmp 24))⟩,[])]) (.cond (.tmp 25) (.seq (.region [⟨some 2,none,(.mov (.const (.int .i64 60)))⟩]) .ret) .skip))) (.region [⟨some 16,none,(.mov (.tmp 4))⟩,⟨some 17,none,(.bin .add (.tmp 16) (.const (.int .i64 1)))⟩,⟨some 4,none,(.mov (.tmp 17))⟩])))
noncomputable def body61:ACode:=(.seq (.region [⟨some 1,none,(.box (.tmp 0))⟩,⟨some 2,none,(.mov (.const (.int .i64 0)))⟩]) (.seq (.region [⟨some 5,none,(.fld 0 (.tmp 1))⟩,⟨some 6,none,(.load false 1 (.tmp 5))⟩,⟨some 7,none,(.call (.func 75) [(.tmp 6)])⟩,⟨some 3,none,(.mov (.tmp 7))⟩]) (.seq (.seq (.region [⟨some 8,none,(.mov (.tmp 3))⟩,⟨some 9,none,(.bin .neq (.tmp 8) (.const (.int .i64 0)))⟩]) (.cond (.tmp 9) (.seq (.region [⟨some 10,none,(.mov (.tmp 3))⟩,⟨some 2,none,(.mov (.tmp 10))⟩]) .ret) .skip)) (.seq (.seq (.region [⟨some 4,none,(.mov (.const (.int .i64 0)))⟩]) (.block 0 (.loop body61_0))) (.seq (.seq (.region [⟨some 26,none,(.fld 1 (.tmp 1))⟩,⟨some 27,none,(.load false 1 (.tmp 26))⟩,⟨some 28,none,(.len (.tmp 27))⟩,⟨some 29,none,(.bin .lss (.tmp 28) (.const (.int .i64 1)))⟩,⟨some 30,none,(.mov (.tmp 29))⟩,⟨some 31,some (30,false),(.fld 1 (.tmp 1))⟩,⟨some 32,some (30,false),(.load false 1 (.tmp 31))⟩,⟨some 33,some (30,false),(.len (.tmp 32))⟩,⟨some 34,some (30,false),(.bin .gtr (.tmp 33) (.const (.int .i64 8)))⟩,⟨some 35,none,(.pick (.tmp 30) (.const (.bool true)) (.tmp 34))⟩]) (.cond (.tmp 35) (.seq (.region [⟨some 2,none,(.mov (.const (.int .i64 60)))⟩]) .ret) .skip)) (.seq (.region [⟨some 2,none,(.mov (.const (.int .i64 0)))⟩]) .ret))))))
set_option maxRecDepth 100000 in
theorem tab61:tb.code 61=some ⟨36,[(2,none)],body61⟩:=by kernel_rfl
theorem zFd (h:AHeap) (vt vf:Value) (T:List LType) (F:List LFn) (E:En h vt vf T F):
  WC Tryz.prog tb 61 [.agg #[vt,vf]] h fun r h'=>r=I (ZY T F)∧Ext h h':=by
 have st:=E.st
 have sf:=E.sf
 have hT:=E.sm.types
 have hF:=E.sm.funcs
 obtain⟨ta,tn,tk,rfl⟩:=zE st
 obtain⟨ga,gn,gk,rfl⟩:=zE sf
 refine WC.of (zG 61) tab61 ?_;simp only[zN,Nat.zero_add,Nat.reduceAdd]
 refine go ?_
 refine WO.bx ?_
 intro p h1 e1 o1
 have st1:=st.ext e1
 have sf1:=SlF.ext sf e1
 refine go ?_
 refine WO.con (zHN h1 _ T st1 (by omega) (fun x hx=>by have:=E.sm.parts x hx;omega)) ?_
 rintro _ h2 ⟨rfl,e2⟩
 have o1:=o1.ext e2
 have e02:=e1.trans e2
 by_cases hc:Zt T=0
 case neg=>
  have hc':Zt T≠0:=hc
  refine go ?_
  refine rt ?_
  exact⟨by unfold ZY;rw[if_pos hc];rfl,e02⟩
 have E2:=E.ext e02
 rw[hc]
 have hp0:ZY T F=if (!zM ((F.length:Int) - 1) 8||F.any fun f=> !fnL T F.length f) then 60 else 0:=by unfold ZY;rw[if_neg (fun e=>e hc)]
 refine go ?_
 refine WX.loopA [11,12,13,14,15,18,19,20,21,22,23,24,25,2,16,17,4] (by kernel_rfl) (fun i=>F.length - i) (fun i t h3=>Ext h2 h3∧zB t 4=I i∧i≤F.length∧Hid (∀ j,j<i→fnL T F.length (F.getD j default)=true)) 0 ?_ ?_
 ·exact⟨Ext.refl _,sl_,Nat.zero_le _,⟨fun j hj=>absurd hj (Nat.not_lt_zero _)⟩⟩
 rintro i t h3 hsame ⟨e3,s4,hi,hall⟩
 have o1:=o1.ext e3
 have e03:=e02.trans e3
 have E3:=E2.ext e3
 have sf3:=E3.sf
 refine go ?_
 refine WX.br (fun hd=> ?_) (fun hd=> ?_)<;>simp only[DB]at hd
 ·have hi':i<F.length:=by omega
  have hmem:=zL (l:=F) hi'
  refine go ?_
  refine WX.regionU2 0 rfl rfl ?_
  have o1X:OwnC h (inC (zF 0 h3)) p [_,_]:=o1
  have sfX:SlF (inC (zF 0 h3)) _ F:=sf3
  obtain⟨cs,⟨vb,rfl,sb,hlb⟩,pc,hs⟩:=zX sfX hi'
  obtain⟨ba,bn,bk,rfl⟩:=zE sb
  refine goU ?_
  refine WO.con (zEn (inC (zF 0 h3)) _ _ T F (F.getD i default) [I (F.getD i default).sig,.slice ba bn bk] E.sm E.si hmem (Nat.le_refl _) E3.inC.st sfX ⟨_,rfl,sb,hlb⟩) ?_
  rintro _ h4 ⟨rfl,e4⟩
  refine WO.nil ?_
  refine zAU e4 yq ?_
  refine goU ?_
  have e5:Ext h3 (outC h3 (inC h4)):=e4.reg
  obtain⟨h5,hh5⟩:∃ h5,h5=outC h3 (inC h4):=⟨_,rfl⟩
  rw[←hh5]at e5
  rw[←hh5]
  clear o1X sfX pc e4 hh5 sb
  cases hfn:fnL T F.length (F.getD i default)with
  |false=>
   refine go ?_
   refine rt ?_
   refine⟨?_,e03.trans e5⟩
   rw[hp0,List.any_eq_true.2 ⟨_,hmem,by rw[hfn];rfl⟩,Bool.or_true];rfl
  |true=>
   refine go ?_
   refine zA (i+1) (by omega) ⟨e3.trans e5,sln,by omega,⟨fun j hj=> ?_⟩⟩
   by_cases e:j=i
   ·subst e;exact hfn
   ·exact hall.out j (by omega)
 ·have hany:(F.any fun f=> !fnL T F.length f)=false:=Zh fun f hf=>by
   obtain⟨j,hj,rfl⟩:=yu hf
   rw[hall.out j (by omega)];rfl
  rw[hany,Bool.or_false]at hp0
  by_cases c1:(F.length:Int)<1
  ·refine go ?_
   refine rt ?_
   refine⟨?_,e03⟩
   have:zM ((F.length:Int) - 1) 8=false:=by unfold zM;simp;omega
   rw[hp0,this];rfl
  by_cases c2:8<(F.length:Int)
  ·refine go ?_
   refine rt ?_
   refine⟨?_,e03⟩
   have:zM ((F.length:Int) - 1) 8=false:=by unfold zM;simp;omega
   rw[hp0,this];rfl
  ·refine go ?_
   refine rt ?_
   refine⟨?_,e03⟩
   have:zM ((F.length:Int) - 1) 8=true:=by unfold zM;simp;omega
   rw[hp0,this];rfl
noncomputable def body47:ACode:=(.seq (.region [⟨some 2,none,(.box (.tmp 0))⟩,⟨some 4,none,(.mov (.const (.int .i64 0)))⟩]) (.seq (.region [⟨some 6,none,(.load true 2 (.tmp 2))⟩,⟨some 7,none,(.call (.func 61) [(.tmp 6)])⟩,⟨some 5,none,(.mov (.tmp 7))⟩]) (.seq (.seq (.region [⟨some 8,none,(.mov (.tmp 5))⟩,⟨some 9,none,(.bin .eql (.tmp 8) (.const (.int .i64 0)))⟩,⟨some 10,none,(.mov (.tmp 9))⟩,⟨some 11,some (10,true),(.mov (.tmp 1))⟩,⟨some 12,some (10,true),(.bin .lss (.tmp 11) (.const (.int .i64 0)))⟩,⟨some 13,some (10,true),(.mov (.tmp 12))⟩,⟨some 14,some (13,false),(.mov (.tmp 1))⟩,⟨some 15,some (13,false),(.fld 1 (.tmp 2))⟩,⟨some 16,some (13,false),(.load false 1 (.tmp 15))⟩,⟨some 17,some (13,false),(.len (.tmp 16))⟩,⟨some 18,some (13,false),(.bin .geq (.tmp 14) (.tmp 17))⟩,⟨some 19,some (10,true),(.pick (.tmp 13) (.const (.bool true)) (.tmp 18))⟩,⟨some 20,none,(.pick (.tmp 10) (.tmp 19) (.const (.bool false)))⟩]) (.cond (.tmp 20) (.seq (.region [⟨some 4,none,(.mov (.const (.int .i64 2)))⟩]) .ret) .skip)) (.seq (.region [⟨some 21,none,(.mov (.tmp 5))⟩,⟨some 4,none,(.mov (.tmp 21))⟩]) .ret))))
set_option maxRecDepth 100000 in
theorem tab47:tb.code 47=some ⟨22,[(4,none)],body47⟩:=by kernel_rfl
theorem zCh (h:AHeap) (vt vf:Value) (T:List LType) (F:List LFn) (f:Int) (E:En h vt vf T F):
  WC Tryz.prog tb 47 [.agg #[vt,vf],I f] h fun r h'=>r=I (zY T F f).2∧Ext h h':=by
 have hF:=E.sm.funcs
 refine WC.of (zG 47) tab47 ?_;simp only[zN,Nat.zero_add,Nat.reduceAdd]
 refine go ?_
 refine WO.bx ?_
 intro p h1 e1 o1
 have E1:=E.ext e1
 refine go ?_
 refine WO.con (zFd h1 vt vf T F E1) ?_
 rintro _ h2 ⟨rfl,e2⟩
 have o1:=o1.ext e2
 have e02:=e1.trans e2
 have sf2:=(E1.ext e2).sf
 obtain⟨ta,tn,tk,rfl⟩:=zE E.st
 obtain⟨ga,gn,gk,rfl⟩:=zE sf2
 unfold zY
 by_cases hc:ZY T F=0
 case neg=>
  have hc':ZY T F≠0:=hc
  rw[if_pos hc]
  refine go ?_
  refine rt ?_
  exact⟨rfl,e02⟩
 rw[if_neg (fun e=>e hc),hc]
 by_cases c1:f<0
 ·have hb:zM f F.length=false:=by unfold zM;simp;omega
  refine go ?_
  refine rt ?_
  exact⟨by rw[hb];rfl,e02⟩
 by_cases c2:(F.length:Int)≤f
 ·have hb:zM f F.length=false:=by unfold zM;simp;omega
  refine go ?_
  refine rt ?_
  exact⟨by rw[hb];rfl,e02⟩
 ·have hb:zM f F.length=true:=by unfold zM;simp;omega
  refine go ?_
  refine rt ?_
  exact⟨by rw[hb];rfl,e02⟩
theorem Z3 {T:List LType} {F:List LFn} {f:Int} (h:(zY T F f).2=0):0≤f∧f<(F.length:Int)∧ZY T F=0∧zY T F f=(((T.getD (F.getD f.toNat default).sig.toNat default).parts.length:Int),0):=by
 unfold zY at h ⊢
 split at h
 ·rename_i hp;exact absurd h hp
 ·rename_i hp
  rw[if_neg hp]
  split at h
  ·rename_i hb
   have hb2:=hb
   unfold zM at hb2;simp at hb2
   exact⟨hb2.1,hb2.2,by omega,by rw[if_pos hb]⟩
  ·cases h
noncomputable def body48:ACode:=(.seq (.region [⟨some 2,none,(.box (.tmp 0))⟩,⟨some 4,none,(.mov (.const (.int .i64 0)))⟩]) (.seq (.regionC [(⟨some 5,none,(.load true 2 (.tmp 2))⟩,[]),(⟨some 6,none,(.fld 1 (.tmp 2))⟩,[]),(⟨some 7,none,(.load false 1 (.tmp 6))⟩,[]),(⟨some 8,none,(.mov (.tmp 1))⟩,[]),(⟨some 9,none,(.idx 2 (.tmp 7) (.tmp 8))⟩,[]),(⟨some 10,none,(.load true 2 (.tmp 9))⟩,[]),(⟨some 11,none,(.call (.func 62) [(.tmp 5),(.tmp 10)])⟩,[]),(⟨some 12,none,(.fld 1 (.tmp 2))⟩,[]),(⟨some 13,none,(.load false 1 (.tmp 12))⟩,[6]),(⟨some 14,none,(.mov (.tmp 1))⟩,[]),(⟨some 15,none,(.idx 2 (.tmp 13) (.tmp 14))⟩,[]),(⟨some 16,none,(.fld 1 (.tmp 15))⟩,[]),(⟨some 17,none,(.load false 1 (.tmp 16))⟩,[6]),(⟨some 18,none,(.call (.func 63) [(.tmp 17)])⟩,[]),(⟨some 19,none,(.bin .add (.tmp 11) (.tmp 18))⟩,[]),(⟨some 4,none,(.mov (.tmp 19))⟩,[])]) .ret))
set_option maxRecDepth 100000 in
theorem tab48:tb.code 48=some ⟨20,[(4,none)],body48⟩:=by kernel_rfl
theorem zDN (h:AHeap) (vt vf:Value) (T:List LType) (F:List LFn) (f:Int) (E:En h vt vf T F) (hf:0≤f∧f<(F.length:Int)) (hsig:0≤(F.getD f.toNat default).sig∧(F.getD f.toNat default).sig<(T.length:Int)):
  WC Tryz.prog tb 48 [.agg #[vt,vf],I f] h fun r h'=>r=I (((T.getD (F.getD f.toNat default).sig.toNat default).parts.length:Int)+zW (F.getD f.toNat default).blocks)∧Ext h h':=by
 have hF:=E.sm.funcs
 have hmem:=zL (l:=F) (i:=f.toNat) (by omega)
 have hB:=E.sm.blocks _ hmem
 have hI:=E.sm.ins _ hmem
 have hmany:=zBE hI
 have hpart:=E.sm.parts _ (zL (l:=T) (i:=(F.getD f.toNat default).sig.toNat) (by omega))
 obtain⟨ta,tn,tk,rfl⟩:=zE E.st
 obtain⟨ga,gn,gk,rfl⟩:=zE E.sf
 refine WC.of (zG 48) tab48 ?_;simp only[zN,Nat.zero_add,Nat.reduceAdd]
 refine go ?_
 refine WO.bx ?_
 intro p h1 e1 o1
 have E1:=E.ext e1
 have sf1:=E1.sf
 refine go ?_
 refine WX.regionU2 0 rfl rfl ?_
 have o1X:OwnC h (inC (zF 0 h1)) p [_,_]:=o1
 have sfX:SlF (inC (zF 0 h1)) _ F:=sf1
 obtain⟨cs,⟨vb,rfl,sb,hlb⟩,px,hs⟩:=zBH sf1 (i:=f.toNat) (by omega)
 have pcX:=(px h1 (Ext.refl _)).2
 have pcX:Piece (inC (zF 0 h1)) (.slice ga gn gk) (f.toNat * 2) [I (F.getD f.toNat default).sig,vb]:=pcX
 obtain⟨ba,bn,bk,rfl⟩:=zE sb
 obtain⟨qa,qn,qk,hqv,hqb⟩:=zAC sf1 (i:=f.toNat) (by omega)
 refine goU ?_
 refine WO.con (zAi (inC (zF 0 h1)) _ _ _ T F _ E1.inC.st sfX ⟨_,_,_,rfl⟩ hsig (by omega)) ?_
 rintro _ h2 ⟨rfl,e2⟩
 refine WO.nil ?_
 refine zAU e2 yq ?_
 have sfY:SlF (inC h2) (.slice ga gn gk) F:=by have:=SlF.ext sfX e2;exact this
 have e3:Ext h1 (outC h1 (inC h2)):=e2.reg
 have pcY:Piece (inC h2) (.slice ga gn gk) (f.toNat * 2) [I (F.getD f.toNat default).sig,.slice ba bn bk]:=by
  have:=(px _ e3).2;exact this
 have sbY:SlB (inC h2) (.slice ba bn bk) (F.getD f.toNat default).blocks:=by
  have:=SlB.ext sb e3;exact this
 have o1Y:OwnC h (inC h2) p [.slice ta tn tk,.slice ga gn gk]:=by have:=o1X.ext e2;exact this
 refine goU ?_
 refine zB8 o1 (Nat.le_refl _) ?_
 refine goU ?_
 refine uK2_el ⟨qa,qn,qk,hqv,hqb⟩ ?_
 refine goU ?_
 refine WO.con (zAu (inC h2) _ _ sbY hB hI) ?_
 rintro _ _ ⟨rfl,rfl⟩
 refine WO.nil ?_
 refine yo ?_
 refine goU ?_
 refine go ?_
 refine rt ?_
 exact⟨rfl,e1.trans e3⟩
theorem zGk {T:List LType} {F:List LFn} {f:Int} (h:(zY T F f).2=0):yp T F f=(((T.getD (F.getD f.toNat default).sig.toNat default).parts.length:Int)+zW (F.getD f.toNat default).blocks,0):=by
 unfold yp
 rw[if_neg (by rw[h];exact fun e=>e rfl),(Z3 h).2.2.2]
theorem zGC {T:List LType} {F:List LFn} {f:Int} (h:(zY T F f).2=0):0≤(F.getD f.toNat default).sig∧(F.getD f.toNat default).sig<(T.length:Int):=by
 obtain⟨h1,h2,h3,_⟩:=Z3 h
 exact zEH ((Zp h3).2.2.2 _ (zL (l:=F) (i:=f.toNat) (by omega)))
noncomputable def body59:ACode:=(.seq (.region [⟨some 2,none,(.box (.tmp 0))⟩,⟨some 4,none,(.mov (.const (.int .i64 0)))⟩,⟨some 5,none,(.mov (.const (.int .i64 0)))⟩]) (.seq (.region [⟨some 7,none,(.load true 2 (.tmp 2))⟩,⟨some 8,none,(.mov (.tmp 1))⟩,⟨some 9,none,(.call (.func 47) [(.tmp 7),(.tmp 8)])⟩,⟨some 6,none,(.mov (.tmp 9))⟩]) (.seq (.seq (.region [⟨some 10,none,(.mov (.tmp 6))⟩,⟨some 11,none,(.bin .neq (.tmp 10) (.const (.int .i64 0)))⟩]) (.cond (.tmp 11) (.seq (.region [⟨some 12,none,(.mov (.tmp 6))⟩,⟨some 4,none,(.mov (.const (.int .i64 0)))⟩,⟨some 5,none,(.mov (.tmp 12))⟩]) .ret) .skip)) (.seq (.region [⟨some 13,none,(.load true 2 (.tmp 2))⟩,⟨some 14,none,(.mov (.tmp 1))⟩,⟨some 15,none,(.call (.func 48) [(.tmp 13),(.tmp 14)])⟩,⟨some 4,none,(.mov (.tmp 15))⟩,⟨some 5,none,(.mov (.const (.int .i64 0)))⟩]) .ret))))
set_option maxRecDepth 100000 in
theorem tab59:tb.code 59=some ⟨16,[(4,none),(5,none)],body59⟩:=by kernel_rfl
theorem rregs_ok (h:AHeap) (vt vf:Value) (T:List LType) (F:List LFn) (f:Int) (E:En h vt vf T F):
  WC Tryz.prog tb 59 [.agg #[vt,vf],I f] h fun r h'=>r= .tuple #[I (yp T F f).1,I (yp T F f).2]∧Ext h h':=by
 refine WC.of (zG 59) tab59 ?_;simp only[zN,Nat.zero_add,Nat.reduceAdd]
 refine go ?_
 refine WO.bx ?_
 intro p h1 e1 o1
 have E1:=E.ext e1
 refine go ?_
 refine WO.con (zCh h1 vt vf T F f E1) ?_
 rintro _ h2 ⟨rfl,e2⟩
 have o1:=o1.ext e2
 have e02:=e1.trans e2
 have E2:=E1.ext e2
 by_cases ha:(zY T F f).2=0
 case neg=>
  have ha':(zY T F f).2≠0:=ha
  refine go ?_
  refine rt ?_
  exact⟨by unfold yp;rw[if_pos ha];rfl,e02⟩
 have hin:=Z3 ha
 rw[ha,zGk ha]
 refine go ?_
 refine WO.con (zDN h2 vt vf T F f E2 ⟨hin.1,hin.2.1⟩ (zGC ha)) ?_
 rintro _ h3 ⟨rfl,e3⟩
 refine go ?_
 refine rt ?_
 exact⟨rfl,e02.trans e3⟩
noncomputable def body40:ACode:=(.seq (.region [⟨some 3,none,(.box (.tmp 0))⟩,⟨some 6,none,(.mov (.const (.int .i64 0)))⟩]) (.seq (.region [⟨some 10,none,(.load true 2 (.tmp 3))⟩,⟨some 11,none,(.mov (.tmp 1))⟩,⟨some 12,none,(.call (.func 59) [(.tmp 10),(.tmp 11)])⟩,⟨some 9,none,(.mov (.tmp 12))⟩,⟨some 13,none,(.extract (.tmp 9) 0)⟩,⟨some 14,none,(.extract (.tmp 9) 1)⟩,⟨some 7,none,(.mov (.tmp 13))⟩,⟨some 8,none,(.mov (.tmp 14))⟩]) (.seq (.seq (.region [⟨some 15,none,(.mov (.tmp 8))⟩,⟨some 16,none,(.bin .neq (.tmp 15) (.const (.int .i64 0)))⟩]) (.cond (.tmp 16) (.seq (.region [⟨some 17,none,(.mov (.tmp 8))⟩,⟨some 6,none,(.mov (.tmp 17))⟩]) .ret) .skip)) (.seq (.seq (.region [⟨some 18,none,(.mov (.tmp 2))⟩,⟨some 19,none,(.bin .lss (.tmp 18) (.const (.int .i64 0)))⟩,⟨some 20,none,(.mov (.tmp 19))⟩,⟨some 21,some (20,false),(.mov (.tmp 2))⟩,⟨some 22,some (20,false),(.fld 1 (.tmp 3))⟩,⟨some 23,some (20,false),(.load false 1 (.tmp 22))⟩,⟨some 24,some (20,false),(.mov (.tmp 1))⟩,⟨some 25,some (20,false),(.idx 2 (.tmp 23) (.tmp 24))⟩,⟨some 26,some (20,false),(.fld 1 (.tmp 25))⟩,⟨some 27,some (20,false),(.load false 1 (.tmp 26))⟩,⟨some 28,some (20,false),(.len (.tmp 27))⟩,⟨some 29,some (20,false),(.bin .geq (.tmp 21) (.tmp 28))⟩,⟨some 30,none,(.pick (.tmp 20) (.const (.bool true)) (.tmp 29))⟩]) (.cond (.tmp 30) (.seq (.region [⟨some 6,none,(.mov (.const (.int .i64 2)))⟩]) .ret) .skip)) (.seq (.region [⟨some 6,none,(.mov (.const (.int .i64 0)))⟩]) .ret)))))
set_option maxRecDepth 100000 in
theorem tab40:tb.code 40=some ⟨31,[(6,none)],body40⟩:=by kernel_rfl
theorem zFm (h:AHeap) (vt vf:Value) (T:List LType) (F:List LFn) (f b:Int) (E:En h vt vf T F):
  WC Tryz.prog tb 40 [.agg #[vt,vf],I f,I b] h fun r h'=>r=I (zD T F f b).2∧Ext h h':=by
 have hF:=E.sm.funcs
 refine WC.of (zG 40) tab40 ?_;simp only[zN,Nat.zero_add,Nat.reduceAdd]
 refine go ?_
 refine WO.bx ?_
 intro p h1 e1 o1
 have E1:=E.ext e1
 refine go ?_
 refine WO.con (rregs_ok h1 vt vf T F f E1) ?_
 rintro _ h2 ⟨rfl,e2⟩
 have o1:=o1.ext e2
 have e02:=e1.trans e2
 have sf2:=(E1.ext e2).sf
 obtain⟨ta,tn,tk,rfl⟩:=zE E.st
 obtain⟨ga,gn,gk,rfl⟩:=zE sf2
 unfold zD
 by_cases hc:(yp T F f).2=0
 case neg=>
  have hc':(yp T F f).2≠0:=hc
  rw[if_pos hc]
  refine go ?_
  refine rt ?_
  exact⟨rfl,e02⟩
 have hin:=Zx hc
 rw[if_neg (fun e=>e hc),hc]
 obtain⟨csF,⟨vb,rfl,sb,hlb⟩,pcF,hsF⟩:=zX (i:=f.toNat) sf2 (by omega)
 by_cases c1:b<0
 ·rw[if_pos (.inl c1)]
  refine go ?_
  refine rt ?_
  exact⟨rfl,e02⟩
 by_cases c2:((F.getD f.toNat default).blocks.length:Int)≤b
 ·rw[if_pos (.inr c2)]
  refine go ?_
  refine rt ?_
  exact⟨rfl,e02⟩
 ·rw[if_neg (by omega)]
  refine go ?_
  refine rt ?_
  exact⟨rfl,e02⟩
end Go.Proofs.YtdcgdfbblnljjaaGreatDoor
namespace Go.Proofs.YtdcgdfbblnljjaaGreatDoor
open Go.Am
set_option linter.unusedVariables false
set_option linter.unusedSimpArgs false
set_option maxHeartbeats 1000000
noncomputable def body23:ACode:=(.seq (.region [⟨some 3,none,(.box (.tmp 0))⟩,⟨some 6,none,(.mov (.const (.slice none 0 0)))⟩,⟨some 7,none,(.mov (.const (.int .i64 0)))⟩]) (.seq (.region [⟨some 9,none,(.load true 2 (.tmp 3))⟩,⟨some 10,none,(.mov (.tmp 1))⟩,⟨some 11,none,(.mov (.tmp 2))⟩,⟨some 12,none,(.call (.func 40) [(.tmp 9),(.tmp 10),(.tmp 11)])⟩,⟨some 8,none,(.mov (.tmp 12))⟩]) (.seq (.seq (.region [⟨some 13,none,(.mov (.tmp 8))⟩,⟨some 14,none,(.bin .neq (.tmp 13) (.const (.int .i64 0)))⟩]) (.cond (.tmp 14) (.seq (.region [⟨some 15,none,(.mov (.tmp 8))⟩,⟨some 6,none,(.mov (.const (.slice none 0 0)))⟩,⟨some 7,none,(.mov (.tmp 15))⟩]) .ret) .skip)) (.seq (.region [⟨some 16,none,(.fld 1 (.tmp 3))⟩,⟨some 17,none,(.load false 1 (.tmp 16))⟩,⟨some 18,none,(.mov (.tmp 1))⟩,⟨some 19,none,(.idx 2 (.tmp 17) (.tmp 18))⟩,⟨some 20,none,(.fld 1 (.tmp 19))⟩,⟨some 21,none,(.load false 1 (.tmp 20))⟩,⟨some 22,none,(.mov (.tmp 2))⟩,⟨some 23,none,(.idx 5 (.tmp 21) (.tmp 22))⟩,⟨some 24,none,(.fld 1 (.tmp 23))⟩,⟨some 25,none,(.load true 4 (.tmp 24))⟩,⟨some 26,none,(.call (.func 41) [(.tmp 25)])⟩,⟨some 6,none,(.mov (.tmp 26))⟩,⟨some 7,none,(.mov (.const (.int .i64 0)))⟩]) .ret))))
set_option maxRecDepth 100000 in
theorem tab23:tb.code 23=some ⟨27,[(6,none),(7,none)],body23⟩:=by kernel_rfl
theorem zDn (h:AHeap) (vt vf:Value) (T:List LType) (F:List LFn) (f b:Int) (E:En h vt vf T F):
  WC Tryz.prog tb 23 [.agg #[vt,vf],I f,I b] h fun r h'=>(∃ v,r= .tuple #[v,I (zBq T F f b).2]∧SlI h' v (zBq T F f b).1)∧Ext h h':=by
 have hF:=E.sm.funcs
 refine WC.of (zG 23) tab23 ?_;simp only[zN,Nat.zero_add,Nat.reduceAdd]
 refine go ?_
 refine WO.bx ?_
 intro p h1 e1 o1
 have E1:=E.ext e1
 refine go ?_
 refine WO.con (zFm h1 vt vf T F f b E1) ?_
 rintro _ h2 ⟨rfl,e2⟩
 have o1:=o1.ext e2
 have e02:=e1.trans e2
 have sf2:=(E1.ext e2).sf
 obtain⟨ta,tn,tk,rfl⟩:=zE E.st
 obtain⟨ga,gn,gk,rfl⟩:=zE sf2
 unfold zBq
 by_cases hc:(zD T F f b).2=0
 case neg=>
  have hc':(zD T F f b).2≠0:=hc
  rw[if_pos hc]
  refine go ?_
  refine rt ?_
  exact⟨⟨_,rfl,SlI.nil _⟩,e02⟩
 obtain⟨h1b,h2b,h3b,h4b⟩:=yN hc
 have hin:=Zx h4b
 rw[if_neg (fun e=>e hc),hc]
 rw[h3b]at h2b ⊢
 obtain⟨csF,⟨vb,rfl,sb,hlb⟩,pcF,hsF⟩:=zX (i:=f.toNat) sf2 (by omega)
 obtain⟨csB,⟨vi,rfl,si,hli⟩,pcB,hsB⟩:=zX (i:=b.toNat) sb (by omega)
 obtain⟨_,_,_,rfl⟩:=zE sb
 obtain⟨_,_,_,rfl⟩:=zE si
 refine go ?_
 refine WO.con (to_ok h2 ((F.getD f.toNat default).blocks.getD b.toNat default).fin) ?_
 rintro u h3 ⟨ou,e3⟩
 refine go ?_
 refine rt ?_
 exact⟨⟨_,rfl,ou.sl⟩,e02.trans e3⟩
end Go.Proofs.YtdcgdfbblnljjaaGreatDoor
namespace Go.Proofs.YtdcgdfbblnljjaaGreatDoor
open Go.Am
set_option linter.unusedVariables false
set_option linter.unusedSimpArgs false
set_option maxHeartbeats 1000000
end Go.Proofs.YtdcgdfbblnljjaaGreatDoor
namespace Go.Proofs.YtdcgdfbblnljjaaGreatDoor
open Go.Am
set_option linter.unusedVariables false
set_option linter.unusedSimpArgs false
inductive Avk (nx:Int→List Int) (x:Int):Nat→Int→Prop
 |here {k:Nat}:(0:Int)≠x→Avk nx x k 0
 |step {k:Nat} {b c:Int}:Avk nx x k b→c∈nx b→c≠x→Avk nx x (k+1) c
def Av (nx:Int→List Int) (x b:Int):Prop:=∃ k,Avk nx x k b
theorem Avk.mono {nx:Int→List Int} {x b:Int} {k m:Nat} (h:Avk nx x k b) (hm:k≤m):Avk nx x m b:=by
 induction h generalizing m with
 |here h=>exact .here h
 |step _ hc hne ih=>
  obtain⟨j,rfl⟩:∃ j,m=j+1:=⟨m - 1,by omega⟩
  exact .step (ih (by omega)) hc hne
theorem Avk.ne {nx:Int→List Int} {x b:Int} {k:Nat} (h:Avk nx x k b):b≠x:=by
 cases h with
 |here h=>exact h
 |step _ _ h=>exact h
theorem Avk.way {nx:Int→List Int} {x b:Int} {k:Nat} (h:Avk nx x k b):Way nx 0 b:=by
 induction h with
 |here=>exact .here
 |step _ hc _ ih=>exact .step ih hc
theorem Avk.split {nx:Int→List Int} {x b c:Int} {k:Nat} (hb:(0:Int)≠b) (h:Avk nx x k c):Avk nx b k c∨Avk nx x k b:=by
 induction h with
 |here=>exact .inl (.here hb)
 |step h1 hc hne ih=>
  rename_i k d e
  rcases ih with h|h
  ·by_cases he:e=b
   ·subst he;exact .inr (.step h1 hc hne)
   ·exact .inl (.step h hc he)
  ·exact .inr (h.mono (Nat.le_succ _))
theorem Avk.split' {nx:Int→List Int} {x b c:Int} {k:Nat} (hb:(0:Int)≠b) (hcb:c≠b) (h:Avk nx x (k+1) c):Avk nx b (k+1) c∨Avk nx x k b:=by
 cases h with
 |here=>exact .inl (.here hb)
 |step h1 hc hne=>
  rcases h1.split hb with h|h
  ·exact .inl (.step h hc hcb)
  ·exact .inr h
def Dom (nx:Int→List Int) (y b:Int):Prop:=¬Av nx y b
theorem Dom.self (nx:Int→List Int) (b:Int):Dom nx b b:=fun ⟨_,h⟩=>h.ne rfl
theorem Dom.pred {nx:Int→List Int} {y a b:Int} (h:Dom nx y b) (hy:y≠b) (hb:b∈nx a):Dom nx y a:=fun ⟨k,w⟩=>h ⟨k+1,.step w hb (Ne.symm hy)⟩
structure Rpo (nx:Int→List Int) (pos:Int→Int):Prop where
 zero:pos 0=0
 nn:∀ b,Way nx 0 b→0≤pos b
 inj:∀ a b,Way nx 0 a→Way nx 0 b→pos a=pos b→a=b
 par:∀ b,Way nx 0 b→b≠0→∃ a,Way nx 0 a∧b∈nx a∧pos a<pos b
theorem Rpo.dom {nx:Int→List Int} {pos:Int→Int} (r:Rpo nx pos):∀ (n:Nat) (b y:Int),pos b≤n→Way nx 0 b→Dom nx y b→pos y≤pos b:=by
 intro n
 induction n with
 |zero=>
  intro b y hn w d
  have hb:b=0:=r.inj b 0 w .here (by have:=r.nn b w;rw[r.zero];omega)
  subst hb
  by_cases e:(0:Int)=y
  ·rw[←e];exact Int.le_refl _
  ·exact absurd ⟨0,.here e⟩ d
 |succ n ih=>
  intro b y hn w d
  by_cases e:y=b
  ·rw[e];exact Int.le_refl _
  ·by_cases hb:b=0
   ·subst hb;exact absurd ⟨0,.here (Ne.symm e)⟩ d
   ·obtain⟨a,wa,hab,hp⟩:=r.par b w hb
    have:=ih a y (by omega) wa (d.pred e hab)
    omega
theorem Rpo.dom_le {nx:Int→List Int} {pos:Int→Int} (r:Rpo nx pos) {b y:Int} (w:Way nx 0 b) (d:Dom nx y b):pos y≤pos b:=r.dom (pos b).toNat b y (by have:=r.nn b w;omega) w d
theorem Rpo.dom_way {nx:Int→List Int} {pos:Int→Int} (r:Rpo nx pos):∀ (n:Nat) (b y:Int),pos b≤n→Way nx 0 b→Dom nx y b→Way nx 0 y:=by
 intro n
 induction n with
 |zero=>
  intro b y hn w d
  have hb:b=0:=r.inj b 0 w .here (by have:=r.nn b w;rw[r.zero];omega)
  subst hb
  by_cases e:(0:Int)=y
  ·rw[←e];exact .here
  ·exact absurd ⟨0,.here e⟩ d
 |succ n ih=>
  intro b y hn w d
  by_cases e:y=b
  ·rw[e];exact w
  ·by_cases hb:b=0
   ·subst hb;exact absurd ⟨0,.here (Ne.symm e)⟩ d
   ·obtain⟨a,wa,hab,hp⟩:=r.par b w hb
    exact ih a y (by omega) wa (d.pred e hab)
inductive Anc (p:Int→Int) (y:Int):Int→Prop
 |here:Anc p y y
 |up {b:Int}:b≠0→p b≠ -1→Anc p y (p b)→Anc p y b
theorem Anc.trans {p:Int→Int} {x y b:Int} (h:Anc p x y) (k:Anc p y b):Anc p x b:=by
 induction k with
 |here=>exact h
 |up h1 h2 _ ih=>exact .up h1 h2 ih
theorem Anc.zero {p:Int→Int} {x:Int} (h:Anc p x 0):x=0:=by
 cases h with
 |here=>rfl
 |up h _ _=>exact absurd rfl h
structure Rl (nx:Int→List Int) (pos p:Int→Int):Prop where
 zero:p 0=0
 up:∀ b,Way nx 0 b→b≠0→p b≠ -1→Way nx 0 (p b)∧p (p b)≠ -1∧pos (p b)<pos b
 sound:∀ b,Way nx 0 b→b≠0→p b≠ -1→∀ y,Dom nx y b→y≠b→Dom nx y (p b)
theorem Rl.le {nx:Int→List Int} {pos p:Int→Int} (g:Rl nx pos p) {x b:Int} (h:Anc p x b) (w:Way nx 0 b):Way nx 0 x∧pos x≤pos b∧(p b≠ -1→p x≠ -1):=by
 induction h with
 |here=>exact⟨w,Int.le_refl _,id⟩
 |up h1 h2 _ ih=>
  obtain⟨u1,u2,u3⟩:=g.up _ w h1 h2
  obtain⟨i1,i2,i3⟩:=ih u1
  exact⟨i1,by omega,fun _=>i3 u2⟩
theorem Rl.anc_of_dom {nx:Int→List Int} {pos p:Int→Int} (r:Rpo nx pos) (g:Rl nx pos p):∀ (n:Nat) (b y:Int),pos b≤n→Way nx 0 b→p b≠ -1→Dom nx y b→Anc p y b:=by
 intro n
 induction n with
 |zero=>
  intro b y hn w hp d
  have hb:b=0:=r.inj b 0 w .here (by have:=r.nn b w;rw[r.zero];omega)
  subst hb
  by_cases e:(0:Int)=y
  ·rw[←e];exact .here
  ·exact absurd ⟨0,.here e⟩ d
 |succ n ih=>
  intro b y hn w hp d
  by_cases e:y=b
  ·rw[e];exact .here
  ·by_cases hb:b=0
   ·subst hb;exact absurd ⟨0,.here (Ne.symm e)⟩ d
   ·obtain⟨u1,u2,u3⟩:=g.up b w hb hp
    exact .up hb hp (ih (p b) y (by omega) u1 u2 (g.sound b w hb hp y d e))
structure Mt (nx:Int→List Int) (pos p:Int→Int) (a b m:Int):Prop where
 way:Way nx 0 m
 done:p m≠ -1
 left:Anc p m a
 right:Anc p m b
 dom:∀ y,Dom nx y a→Dom nx y b→Dom nx y m
theorem Mt.same {nx:Int→List Int} {pos p:Int→Int} {a:Int} (w:Way nx 0 a) (h:p a≠ -1):Mt nx pos p a a a:=⟨w,h,.here,.here,fun _ h _=>h⟩
theorem Mt.stepL {nx:Int→List Int} {pos p:Int→Int} {a b m:Int} (r:Rpo nx pos) (g:Rl nx pos p) (w:Way nx 0 a) (wb:Way nx 0 b) (h:p a≠ -1) (hlt:pos b<pos a) (k:Mt nx pos p (p a) b m):Mt nx pos p a b m:=by
 have ha:a≠0:=fun e=>by subst e;have:=r.nn b wb;rw[r.zero]at hlt;omega
 refine⟨k.way,k.done,.up ha h k.left,k.right,fun y da db=> ?_⟩
 have hy:y≠a:=fun e=>by subst e;have:=r.dom_le wb db;omega
 exact k.dom y (g.sound a w ha h y da hy) db
theorem Mt.stepR {nx:Int→List Int} {pos p:Int→Int} {a b m:Int} (r:Rpo nx pos) (g:Rl nx pos p) (w:Way nx 0 a) (wb:Way nx 0 b) (h:p b≠ -1) (hlt:pos a<pos b) (k:Mt nx pos p a (p b) m):Mt nx pos p a b m:=by
 have hb:b≠0:=fun e=>by subst e;have:=r.nn a w;rw[r.zero]at hlt;omega
 refine⟨k.way,k.done,k.left,.up hb h k.right,fun y da db=> ?_⟩
 have hy:y≠b:=fun e=>by subst e;have:=r.dom_le w da;omega
 exact k.dom y da (g.sound b wb hb h y db hy)
def upd (p:Int→Int) (b v:Int):Int→Int:=fun c=>if c=b then v else p c
structure Best (nx:Int→List Int) (pos p:Int→Int) (b m:Int):Prop where
 way:Way nx 0 m
 done:p m≠ -1
 lt:pos m<pos b
 anc:∀ a,Way nx 0 a→b∈nx a→p a≠ -1→Anc p m a
 dom:∀ y,Dom nx y b→y≠b→Dom nx y m
theorem upd_up {nx:Int→List Int} {pos p:Int→Int} {b m:Int} (g:Rl nx pos p) (hb:b≠0) (wb:Way nx 0 b) (k:Best nx pos p b m) (hm:m≠ -1):Rl nx pos (upd p b m):=by
 have hmb:m≠b:=fun e=>by have:=k.lt;rw[e]at this;omega
 have keep:∀ c,p c≠ -1→upd p b m c≠ -1:=fun c h=>by unfold upd;split<;>assumption
 refine⟨by unfold upd;rw[if_neg (Ne.symm hb)];exact g.zero,fun c w hc hp=> ?_,fun c w hc hp y d hy=> ?_⟩
 ·by_cases e:c=b
  ·subst e
   have:upd p c m c=m:=by unfold upd;rw[if_pos rfl]
   rw[this];exact⟨k.way,keep m k.done,k.lt⟩
  ·have:upd p b m c=p c:=by unfold upd;rw[if_neg e]
   rw[this]at hp ⊢
   obtain⟨u1,u2,u3⟩:=g.up c w hc hp
   exact⟨u1,keep _ u2,u3⟩
 ·by_cases e:c=b
  ·subst e
   have:upd p c m c=m:=by unfold upd;rw[if_pos rfl]
   rw[this];exact k.dom y d hy
  ·have:upd p b m c=p c:=by unfold upd;rw[if_neg e]
   rw[this]at hp ⊢
   exact g.sound c w hc hp y d hy
theorem zEJ {p:Int→Int} {b m x c:Int} (h:Anc (upd p b m) x c):Anc p x c∨(Anc (upd p b m) x b∧Anc p b c):=by
 induction h with
 |here=>exact .inl .here
 |up h1 h2 h3 ih=>
  rename_i c
  by_cases e:c=b
  ·subst e;exact .inr ⟨.up h1 h2 h3,.here⟩
  ·have:upd p b m c=p c:=by unfold upd;rw[if_neg e]
   rw[this]at h2 ih
   rcases ih with h|⟨h,k⟩
   ·exact .inl (.up h1 h2 h)
   ·exact .inr ⟨h,.up h1 h2 k⟩
theorem anc_low {nx:Int→List Int} {pos p:Int→Int} {b m x c:Int} (g:Rl nx pos p) (wc:Way nx 0 c) (hlt:pos c<pos b) (h:Anc (upd p b m) x c):Anc p x c:=by
 rcases zEJ h with h|⟨_,k⟩
 ·exact h
 ·have:=(g.le k wc).2.1;omega
def Far (nx:Int→List Int) (p:Int→Int) (k:Nat) (c:Int):Prop:=∀ x,Avk nx x k c→p c≠ -1∧¬Anc p x c
theorem zAs {nx:Int→List Int} {pos p:Int→Int} {b m:Int} {k:Nat} (g:Rl nx pos p) (hb:b≠0) (wb:Way nx 0 b) (bt:Best nx pos p b m) (hm:m≠ -1) (hk:∀ c,Far nx p k c):Far nx (upd p b m) (k+1) b:=by
 intro x hx
 have hp:upd p b m b=m:=by unfold upd;rw[if_pos rfl]
 refine⟨by rw[hp];exact hm,fun ha=> ?_⟩
 cases hx with
 |here=>exact hb rfl
 |step h1 hc hne=>
  rename_i a
  obtain⟨pa,na⟩:=hk a x h1
  cases ha with
  |here=>exact hne rfl
  |up _ _ h3=>
   rw[hp]at h3
   exact na ((anc_low g bt.way bt.lt h3).trans (bt.anc a h1.way hc pa))
theorem far_upd {nx:Int→List Int} {pos p:Int→Int} {b m c:Int} {k:Nat} (g:Rl nx pos p) (hb:b≠0) (wb:Way nx 0 b) (bt:Best nx pos p b m) (hm:m≠ -1) (hk:∀ c,Far nx p k c) (hc:Far nx p (k+1) c):Far nx (upd p b m) (k+1) c:=by
 by_cases e:c=b
 ·subst e;exact zAs g hb wb bt hm hk
 ·intro x hx
  obtain⟨pc,nc⟩:=hc x hx
  refine⟨by unfold upd;rw[if_neg e];exact pc,fun ha=> ?_⟩
  rcases zEJ ha with h|⟨h,h2⟩
  ·exact nc h
  ·rcases hx.split' (Ne.symm hb) e with h3|h3
   ·exact(hc b h3).2 h2
   ·exact(zAs g hb wb bt hm hk x (h3.mono (Nat.le_succ _))).2 h
theorem far_upd0 {nx:Int→List Int} {pos p:Int→Int} {b m:Int} {k:Nat} (g:Rl nx pos p) (hb:b≠0) (wb:Way nx 0 b) (bt:Best nx pos p b m) (hm:m≠ -1) (hk:∀ c,Far nx p k c):∀ c,Far nx (upd p b m) k c:=by
 intro c x hx
 obtain⟨pc,nc⟩:=hk c x hx
 have self:Avk nx x k b→¬Anc (upd p b m) x b:=fun h=>(zAs g hb wb bt hm hk x (h.mono (Nat.le_succ _))).2
 by_cases e:c=b
 ·subst e
  exact⟨by unfold upd;rw[if_pos rfl];exact hm,self hx⟩
 ·refine⟨by unfold upd;rw[if_neg e];exact pc,fun ha=> ?_⟩
  rcases zEJ ha with h|⟨h,h2⟩
  ·exact nc h
  ·rcases hx.split (Ne.symm hb)with h3|h3
   ·exact(hk c b h3).2 h2
   ·exact self h3 h
theorem zGS {nx:Int→List Int} {pos p q:Int→Int} {b:Int} (r:Rpo nx pos) (gp:Rl nx pos p) (gq:Rl nx pos q) (hp:∀ x c,Av nx x c→¬Anc p x c) (hq:∀ x c,Av nx x c→¬Anc q x c) (wb:Way nx 0 b) (hb:b≠0) (pb:p b≠ -1) (qb:q b≠ -1):p b=q b:=by
 obtain⟨u1,u2,u3⟩:=gp.up b wb hb pb
 obtain⟨v1,v2,v3⟩:=gq.up b wb hb qb
 have dp:Dom nx (p b) b:=fun h=>hp _ _ h (.up hb pb .here)
 have dq:Dom nx (q b) b:=fun h=>hq _ _ h (.up hb qb .here)
 have h1:=gp.sound b wb hb pb (q b) dq (fun e=>by rw[e]at v3;omega)
 have h2:=gq.sound b wb hb qb (p b) dp (fun e=>by rw[e]at u3;omega)
 have:=r.dom_le u1 h1
 have:=r.dom_le v1 h2
 exact r.inj _ _ u1 v1 (by omega)
theorem zD4 {nx:Int→List Int} {N:Nat} (hin:∀ b,0≤b∧b<(N:Int)→∀ c∈nx b,0≤c∧c<(N:Int)) (hN:0<N):∃ K,∀ x b,0≤x∧x<(N:Int)→Av nx x b→Avk nx x K b:=by
 have hb:∀ x b k,Avk nx x k b→0≤b∧b<(N:Int):=fun x b k h=>by
  induction h with
  |here=>omega
  |step _ hc _ ih=>exact hin _ ih _ hc
 have:∀ M:Nat,∃ K,∀ (i:Nat),i<M→Av nx ((i / N:Nat):Int) ((i % N:Nat):Int)→Avk nx ((i / N:Nat):Int) K ((i % N:Nat):Int):=by
  intro M
  induction M with
  |zero=>exact⟨0,fun i h=>absurd h (Nat.not_lt_zero _)⟩
  |succ M ih=>
   obtain⟨K,hK⟩:=ih
   by_cases h:Av nx ((M / N:Nat):Int) ((M % N:Nat):Int)
   ·obtain⟨k,hk⟩:=h
    refine⟨max K k,fun i hi ha=> ?_⟩
    by_cases e:i=M
    ·subst e;exact hk.mono (by omega)
    ·exact(hK i (by omega) ha).mono (by omega)
   ·refine⟨K,fun i hi ha=> ?_⟩
    by_cases e:i=M
    ·subst e;exact absurd ha h
    ·exact hK i (by omega) ha
 obtain⟨K,hK⟩:=this (N * N)
 refine⟨K,fun x b hx ha=> ?_⟩
 obtain⟨k,hk⟩:=ha
 have hb':=hb x b k hk
 obtain⟨i,rfl⟩:∃ i:Nat,x=i:=⟨x.toNat,by omega⟩
 obtain⟨j,rfl⟩:∃ j:Nat,b=j:=⟨b.toNat,by omega⟩
 have hi:i<N:=by omega
 have hj:j<N:=by omega
 have e1:(N * i+j) / N=i:=by rw[Nat.mul_add_div hN,Nat.div_eq_of_lt hj,Nat.add_zero]
 have e2:(N * i+j) % N=j:=by rw[Nat.mul_add_mod,Nat.mod_eq_of_lt hj]
 have:=hK (N * i+j) (by
  have:N * (i+1)≤N * N:=Nat.mul_le_mul_left _ hi
  rw[Nat.mul_succ]at this;omega)
 rw[e1,e2]at this
 exact this ⟨k,hk⟩
end Go.Proofs.YtdcgdfbblnljjaaGreatDoor
namespace Go.Proofs.YtdcgdfbblnljjaaGreatDoor
open Go.Am
set_option linter.unusedVariables false
set_option linter.unusedSimpArgs false
set_option maxHeartbeats 1000000
def zFj (L:List LBlk):Prop:=L.length≤16∧∀ k,k<L.length→((L.getD k default).fin.kind=1∨(L.getD k default).fin.kind=2∨(L.getD k default).fin.kind=3)∧((L.getD k default).fin.kind=1∨(L.getD k default).fin.kind=2→0≤(L.getD k default).fin.to∧(L.getD k default).fin.to<L.length)∧((L.getD k default).fin.kind=2→0≤(L.getD k default).fin.els∧(L.getD k default).fin.els<L.length)
noncomputable def body57_0:ACode:=(.seq (.region [⟨some 8,none,(.bin .lss (.tmp 7) (.tmp 6))⟩]) (.seq (.cond (.tmp 8) .skip (.exit 0)) (.seq (.block 1 (.seq (.region [⟨some 9,none,(.mov (.tmp 7))⟩,⟨some 10,none,(.idx 5 (.tmp 5) (.tmp 7))⟩,⟨some 11,none,(.load true 5 (.tmp 10))⟩,⟨some 4,none,(.alloc [(.slice none 0 0),(.int .u8 0),(.int .i64 0),(.int .i64 0),(.int .i64 0)])⟩,⟨some 3,none,(.mov (.tmp 9))⟩,⟨none,none,(.store 5 (.tmp 4) (.tmp 11))⟩]) (.seq (.seq (.region [⟨some 12,none,(.fld 1 (.tmp 4))⟩,⟨some 13,none,(.fld 0 (.tmp 12))⟩,⟨some 14,none,(.load false 1 (.tmp 13))⟩,⟨some 15,none,(.bin .neq (.tmp 14) (.const (.int .u8 3)))⟩]) (.cond (.tmp 15) (.regionC [(⟨some 16,none,(.fld 1 (.tmp 4))⟩,[]),(⟨some 17,none,(.fld 2 (.tmp 16))⟩,[]),(⟨some 18,none,(.load false 1 (.tmp 17))⟩,[]),(⟨some 19,none,(.fld 1 (.tmp 4))⟩,[]),(⟨some 20,none,(.fld 2 (.tmp 19))⟩,[]),(⟨some 21,none,(.load false 1 (.tmp 20))⟩,[]),(⟨some 22,none,(.idxArr 16 1 (.tmp 2) (.tmp 21))⟩,[]),(⟨some 23,none,(.load false 1 (.tmp 22))⟩,[]),(⟨some 24,none,(.mov (.tmp 3))⟩,[]),(⟨some 25,none,(.buildSlice 1 1 [(.int .i64 0)] [(0,1,(.tmp 24))])⟩,[]),(⟨some 26,none,(.append 1 (.tmp 23) (.tmp 25))⟩,[2]),(⟨some 27,none,(.idxArr 16 1 (.tmp 2) (.tmp 18))⟩,[]),(⟨none,none,(.store 1 (.tmp 27) (.tmp 26))⟩,[])]) .skip)) (.seq (.region [⟨some 28,none,(.fld 1 (.tmp 4))⟩,⟨some 29,none,(.fld 0 (.tmp 28))⟩,⟨some 30,none,(.load false 1 (.tmp 29))⟩,⟨some 31,none,(.bin .eql (.tmp 30) (.const (.int .u8 2)))⟩,⟨some 32,none,(.mov (.tmp 31))⟩,⟨some 33,some (32,true),(.fld 1 (.tmp 4))⟩,⟨some 34,some (32,true),(.fld 3 (.tmp 33))⟩,⟨some 35,some (32,true),(.load false 1 (.tmp 34))⟩,⟨some 36,some (32,true),(.fld 1 (.tmp 4))⟩,⟨some 37,some (32,true),(.fld 2 (.tmp 36))⟩,⟨some 38,some (32,true),(.load false 1 (.tmp 37))⟩,⟨some 39,some (32,true),(.bin .neq (.tmp 35) (.tmp 38))⟩,⟨some 40,none,(.pick (.tmp 32) (.tmp 39) (.const (.bool false)))⟩]) (.cond (.tmp 40) (.regionC [(⟨some 41,none,(.fld 1 (.tmp 4))⟩,[]),(⟨some 42,none,(.fld 3 (.tmp 41))⟩,[]),(⟨some 43,none,(.load false 1 (.tmp 42))⟩,[]),(⟨some 44,none,(.fld 1 (.tmp 4))⟩,[]),(⟨some 45,none,(.fld 3 (.tmp 44))⟩,[]),(⟨some 46,none,(.load false 1 (.tmp 45))⟩,[]),(⟨some 47,none,(.idxArr 16 1 (.tmp 2) (.tmp 46))⟩,[]),(⟨some 48,none,(.load false 1 (.tmp 47))⟩,[]),(⟨some 49,none,(.mov (.tmp 3))⟩,[]),(⟨some 50,none,(.buildSlice 1 1 [(.int .i64 0)] [(0,1,(.tmp 49))])⟩,[]),(⟨some 51,none,(.append 1 (.tmp 48) (.tmp 50))⟩,[2]),(⟨some 52,none,(.idxArr 16 1 (.tmp 2) (.tmp 43))⟩,[]),(⟨none,none,(.store 1 (.tmp 52) (.tmp 51))⟩,[])]) .skip))))) (.region [⟨some 53,none,(.bin .add (.tmp 7) (.const (.int .i64 1)))⟩,⟨some 7,none,(.mov (.tmp 53))⟩]))))
noncomputable def body57:ACode:=(.seq (.region [⟨some 2,none,(.alloc [(.slice none 0 0),(.slice none 0 0),(.slice none 0 0),(.slice none 0 0),(.slice none 0 0),(.slice none 0 0),(.slice none 0 0),(.slice none 0 0),(.slice none 0 0),(.slice none 0 0),(.slice none 0 0),(.slice none 0 0),(.slice none 0 0),(.slice none 0 0),(.slice none 0 0),(.slice none 0 0)])⟩]) (.seq (.seq (.region [⟨some 5,none,(.mov (.tmp 0))⟩,⟨some 6,none,(.len (.tmp 5))⟩,⟨some 7,none,(.mov (.const (.int .i64 0)))⟩]) (.block 0 (.loop body57_0))) (.seq (.region [⟨some 54,none,(.load true 16 (.tmp 2))⟩,⟨none,none,(.store 16 (.tmp 2) (.tmp 54))⟩]) .ret)))
set_option maxRecDepth 100000 in
theorem tab57:tb.code 57=some ⟨55,[(2,some (true,16))],body57⟩:=by kernel_rfl
theorem ahead_ok (h:AHeap) (hm:h.mark≤h.n) (v:Value) (L:List LBlk) (sb:SlB h v L) (hE:zFj L):
  WC Tryz.prog tb 57 [v] h fun r h'=>(∃ cells:List Value,r= .agg cells.toArray∧cells.length=16∧∀ j,j<16→OwnN h h' (cells.getD j undef) (zS L (j:Int) L.length))∧Ext h h':=by
 refine WC.of (zG 57) tab57 ?_;simp only[zN,Nat.zero_add,Nat.reduceAdd]
 refine go ?_
 refine WO.al ?_
 intro p h1 e1 o1
 obtain⟨g2,hg2,hg2',rfl⟩:∃ g2,h.n≤g2∧g2<h1.n∧p= .pointer (some ⟨g2,0,none⟩):=let ⟨g,a,b,c,_⟩:=o1;⟨g,a,b,c⟩
 have sb1:=SlB.ext sb e1
 refine go ?_
 refine WX.loopA [8,9,10,11,4,3,12,13,14,15,16,17,18,19,20,21,22,23,24,25,26,27,28,29,30,31,32,33,34,35,36,37,38,39,40,41,42,43,44,45,46,47,48,49,50,51,52,53,7] (by kernel_rfl) (fun k=>L.length - k) (fun k t h3=>zB t 7=I k∧k≤L.length∧Ext h h3∧∃ cells,AR h h3 (.pointer (some ⟨g2,0,none⟩)) cells 16 (fun j=>zS L (j:Int) k)) 0 ?_ ?_
 ·refine⟨sl_,Nat.zero_le _,e1,List.replicate 16 (.slice none 0 0),⟨o1,rfl,fun j hj=> ?_,fun i j g a b c d hi hj hne e1 e2=> ?_⟩⟩
  ·have:(List.replicate 16 (Value.slice none 0 0)).getD j undef= .slice none 0 0:=by
    rw[List.getD_eq_getElem?_getD,List.getElem?_eq_getElem (by simpa using hj),List.getElem_replicate];rfl
   rw[this];exact .inl ⟨rfl,rfl⟩
  ·have:(List.replicate 16 (Value.slice none 0 0)).getD i undef= .slice none 0 0:=by
    rw[List.getD_eq_getElem?_getD,List.getElem?_eq_getElem (by simpa using hi),List.getElem_replicate];rfl
   rw[this]at e1;cases e1
 rintro k t h3 hsame ⟨s7,hk,e3,cells,ar⟩
 have sb3:=SlB.ext sb e3
 have hL:=hE.1
 have hx:=hE.2
 refine go ?_
 refine WX.br (fun hc=> ?_) (fun hc=> ?_)<;>simp only[DB]at hc
 ·have hk':k<L.length:=by omega
  obtain⟨hkind,hto,hels⟩:=hx k hk'
  obtain⟨cs,⟨vi,rfl,si,hsi⟩,pc,hs⟩:=zX sb3 hk'
  obtain⟨va,vn,vk,rfl⟩:=zE si
  have hsucc:∀ j:Nat,zS L (j:Int) (k+1)=if (j:Int)∈ZQ (L.getD k default).fin then zS L (j:Int) k++[(k:Int)] else zS L (j:Int) k:=fun j=>zFE L j k
  have halen:∀ j:Nat,(zS L (j:Int) k).length≤1000:=fun j=>by have:=zAe L (j:Int) k;omega
  generalize (L.getD k default).fin=X at *
  refine go ?_
  refine WO.al ?_
  intro p4 h4 e4 o4
  obtain⟨g4,hg4,rfl⟩:∃ g4,h3.n≤g4∧p4= .pointer (some ⟨g4,0,none⟩):=let ⟨g,a,b,c,_⟩:=o4;⟨g,a,c⟩
  refine go ?_
  refine WO.stC0 o4 e4 ?_
  intro h5 e5 o5 u5
  have ar5:=ar.ext e5
  have e05:=e3.trans e5
  have o5:=o5.since e3
  refine go ?_
  have hnx:∀ j:Nat,((j:Int)∈ZQ X)↔(X.kind≠3∧(j:Int)=X.to)∨((X.kind=2∧X.els≠X.to)∧(j:Int)=X.els):=fun j=>by
   unfold ZQ
   by_cases k1:X.kind=1
   ·rw[if_pos k1];simp only[List.mem_singleton];omega
   ·rw[if_neg k1]
    by_cases k2:X.kind=2
    ·rw[if_pos k2]
     by_cases k3:X.to=X.els
     ·rw[if_pos k3];simp only[List.mem_singleton];omega
     ·rw[if_neg k3];simp only[List.mem_cons,List.mem_nil_iff,or_false];omega
    ·rw[if_neg k2];simp only[List.mem_nil_iff,false_iff];omega
  have hmk:h5.mark≤h.n:=by rw[e05.mark];exact hm
  have hg42:g4≠g2:=by have:=e3.n;obtain⟨g,_,q2,q3,_⟩:=ar.own;cases q3;omega
  refine WX.cutA [16,17,18,19,20,21,22,23,24,25,26,27] (by kernel_rfl) (fun t h'=>Ext h h'∧(∃ cells',AR h h' (.pointer (some ⟨g2,0,none⟩)) cells' 16 (fun j=>if X.kind≠3∧(j:Int)=X.to then zS L (j:Int) k++[(k:Int)] else zS L (j:Int) k))∧OwnC h h' (.pointer (some ⟨g4,0,none⟩)) [.slice va vn vk,.int .u8 X.kind,I X.a,I X.to,I X.els]) ?_ ?_
  ·refine WX.br (fun hd=> ?_) (fun hd=> ?_)<;>simp only[DB]at hd
   ·have hd':X.kind≠3:=by simpa using hd
    obtain⟨t0,t1⟩:=hto (by omega)
    have hi16:X.to.toNat<16:=by omega
    have ht:(X.to.toNat:Int)=X.to:=by omega
    refine WX.regionU6 (fun g=>∃ a b,cells.getD X.to.toNat undef= .slice (some ⟨g,0,none⟩) a b) 1 rfl rfl ?_
    have hb4:¬∃ a b,cells.getD X.to.toNat undef= .slice (some ⟨g4,0,none⟩) a b:=fun ⟨a,b,e⟩=>zEK o5 (ar5.all _ hi16) _ _ _ e rfl
    have hb2:¬∃ a b,cells.getD X.to.toNat undef= .slice (some ⟨g2,0,none⟩) a b:=fun ⟨a,b,e⟩=>ar5.off hi16 rfl e rfl
    have o5X:OwnC h (inC (zF 1 h5)) (.pointer (some ⟨g4,0,none⟩)) [.slice va vn vk,.int .u8 X.kind,I X.a,I X.to,I X.els]:=by have:=o5.ext (yY 1 h5);exact this
    have o2X:OwnC h (inC (zF 1 h5)) (.pointer (some ⟨g2,0,none⟩)) cells:=by have:=ar5.own.ext (yY 1 h5);exact this
    refine goV ?_
    refine WO.ldV (i:=X.to.toNat) o2X (by rw[ar5.len];omega) ?_
    refine WO.nil ?_
    refine uK6_l (a:=⟨g2,0,none⟩) (k:=X.to.toNat) yD hb2 ?_
    refine goV ?_
    refine WU6.app (i:=X.to.toNat) (k:=(k:Int)) ar5 e05 (by rw[e05.mark];exact hm) hi16 rfl (halen _) yD yD rfl (fun w=>yD) (fun w=>by rw[ht];exact yD) rfl ?_
    intro hN w t' hsl eN arN keepN nN
    have oN:OwnC h hN (.pointer (some ⟨g4,0,none⟩)) [.slice va vn vk,.int .u8 X.kind,I X.a,I X.to,I X.els]:=by
     obtain⟨q,q1,q2,q3,q4⟩:=o5
     cases q3
     exact⟨g4,q1,Nat.lt_of_lt_of_le q2 nN,rfl,(keepN g4 q2 (fun e=>by cases e;exact hg42 rfl) (fun a b e=>hb4 ⟨a,b,e⟩)).trans q4⟩
    refine zI ⟨eN,⟨cells.set X.to.toNat w,?_⟩,oN⟩
    have hfun:(fun j:Nat=>if j=X.to.toNat then (zS L ((X.to.toNat:Nat):Int) k)++[(k:Int)] else zS L ((j:Nat):Int) k)=fun j:Nat=>if X.kind≠3∧(j:Int)=X.to then zS L (j:Int) k++[(k:Int)] else zS L (j:Int) k:=by
     funext j
     by_cases e:(j:Int)=X.to
     ·have e2:j=X.to.toNat:=by omega
      rw[if_pos e2]
      refine Eq.trans ?_ (if_pos ⟨hd',e⟩).symm
      rw[←e2]
     ·rw[if_neg (show ¬j=_ by omega)]
      exact(if_neg (fun h=>e h.2)).symm
    rw[←hfun];exact arN
   ·refine WX.skip ?_
    have hk3:X.kind=3:=by simpa using hd
    refine zI ⟨e05,⟨cells,?_⟩,o5⟩
    have hfun:(fun j:Nat=>zS L (j:Int) k)=fun j:Nat=>if X.kind≠3∧(j:Int)=X.to then zS L (j:Int) k++[(k:Int)] else zS L (j:Int) k:=by
     funext j;rw[if_neg (fun h=>h.1 hk3)]
    rw[←hfun];exact ar5
  clear hs pc ar5 o5 e5 e4 u5 o4
  rintro t6 h6 hs6 ⟨e06,⟨cells6,ar6⟩,o6⟩
  have hlen6:∀ j:Nat,(if X.kind≠3∧((j:Nat):Int)=X.to then zS L ((j:Nat):Int) k++[(k:Int)] else zS L ((j:Nat):Int) k).length≤1000:=fun j=>by
   have:=zAe L (j:Int) k
   split
   ·rw[List.length_append,List.length_singleton];omega
   ·omega
  refine go ?_
  refine WO.mid 8 (fun t' h'=>h6=h'∧zB t' 40= .bool (decide (X.kind=2∧X.els≠X.to))) ?_ ?_<;>simp only[List.take_succ_cons,List.take_zero,List.drop_succ_cons,List.drop_zero]
  ·by_cases k2:X.kind=2
   ·refine go ?_
    exact⟨rfl,rfl,rfl,(sl_:zB _ 40= .bool (!decide (X.els=X.to))).trans (by simp[k2])⟩
   ·refine go ?_
    exact⟨rfl,rfl,rfl,(sl_:zB _ 40= .bool false).trans (by simp[k2])⟩
  rintro t7 _ hs7 ⟨rfl,q40⟩
  refine go ?_
  refine WX.cutA [41,42,43,44,45,46,47,48,49,50,51,52] (by kernel_rfl) (fun t h'=>Ext h h'∧(∃ cells',AR h h' (.pointer (some ⟨g2,0,none⟩)) cells' 16 (fun j=>if (X.kind=2∧X.els≠X.to)∧(j:Int)=X.els then (if X.kind≠3∧(j:Int)=X.to then zS L (j:Int) k++[(k:Int)] else zS L (j:Int) k)++[(k:Int)] else (if X.kind≠3∧(j:Int)=X.to then zS L (j:Int) k++[(k:Int)] else zS L (j:Int) k)))∧OwnC h h' (.pointer (some ⟨g4,0,none⟩)) [.slice va vn vk,.int .u8 X.kind,I X.a,I X.to,I X.els]) ?_ ?_
  ·refine WX.br (fun hd=> ?_) (fun hd=> ?_)<;>simp only[DB]at hd
   ·have hd':X.kind=2∧X.els≠X.to:=by exact hd
    obtain⟨t0,t1⟩:=hels hd'.1
    have hi16:X.els.toNat<16:=by omega
    have ht:(X.els.toNat:Int)=X.els:=by omega
    refine WX.regionU6 (fun g=>∃ a b,cells6.getD X.els.toNat undef= .slice (some ⟨g,0,none⟩) a b) 1 rfl rfl ?_
    have hb4:¬∃ a b,cells6.getD X.els.toNat undef= .slice (some ⟨g4,0,none⟩) a b:=fun ⟨a,b,e⟩=>zEK o6 (ar6.all _ hi16) _ _ _ e rfl
    have hb2:¬∃ a b,cells6.getD X.els.toNat undef= .slice (some ⟨g2,0,none⟩) a b:=fun ⟨a,b,e⟩=>ar6.off hi16 rfl e rfl
    have o5X:OwnC h (inC (zF 1 h6)) (.pointer (some ⟨g4,0,none⟩)) [.slice va vn vk,.int .u8 X.kind,I X.a,I X.to,I X.els]:=by have:=o6.ext (yY 1 h6);exact this
    have o2X:OwnC h (inC (zF 1 h6)) (.pointer (some ⟨g2,0,none⟩)) cells6:=by have:=ar6.own.ext (yY 1 h6);exact this
    refine goV ?_
    refine WO.ldV (i:=X.els.toNat) o2X (by rw[ar6.len];omega) ?_
    refine WO.nil ?_
    refine uK6_l (a:=⟨g2,0,none⟩) (k:=X.els.toNat) yD hb2 ?_
    refine goV ?_
    refine WU6.app (i:=X.els.toNat) (k:=(k:Int)) ar6 e06 (by rw[e06.mark];exact hm) hi16 rfl (hlen6 _) yD yD rfl (fun w=>yD) (fun w=>by rw[ht];exact yD) rfl ?_
    intro hN w t' hsl eN arN keepN nN
    have oN:OwnC h hN (.pointer (some ⟨g4,0,none⟩)) [.slice va vn vk,.int .u8 X.kind,I X.a,I X.to,I X.els]:=by
     obtain⟨q,q1,q2,q3,q4⟩:=o6
     cases q3
     exact⟨g4,q1,Nat.lt_of_lt_of_le q2 nN,rfl,(keepN g4 q2 (fun e=>by cases e;exact hg42 rfl) (fun a b e=>hb4 ⟨a,b,e⟩)).trans q4⟩
    refine zI ⟨eN,⟨cells6.set X.els.toNat w,?_⟩,oN⟩
    have hfun:(fun j:Nat=>if j=X.els.toNat then (if X.kind≠3∧((X.els.toNat:Nat):Int)=X.to then zS L ((X.els.toNat:Nat):Int) k++[(k:Int)] else zS L ((X.els.toNat:Nat):Int) k)++[(k:Int)] else if X.kind≠3∧((j:Nat):Int)=X.to then zS L ((j:Nat):Int) k++[(k:Int)] else zS L ((j:Nat):Int) k)=fun j:Nat=>if (X.kind=2∧X.els≠X.to)∧(j:Int)=X.els then (if X.kind≠3∧(j:Int)=X.to then zS L (j:Int) k++[(k:Int)] else zS L (j:Int) k)++[(k:Int)] else (if X.kind≠3∧(j:Int)=X.to then zS L (j:Int) k++[(k:Int)] else zS L (j:Int) k):=by
     funext j
     by_cases e:(j:Int)=X.els
     ·have e2:j=X.els.toNat:=by omega
      rw[if_pos e2]
      refine Eq.trans ?_ (if_pos ⟨hd',e⟩).symm
      rw[←e2]
     ·rw[if_neg (show ¬j=_ by omega)]
      exact(if_neg (fun h=>e h.2)).symm
    rw[←hfun];exact arN
   ·refine WX.skip ?_
    refine zI ⟨e06,⟨cells6,?_⟩,o6⟩
    have hfun:(fun j:Nat=>if X.kind≠3∧((j:Nat):Int)=X.to then zS L ((j:Nat):Int) k++[(k:Int)] else zS L ((j:Nat):Int) k)=fun j:Nat=>if (X.kind=2∧X.els≠X.to)∧(j:Int)=X.els then (if X.kind≠3∧(j:Int)=X.to then zS L (j:Int) k++[(k:Int)] else zS L (j:Int) k)++[(k:Int)] else (if X.kind≠3∧(j:Int)=X.to then zS L (j:Int) k++[(k:Int)] else zS L (j:Int) k):=by
     funext j;exact(if_neg (fun h=>hd h.1)).symm
    rw[←hfun];exact ar6
  rintro t8 h8 hs8 ⟨e08,⟨cells8,ar8⟩,o8⟩
  refine go ?_
  refine zA (k+1) (by omega) ⟨sln,by omega,e08,cells8,?_⟩
  have hfun:(fun j:Nat=>if (X.kind=2∧X.els≠X.to)∧(j:Int)=X.els then (if X.kind≠3∧(j:Int)=X.to then zS L (j:Int) k++[(k:Int)] else zS L (j:Int) k)++[(k:Int)] else (if X.kind≠3∧(j:Int)=X.to then zS L (j:Int) k++[(k:Int)] else zS L (j:Int) k))=fun j:Nat=>zS L (j:Int) (k+1):=by
   funext j
   rw[hsucc j]
   have:=hnx j
   by_cases c1:X.kind≠3∧(j:Int)=X.to
   ·rw[if_neg (fun h=>h.1.2 (h.2.symm.trans c1.2)),if_pos c1,if_pos (this.2 (.inl c1))]
   ·by_cases c2:(X.kind=2∧X.els≠X.to)∧(j:Int)=X.els
    ·rw[if_pos c2,if_neg c1,if_pos (this.2 (.inr c2))]
    ·rw[if_neg c2,if_neg c1,if_neg (fun h=>(this.1 h).elim c1 c2)]
  rw[←hfun];exact ar8
 ·have hkk:k=L.length:=by omega
  subst hkk
  have oc:=ar.own
  refine go ?_
  refine WO.ldAll oc ar.len ?_
  refine WO.stC0 (cs:=cells) oc e3 ?_ (hn:=ar.len) (hl:=ar.len) (h1:=ar.one)
  intro h6 e6 o6 u6
  have ar6:=ar.updC o6 u6
  refine go ?_
  refine rt ?_ (Res.consA sl_ o6 (zGp ar.len) Res.nil)
  exact⟨⟨cells,rfl,ar.len,ar6.all⟩,e6⟩
end Go.Proofs.YtdcgdfbblnljjaaGreatDoor
namespace Go.Proofs.YtdcgdfbblnljjaaGreatDoor
open Go.Am
set_option linter.unusedVariables false
set_option linter.unusedSimpArgs false
set_option maxHeartbeats 1000000
abbrev pO (xs:List Int) (b:Int):Int:=xs.getD b.toNat 0
abbrev qO (xs:List Int) (b:Int):Int:=xs.getD (16+b.toNat) 0
structure Dm (nx:Int→List Int) (xs:List Int):Prop where
 len:xs.length=32
 rpo:Rpo nx (fun b=>qO xs b)
 rl:Rl nx (fun b=>qO xs b) (fun b=>pO xs b)
 bnd:∀ b,Way nx 0 b→0≤b∧b<16
noncomputable def body58_0:ACode:=(.seq (.seq (.regionC [(⟨some 10,none,(.mov (.tmp 0))⟩,[]),(⟨some 11,none,(.mov (.tmp 1))⟩,[]),(⟨some 12,none,(.nilCheck (.tmp 10))⟩,[]),(⟨some 13,none,(.fld 16 (.tmp 12))⟩,[]),(⟨some 14,none,(.idxArr 16 1 (.tmp 13) (.tmp 11))⟩,[]),(⟨some 15,none,(.load false 1 (.tmp 14))⟩,[]),(⟨some 16,none,(.mov (.tmp 0))⟩,[]),(⟨some 17,none,(.mov (.tmp 2))⟩,[]),(⟨some 18,none,(.nilCheck (.tmp 16))⟩,[]),(⟨some 19,none,(.fld 16 (.tmp 18))⟩,[]),(⟨some 20,none,(.idxArr 16 1 (.tmp 19) (.tmp 17))⟩,[]),(⟨some 21,none,(.load false 1 (.tmp 20))⟩,[]),(⟨some 22,none,(.bin .gtr (.tmp 15) (.tmp 21))⟩,[])]) (.cond (.tmp 22) .skip (.exit 2))) (.block 3 (.region [⟨some 23,none,(.mov (.tmp 0))⟩,⟨some 24,none,(.mov (.tmp 1))⟩,⟨some 25,none,(.nilCheck (.tmp 23))⟩,⟨some 26,none,(.fld 0 (.tmp 25))⟩,⟨some 27,none,(.idxArr 16 1 (.tmp 26) (.tmp 24))⟩,⟨some 28,none,(.load false 1 (.tmp 27))⟩,⟨some 1,none,(.mov (.tmp 28))⟩])))
noncomputable def body58_1:ACode:=(.seq (.seq (.regionC [(⟨some 29,none,(.mov (.tmp 0))⟩,[]),(⟨some 30,none,(.mov (.tmp 2))⟩,[]),(⟨some 31,none,(.nilCheck (.tmp 29))⟩,[]),(⟨some 32,none,(.fld 16 (.tmp 31))⟩,[]),(⟨some 33,none,(.idxArr 16 1 (.tmp 32) (.tmp 30))⟩,[]),(⟨some 34,none,(.load false 1 (.tmp 33))⟩,[]),(⟨some 35,none,(.mov (.tmp 0))⟩,[]),(⟨some 36,none,(.mov (.tmp 1))⟩,[]),(⟨some 37,none,(.nilCheck (.tmp 35))⟩,[]),(⟨some 38,none,(.fld 16 (.tmp 37))⟩,[]),(⟨some 39,none,(.idxArr 16 1 (.tmp 38) (.tmp 36))⟩,[]),(⟨some 40,none,(.load false 1 (.tmp 39))⟩,[]),(⟨some 41,none,(.bin .gtr (.tmp 34) (.tmp 40))⟩,[])]) (.cond (.tmp 41) .skip (.exit 4))) (.block 5 (.region [⟨some 42,none,(.mov (.tmp 0))⟩,⟨some 43,none,(.mov (.tmp 2))⟩,⟨some 44,none,(.nilCheck (.tmp 42))⟩,⟨some 45,none,(.fld 0 (.tmp 44))⟩,⟨some 46,none,(.idxArr 16 1 (.tmp 45) (.tmp 43))⟩,⟨some 47,none,(.load false 1 (.tmp 46))⟩,⟨some 2,none,(.mov (.tmp 47))⟩])))
noncomputable def body58_2:ACode:=(.seq (.seq (.region [⟨some 7,none,(.mov (.tmp 1))⟩,⟨some 8,none,(.mov (.tmp 2))⟩,⟨some 9,none,(.bin .neq (.tmp 7) (.tmp 8))⟩]) (.cond (.tmp 9) .skip (.exit 0))) (.block 1 (.seq (.block 2 (.loop body58_0)) (.block 4 (.loop body58_1)))))
noncomputable def body58:ACode:=(.seq (.region [⟨some 6,none,(.mov (.const (.int .i64 0)))⟩]) (.seq (.block 0 (.loop body58_2)) (.seq (.region [⟨some 48,none,(.mov (.tmp 1))⟩,⟨some 6,none,(.mov (.tmp 48))⟩]) .ret)))
set_option maxRecDepth 100000 in
theorem tab58:tb.code 58=some ⟨49,[(6,none)],body58⟩:=by kernel_rfl
theorem meet_ok (hA h:AHeap) (p:Value) (nx:Int→List Int) (xs:List Int) (a b:Int) (o:OwnC hA h p (xs.map I)) (dm:Hid (Dm nx xs)) (wa:Way nx 0 a) (wb:Way nx 0 b) (pa:pO xs a≠ -1) (pb:pO xs b≠ -1):
  WC Tryz.prog tb 58 [p,I a,I b] h fun r h'=>(∃ m,r=I m∧Mt nx (fun b=>qO xs b) (fun b=>pO xs b) a b m)∧h=h':=by
 obtain⟨g,rfl⟩:∃ g,p= .pointer (some ⟨g,0,none⟩):=let ⟨g,_,_,e,_⟩:=o;⟨g,e⟩
 have hl:=dm.out.len
 refine WC.of (zG 58) tab58 ?_;simp only[zN,Nat.zero_add,Nat.reduceAdd]
 refine go ?_
 refine WX.loopA [7,8,9,10,11,12,13,14,15,16,17,18,19,20,21,22,23,24,25,26,27,28,1,29,30,31,32,33,34,35,36,37,38,39,40,41,42,43,44,45,46,47,2] (by kernel_rfl) (fun x=>(qO xs x.1).toNat+(qO xs x.2).toNat) (fun (x:Int×Int) t h1=>h=h1∧zB t 1=I x.1∧zB t 2=I x.2∧Way nx 0 x.1∧Way nx 0 x.2∧pO xs x.1≠ -1∧pO xs x.2≠ -1∧Hid (∀ m,Mt nx (fun b=>qO xs b) (fun b=>pO xs b) x.1 x.2 m→Mt nx (fun b=>qO xs b) (fun b=>pO xs b) a b m)) (a,b) ?_ ?_
 ·exact⟨rfl,sl_,sl_,wa,wb,pa,pb,⟨fun m h=>h⟩⟩
 rintro⟨c,d⟩ t _ hsame ⟨rfl,s1,s2,wc,wd,pc,pd,hm⟩
 simp only at s1 s2 wc wd pc pd hm
 have bc:=dm.out.bnd c wc
 have bd:=dm.out.bnd d wd
 refine go ?_
 refine WX.br (fun he=> ?_) (fun he=> ?_)<;>simp only[DB]at he
 case refine_2=>
  subst he
  refine go ?_
  refine rt ?_
  exact⟨⟨c,rfl,hm.out c (Mt.same wc pc)⟩,rfl⟩
 have hne:qO xs c≠qO xs d:=fun e=>he (dm.out.rpo.inj c d wc wd e)
 have nc:=dm.out.rpo.nn c wc
 have nd:=dm.out.rpo.nn d wd
 try simp only at nc nd
 refine go ?_
 refine WX.loopA [10,11,12,13,14,15,16,17,18,19,20,21,22,23,24,25,26,27,28,1] (by kernel_rfl) (fun x=>(qO xs x).toNat) (fun (x:Int) t h1=>h=h1∧zB t 1=I x∧Way nx 0 x∧pO xs x≠ -1∧(qO xs x≤qO xs c∧0≤qO xs x)∧Hid (∀ m,Mt nx (fun b=>qO xs b) (fun b=>pO xs b) x d m→Mt nx (fun b=>qO xs b) (fun b=>pO xs b) a b m)) c ?_ ?_
 ·exact⟨rfl,sl_,wc,pc,⟨Int.le_refl _,nc⟩,hm⟩
 rintro x t _ hsame2 ⟨rfl,s1,wx,px,hx,hmx⟩
 have bx:=dm.out.bnd x wx
 refine go ?_
 refine WX.br (fun hf=> ?_) (fun hf=> ?_)<;>simp only[DB]at hf
 ·have hx0:x≠0:=fun e=>by subst e;have:=dm.out.rpo.zero;have hf2:qO xs d<qO xs 0:=hf;omega
  obtain⟨u1,u2,u3⟩:=dm.out.rl.up x wx hx0 px
  have nu:=dm.out.rpo.nn _ u1
  try simp only at u2 u3 nu
  refine go ?_
  exact zA (pO xs x) (by omega) ⟨rfl,sl_,u1,u2,⟨by omega,nu⟩,⟨fun m h=>hmx.out m (Mt.stepL dm.out.rpo dm.out.rl wx wd px hf h)⟩⟩
 refine go ?_
 refine WX.loopA [29,30,31,32,33,34,35,36,37,38,39,40,41,42,43,44,45,46,47,2] (by kernel_rfl) (fun y=>(qO xs y).toNat) (fun (y:Int) t h1=>h=h1∧zB t 2=I y∧Way nx 0 y∧pO xs y≠ -1∧(qO xs y≤qO xs d∧0≤qO xs y)∧Hid (∀ m,Mt nx (fun b=>qO xs b) (fun b=>pO xs b) x y m→Mt nx (fun b=>qO xs b) (fun b=>pO xs b) a b m)) d ?_ ?_
 ·exact⟨rfl,sl_,wd,pd,⟨Int.le_refl _,nd⟩,hmx⟩
 rintro y t _ hsame3 ⟨rfl,s2,wy,py,hy,hmy⟩
 have bY:=dm.out.bnd y wy
 refine go ?_
 refine WX.br (fun hg=> ?_) (fun hg=> ?_)<;>simp only[DB]at hg
 ·have hy0:y≠0:=fun e=>by subst e;have:=dm.out.rpo.zero;have hg2:qO xs x<qO xs 0:=hg;omega
  obtain⟨u1,u2,u3⟩:=dm.out.rl.up y wy hy0 py
  have nu:=dm.out.rpo.nn _ u1
  try simp only at u2 u3 nu
  refine go ?_
  exact zA (pO xs y) (by omega) ⟨rfl,sl_,u1,u2,⟨by omega,nu⟩,⟨fun m h=>hmy.out m (Mt.stepR dm.out.rpo dm.out.rl wx wy py hg h)⟩⟩
 refine go ?_
 have key:∀ (C D X Y:Int),C≠D→0≤X→X≤C→0≤Y→Y≤D→X≤D→Y≤X→X.toNat+Y.toNat<C.toNat+D.toNat:=by intros;omega
 exact zA (x,y) (key _ _ _ _ hne hx.2 hx.1 hy.2 hy.1 hf hg) ⟨rfl,sl_,sl_,wx,wy,px,py,hmy⟩
noncomputable def body22_0:ACode:=(.seq (.seq (.region [⟨some 7,none,(.mov (.tmp 2))⟩,⟨some 8,none,(.mov (.tmp 1))⟩,⟨some 9,none,(.bin .neq (.tmp 7) (.tmp 8))⟩,⟨some 10,none,(.mov (.tmp 9))⟩,⟨some 11,some (10,true),(.mov (.tmp 2))⟩,⟨some 12,some (10,true),(.mov (.tmp 0))⟩,⟨some 13,some (10,true),(.mov (.tmp 2))⟩,⟨some 14,some (10,true),(.nilCheck (.tmp 12))⟩,⟨some 15,some (10,true),(.fld 0 (.tmp 14))⟩,⟨some 16,some (10,true),(.idxArr 16 1 (.tmp 15) (.tmp 13))⟩,⟨some 17,some (10,true),(.load false 1 (.tmp 16))⟩,⟨some 18,some (10,true),(.bin .neq (.tmp 11) (.tmp 17))⟩,⟨some 19,none,(.pick (.tmp 10) (.tmp 18) (.const (.bool false)))⟩]) (.cond (.tmp 19) .skip (.exit 0))) (.block 1 (.region [⟨some 20,none,(.mov (.tmp 0))⟩,⟨some 21,none,(.mov (.tmp 2))⟩,⟨some 22,none,(.nilCheck (.tmp 20))⟩,⟨some 23,none,(.fld 0 (.tmp 22))⟩,⟨some 24,none,(.idxArr 16 1 (.tmp 23) (.tmp 21))⟩,⟨some 25,none,(.load false 1 (.tmp 24))⟩,⟨some 2,none,(.mov (.tmp 25))⟩])))
noncomputable def body22:ACode:=(.seq (.region [⟨some 6,none,(.mov (.const (.bool false)))⟩]) (.seq (.block 0 (.loop body22_0)) (.seq (.region [⟨some 26,none,(.mov (.tmp 1))⟩,⟨some 27,none,(.mov (.tmp 2))⟩,⟨some 28,none,(.bin .eql (.tmp 26) (.tmp 27))⟩,⟨some 6,none,(.mov (.tmp 28))⟩]) .ret)))
set_option maxRecDepth 100000 in
theorem tab22:tb.code 22=some ⟨29,[(6,none)],body22⟩:=by kernel_rfl
theorem zHr (hA h:AHeap) (p:Value) (nx:Int→List Int) (xs:List Int) (a b:Int) (o:OwnC hA h p (xs.map I)) (dm:Hid (Dm nx xs)) (wb:Way nx 0 b) (hall:Hid (∀ b,Way nx 0 b→pO xs b≠ -1)):
  WC Tryz.prog tb 22 [p,I a,I b] h fun r h'=>(∃ bb,r= .bool bb∧(bb=true↔Anc (fun b=>pO xs b) a b))∧h=h':=by
 obtain⟨g,rfl⟩:∃ g,p= .pointer (some ⟨g,0,none⟩):=let ⟨g,_,_,e,_⟩:=o;⟨g,e⟩
 have hl:=dm.out.len
 refine WC.of (zG 22) tab22 ?_;simp only[zN,Nat.zero_add,Nat.reduceAdd]
 refine go ?_
 refine WX.loopA [7,8,9,10,11,12,13,14,15,16,17,18,19,20,21,22,23,24,25,2] (by kernel_rfl) (fun x=>(qO xs x).toNat) (fun (x:Int) t h1=>h=h1∧zB t 2=I x∧Way nx 0 x∧Hid (Anc (fun b=>pO xs b) a b↔Anc (fun b=>pO xs b) a x)) b ?_ ?_
 ·exact⟨rfl,sl_,wb,⟨Iff.rfl⟩⟩
 rintro x t _ hsame ⟨rfl,s2,wx,hx⟩
 have bx:=dm.out.bnd x wx
 have px:=hall.out x wx
 refine go ?_
 by_cases hxa:x=a
 ·refine go ?_
  refine rt ?_
  exact⟨⟨_,rfl,by rw[hx.out,←hxa];simp;exact .here⟩,rfl⟩
 by_cases hx0:x=0
 ·have hz:=dm.out.rl.zero
  try simp only at hz
  have hxe:pO xs x=x:=by rw[hx0];exact hz
  have hxn:(x=pO xs x):=hxe.symm
  refine go ?_
  refine rt ?_
  refine⟨⟨_,rfl,?_⟩,rfl⟩
  rw[hx.out,decide_eq_true_iff]
  constructor
  ·intro e;exact absurd e.symm hxa
  ·intro h;rw[hx0]at h;have:=Anc.zero h;exact absurd (hx0.trans this.symm) hxa
 obtain⟨u1,u2,u3⟩:=dm.out.rl.up x wx hx0 px
 have nu:=dm.out.rpo.nn _ u1
 try simp only at u2 u3 nu
 have hxp:¬(x=pO xs x):=fun e=>by rw[←e]at u3;omega
 refine go ?_
 refine zA (pO xs x) (by omega) ⟨rfl,sl_,u1,⟨hx.out.trans ⟨fun h=> ?_,fun h=> .up hx0 px h⟩⟩⟩
 cases h with
 |here=>exact absurd rfl hxa
 |up _ _ h=>exact h
end Go.Proofs.YtdcgdfbblnljjaaGreatDoor
namespace Go.Proofs.YtdcgdfbblnljjaaGreatDoor
open Go.Am
set_option linter.unusedVariables false
set_option linter.unusedSimpArgs false
def ParL (nx:Int→List Int) (e:List Int) (S:Int→Prop):Prop:=∀ e1 u e2,e=e1++u::e2→S u∨∃ a∈e2,u∈nx a
theorem ParL.nil {nx:Int→List Int} {S:Int→Prop}:ParL nx [] S:=fun e1 u e2 h=>by cases e1<;>cases h
theorem ParL.append {nx:Int→List Int} {e f:List Int} {S:Int→Prop} (h:ParL nx e S) (k:ParL nx f S):ParL nx (e++f) S:=by
 intro e1 u e2 he
 rcases List.append_eq_append_iff.1 he with ⟨a,h1,h2⟩|⟨a,h1,h2⟩
 ·exact k a u e2 h2
 ·cases a with
  |nil=>exact k [] u e2 (by simpa using h2.symm)
  |cons x a=>
   simp only[List.cons_append,List.cons.injEq]at h2
   obtain⟨rfl,rfl⟩:=h2
   rcases h e1 u a h1 with h|⟨b,hb,hu⟩
   ·exact .inl h
   ·exact .inr ⟨b,by simp[hb],hu⟩
theorem dfs_par {nx:Int→List Int}:∀ (n:Nat) (b:Int) (s:DS),∃ e,(yj nx n b s).2=s.2++e∧ParL nx e (fun u=>u=b):=by
 intro n
 induction n with
 |zero=>intro b s;exact⟨[],by simp[yj],ParL.nil⟩
 |succ n ih=>
  intro b s
  by_cases hbb:(s.1.lookup b).isSome
  ·rw[zAL hbb];exact⟨[],by simp,ParL.nil⟩
  ·have go:∀ (l:List Int) (t:DS),(∀ c∈l,c∈nx b)→∃ e,(l.foldl (fun (t:DS) (c:Int)=>yj nx n c t) t).2=t.2++e∧ParL nx e (fun u=>u∈nx b):=by
    intro l
    induction l with
    |nil=>intro t _;exact⟨[],by simp,ParL.nil⟩
    |cons x l ihl=>
     intro t hl
     obtain⟨e,h1,h2⟩:=ih x t
     obtain⟨f,h3,h4⟩:=ihl (yj nx n x t) (fun c hc=>hl c (by simp[hc]))
     refine⟨e++f,by rw[List.foldl_cons,h3,h1,List.append_assoc],ParL.append (fun e1 u e2 he=> ?_) h4⟩
     rcases h2 e1 u e2 he with h|h
     ·rw[h];exact .inl (hl x (by simp))
     ·exact .inr h
   obtain⟨e,h1,h2⟩:=go (nx b) (s.1++[(b,(s.1.length:Int))],s.2) (fun c hc=>hc)
   refine⟨e++[b],?_,fun e1 u e2 he=> ?_⟩
   ·conv=>lhs;unfold yj
    rw[if_neg hbb]
    simp only
    rw[h1,List.append_assoc]
   ·rcases List.eq_nil_or_concat e2 with rfl|⟨e3,x,rfl⟩
    ·obtain⟨_,h5⟩:=List.append_inj' (s₁:=e) (t₁:=[b]) (s₂:=e1) (t₂:=[u]) he rfl
     cases h5;exact .inl rfl
    ·have he':e++[b]=(e1++u::e3)++[x]:=by rw[he];simp
     obtain⟨h5,h6⟩:=List.append_inj' he' rfl
     cases h6
     rcases h2 e1 u e3 h5 with h|⟨a,ha,hu⟩
     ·exact .inr ⟨b,by simp,h⟩
     ·exact .inr ⟨a,by simp[ha],hu⟩
theorem zDD {T:List LType} {F:List LFn} {f:Int} (h:(zD T F f 0).2=0):∀ i,i<(zU T F f).1.length→(zU T F f).1.getD i 0≠0→∃ j,j<i∧(zU T F f).1.getD i 0∈nxL (zD T F f 0).1 ((zU T F f).1.getD j 0):=by
 intro i hi hne
 have eO:(zU T F f).1=(Z6 T F f).reverse:=by unfold zU;rw[if_neg (by rw[h];exact fun e=>e rfl)]
 obtain⟨e,h1,h2⟩:=dfs_par (nx:=nxL (zD T F f 0).1) (zD T F f 0).1.length 0 ([],[])
 have eP:Z6 T F f=e:=by
  have:Z6 T F f=(yj (nxL (zD T F f 0).1) (zD T F f 0).1.length 0 ([],[])).2:=rfl
  rw[this,h1];rfl
 rw[eO,eP]at hi hne ⊢
 rw[List.length_reverse]at hi
 have ei:∀ k,k<e.length→e.reverse.getD k 0=e.getD (e.length - 1 - k) 0:=fun k hk=>by
  rw[List.getD_eq_getElem?_getD,List.getElem?_reverse hk,List.getD_eq_getElem?_getD]
 have hi2:e.length - 1 - i<e.length:=by omega
 have hsplit:e=e.take (e.length - 1 - i)++e.getD (e.length - 1 - i) 0::e.drop (e.length - 1 - i+1):=by
  conv=>lhs;rw[←List.take_append_drop (e.length - 1 - i) e,List.drop_eq_getElem_cons hi2]
  simp[List.getD,List.getElem?_eq_getElem hi2]
 rw[ei i hi]at hne ⊢
 rcases h2 _ _ _ hsplit with h3|⟨a,ha,hu⟩
 ·exact absurd h3 hne
 ·obtain⟨m,hm,hma⟩:=List.mem_iff_getElem.1 ha
  rw[List.length_drop]at hm
  rw[List.getElem_drop]at hma
  refine⟨e.length - 1 - (e.length - 1 - i+1+m),by omega,?_⟩
  rw[ei _ (by omega)]
  have:e.getD (e.length - 1 - (e.length - 1 - (e.length - 1 - i+1+m))) 0=a:=by
   rw[show e.length - 1 - (e.length - 1 - (e.length - 1 - i+1+m))=e.length - 1 - i+1+m by omega,←hma]
   simp[List.getD,List.getElem?_eq_getElem (show e.length - 1 - i+1+m<e.length by omega)]
  rw[this];exact hu
theorem ends_ok {T:List LType} {n:Int} {f:LFn} (h:fnL T n f=true):zFj f.blocks:=by
 refine⟨(zGw h).1,fun k hk=> ?_⟩
 unfold fnL at h
 split at h
 ·cases h
 ·rw[Bool.not_eq_true',List.any_eq_false]at h
  have hmem:=zL (l:=f.blocks) (i:=k) hk
  have hblk:=h _ hmem
  unfold zAl at hblk
  simp only[Bool.or_eq_true,not_or,Bool.not_eq_true,Bool.not_eq_false']at hblk
  have he:Yw (f.blocks.getD k default).fin (szL T n f)=true:=by simpa using hblk.2
  unfold Yw zM szL at he
  split at he
  ·rename_i hk1
   simp only[Bool.and_eq_true,decide_eq_true_eq]at he
   refine⟨.inl hk1,fun _=>by omega,fun h2=>by omega⟩
  ·rename_i hk1
   split at he
   ·rename_i hk2
    simp only[Bool.and_eq_true,decide_eq_true_eq]at he
    exact⟨.inr (.inl hk2),fun _=>by omega,fun _=>by omega⟩
   ·rename_i hk2
    split at he
    ·rename_i hk3
     exact⟨.inr (.inr hk3),fun h=>by omega,fun h=>by omega⟩
    ·cases he
theorem zEw {T:List LType} {F:List LFn} {f b:Int} (h:(zD T F f b).2=0):zFj (zD T F f b).1:=by
 obtain⟨_,_,h3,h4⟩:=yN h
 have hin:=Zx h4
 rw[h3]
 exact ends_ok ((Zp hin.2.2).2.2.2 _ (zL (l:=F) (i:=f.toNat) (by omega)))
theorem zHR {T:List LType} {F:List LFn} {f:Int} (h:(zD T F f 0).2=0) {pos:Int→Int} (hp:∀ i,i<(zU T F f).1.length→pos ((zU T F f).1.getD i 0)=i):Rpo (nxL (zD T F f 0).1) pos:=by
 obtain⟨law1,law2,⟨l,law3⟩,law4,law5,law6,law7⟩:=zBb h
 have hpar:=zDD h
 have hmem:∀ b,Way (nxL (zD T F f 0).1) 0 b→∃ i,i<(zU T F f).1.length∧(zU T F f).1.getD i 0=b:=fun b w=>ZA (law4 b ((zAB h).2 w))
 have hw:∀ i,i<(zU T F f).1.length→Way (nxL (zD T F f 0).1) 0 ((zU T F f).1.getD i 0):=fun i=>by
  induction i using Nat.strongRecOn with
  |_ i ih=>
   intro hi
   by_cases e:(zU T F f).1.getD i 0=0
   ·rw[e];exact .here
   ·obtain⟨j,hj,hm⟩:=hpar i hi e
    exact .step (ih j hj (by omega)) hm
 refine⟨?_,fun b w=> ?_,fun a b wa wb e=> ?_,fun b w hb=> ?_⟩
 ·have:=hp 0 (by rw[law3];simp)
  rw[show (zU T F f).1.getD 0 0=0 by rw[law3];rfl]at this
  exact this
 ·obtain⟨i,hi,rfl⟩:=hmem b w
  rw[hp i hi];omega
 ·obtain⟨i,hi,rfl⟩:=hmem a wa
  obtain⟨j,hj,rfl⟩:=hmem b wb
  rw[hp i hi,hp j hj]at e
  have:i=j:=by omega
  rw[this]
 ·obtain⟨i,hi,rfl⟩:=hmem b w
  obtain⟨j,hj,hm⟩:=hpar i hi hb
  exact⟨_,hw j (by omega),hm,by rw[hp i hi,hp j (by omega)];omega⟩
end Go.Proofs.YtdcgdfbblnljjaaGreatDoor
namespace Go.Proofs.YtdcgdfbblnljjaaGreatDoor
open Go.Am
set_option linter.unusedVariables false
set_option linter.unusedSimpArgs false
theorem zFG {T:List LType} {F:List LFn} {f:Int} (h:(zD T F f 0).2=0):(zU T F f).1.Nodup:=by
 obtain⟨_,hpos,_,_⟩:=yN h
 obtain⟨hlen,hin⟩:=yv h
 obtain⟨nd,_,_⟩:=zFA hin (a:=0) ⟨Int.le_refl _,hpos⟩
 unfold zU
 rw[if_neg (by rw[h];exact fun e=>e rfl)]
 simp only
 exact(List.reverse_perm _).nodup_iff.2 nd
theorem Z9 {l:List Int} (h:l.Nodup) {i j:Nat} (hi:i<l.length) (hj:j<l.length) (e:l.getD i 0=l.getD j 0):i=j:=by
 simp only[List.getD,List.getElem?_eq_getElem hi,List.getElem?_eq_getElem hj,Option.getD_some]at e
 exact(List.getElem_inj h).1 e
theorem yh {xs:List Int} {i:Nat} {v:Int} {k:Nat} (hi:i<xs.length):(xs.set i v).getD k 0=if k=i then v else xs.getD k 0:=zAD hi
structure Rnd (nx:Int→List Int) (qs xs:List Int) (k:Nat):Prop where
 dm:Dm nx xs
 qs:xs.drop 16=qs
 far:∀ c,Far nx (fun b=>pO xs b) k c
 un:∀ c,0≤c→c<16→¬Way nx 0 c→pO xs c= -1
 all:1≤k→∀ c,Way nx 0 c→pO xs c≠ -1
structure Md (nx:Int→List Int) (O qs xs0 xs:List Int) (k m:Nat):Prop where
 dm:Dm nx xs
 qs:xs.drop 16=qs
 far:∀ c,Far nx (fun b=>pO xs b) k c
 un:∀ c,0≤c→c<16→¬Way nx 0 c→pO xs c= -1
 pre:∀ i,i<m→Far nx (fun b=>pO xs b) (k+1) (O.getD i 0)∧pO xs (O.getD i 0)≠ -1
 same:∀ j:Nat,j<16→(∀ i,i<m→i≠0→O.getD i 0≠(j:Int))→xs.getD j 0=xs0.getD j 0
 fix:xs=xs0→∀ i,i<m→i≠0→∀ a,Way nx 0 a→O.getD i 0∈nx a→pO xs a≠ -1→Anc (fun b=>pO xs b) (pO xs (O.getD i 0)) a
theorem zEx {nx:Int→List Int} {p:Int→Int} {k:Nat} (h:p 0=0):Far nx p k 0:=fun x hx=>
 ⟨by rw[h];decide,fun ha=>hx.ne (Anc.zero ha).symm⟩
theorem pO_set {xs:List Int} {b v:Int} (hl:xs.length=32) (hb:0<b∧b<16):(fun c=>pO (xs.set b.toNat v) c)=upd (fun c=>pO xs c) b v:=by
 funext c
 unfold upd
 show (xs.set b.toNat v).getD c.toNat 0=_
 rw[yh (by omega)]
 by_cases e:c=b
 ·rw[if_pos (by rw[e]),if_pos e]
 ·rw[if_neg (by omega),if_neg e]
theorem qO_set {xs:List Int} {b v:Int} (hl:xs.length=32) (hb:0<b∧b<16):(fun c=>qO (xs.set b.toNat v) c)=fun c=>qO xs c:=by
 funext c
 show (xs.set b.toNat v).getD (16+c.toNat) 0=_
 rw[yh (by omega),if_neg (by omega)]
theorem set_drop {xs:List Int} {b v:Int} (hb:0<b∧b<16):(xs.set b.toNat v).drop 16=xs.drop 16:=by
 rw[List.drop_set,if_pos (by omega)]
theorem Md.start {nx:Int→List Int} {O qs xs:List Int} {k:Nat} (r:Rnd nx qs xs k) (h0:O.getD 0 0=0):Md nx O qs xs xs k 1 where
 dm:=r.dm
 qs:=r.qs
 far:=r.far
 un:=r.un
 pre:=fun i hi=>by
  have:i=0:=by omega
  subst this
  rw[h0]
  have hz:=r.dm.rl.zero
  exact⟨zEx hz,by show pO xs 0≠ -1;have hz':pO xs 0=0:=hz;rw[hz'];decide⟩
 same:=fun j _ _=>rfl
 fix:=fun _ i hi hi0=>by omega
theorem Md.step {nx:Int→List Int} {O qs xs0 xs:List Int} {k m:Nat} {v:Int} (g:Md nx O qs xs0 xs k m) (hnd:O.Nodup) (hm:m<O.length) (hm0:0<m) (hb0:O.getD m 0≠0) (hw:Way nx 0 (O.getD m 0)) (bt:Best nx (fun b=>qO xs b) (fun b=>pO xs b) (O.getD m 0) v) (hl0:xs0.length=32):Md nx O qs xs0 (xs.set (O.getD m 0).toNat v) k (m+1):=by
 have hl:=g.dm.len
 have hbb:=g.dm.bnd _ hw
 have hb:0<O.getD m 0∧O.getD m 0<16:=by omega
 have hv:v≠ -1:=fun e=>by have:=g.dm.bnd _ bt.way;omega
 have ep:=pO_set (v:=v) hl hb
 have eq:=qO_set (v:=v) hl hb
 have hrl:=upd_up g.dm.rl hb0 hw bt hv
 have hother:∀ i,i<m→O.getD i 0≠O.getD m 0:=fun i hi e=>by have:=Z9 hnd (by omega) hm e;omega
 refine⟨⟨by rw[List.length_set];exact hl,by rw[eq];exact g.dm.rpo,by rw[eq,ep];exact hrl,g.dm.bnd⟩,by rw[set_drop hb];exact g.qs,by rw[ep];exact far_upd0 g.dm.rl hb0 hw bt hv g.far,fun c h1 h2 h3=> ?_,fun i hi=> ?_,fun j hj hn=> ?_,fun he i hi hi0 a wa ha pa=> ?_⟩
 ·have:pO (xs.set (O.getD m 0).toNat v) c=upd (fun c=>pO xs c) (O.getD m 0) v c:=congrFun ep c
  rw[this];unfold upd
  rw[if_neg (fun e=>h3 (by rw[e];exact hw))]
  exact g.un c h1 h2 h3
 ·have hp:pO (xs.set (O.getD m 0).toNat v) (O.getD i 0)=upd (fun c=>pO xs c) (O.getD m 0) v (O.getD i 0):=congrFun ep _
  rw[hp,ep]
  by_cases e:i=m
  ·subst e
   exact⟨zAs g.dm.rl hb0 hw bt hv g.far,by unfold upd;rw[if_pos rfl];exact hv⟩
  ·obtain⟨f1,f2⟩:=g.pre i (by omega)
   exact⟨far_upd g.dm.rl hb0 hw bt hv g.far f1,by unfold upd;rw[if_neg (hother i (by omega))];exact f2⟩
 ·rw[yh (by omega),if_neg (fun e=>hn m (by omega) (by omega) (by omega))]
  exact g.same j hj fun i hi hi0=>hn i (by omega) hi0
 ·have hs:=g.same (O.getD m 0).toNat (by omega) (fun i hi _ e=>hother i hi (by omega))
  have hvs:v=xs.getD (O.getD m 0).toNat 0:=by
   rw[hs,←he,yh (by omega),if_pos rfl]
  have hxx:xs.set (O.getD m 0).toNat v=xs:=by
   refine zA8 (by simp) fun j hj=> ?_
   rw[yh (by omega)]
   by_cases e:j=(O.getD m 0).toNat
   ·rw[if_pos e,e];exact hvs
   ·rw[if_neg e]
  rw[hxx]at he pa ⊢
  by_cases e:i=m
  ·subst e
   have hpv:pO xs (O.getD i 0)=v:=hvs.symm
   rw[hpv]
   exact bt.anc a wa ha pa
  ·exact g.fix he i (by omega) hi0 a wa ha pa
theorem Md.done {nx:Int→List Int} {O qs xs0 xs:List Int} {k:Nat} (g:Md nx O qs xs0 xs k O.length) (hmem:∀ c,Way nx 0 c→∃ i,i<O.length∧O.getD i 0=c):Rnd nx qs xs (k+1) where
 dm:=g.dm
 qs:=g.qs
 far:=fun c x hx=>by
  obtain⟨i,hi,rfl⟩:=hmem c hx.way
  exact(g.pre i hi).1 x hx
 un:=g.un
 all:=fun _ c w=>by
  obtain⟨i,hi,rfl⟩:=hmem c w
  exact(g.pre i hi).2
theorem zF8 {nx:Int→List Int} {O qs xs0 xs:List Int} {k K N:Nat} (r:Rnd nx qs xs0 k) (g:Md nx O qs xs0 xs k O.length) (hmem:∀ c,Way nx 0 c→∃ i,i<O.length∧O.getD i 0=c) (h0:O.getD 0 0=0) (hN:∀ c,Way nx 0 c→0≤c∧c<(N:Int)) (hK:∀ x b,0≤x∧x<(N:Int)→Av nx x b→Avk nx x K b) (hk:K≤k) (hk1:1≤k) (hl0:xs0.length=32) (hnd:O.Nodup) (hre:∀ i,i<O.length→Way nx 0 (O.getD i 0)):xs=xs0:=by
 have hl:=g.dm.len
 have av:∀ (p:Int→Int),(∀ c,Far nx p k c)→Rl nx (fun b=>qO xs b) p→∀ x c,Av nx x c→¬Anc p x c:=fun p hf hr x c hav ha=>by
  obtain⟨j,hj⟩:=hav
  have wx:=(hr.le ha hj.way).1
  exact(hf c x ((hK x c (hN x wx) ⟨j,hj⟩).mono hk)).2 ha
 have hq:(fun b=>qO xs0 b)=fun b=>qO xs b:=by
  funext b
  have h1:∀ (l:List Int),qO l b=(l.drop 16).getD b.toNat 0:=fun l=>by simp[List.getD]
  rw[h1,h1,r.qs,g.qs]
 have hr0:Rl nx (fun b=>qO xs b) (fun b=>pO xs0 b):=by rw[←hq];exact r.dm.rl
 have rd:=g.done hmem
 refine zA8 (by omega) fun j hj=> ?_
 by_cases h16:j<16
 ·by_cases hw:Way nx 0 (j:Int)
  ·by_cases hj0:j=0
   ·exact g.same j h16 fun i hi hi0 e=>hi0 (Z9 hnd hi (by omega) (by rw[h0,e,hj0];rfl))
   ·have:=zGS g.dm.rpo g.dm.rl hr0 (av _ g.far g.dm.rl) (av _ r.far hr0) hw (by omega) (rd.all (by omega) _ hw) (r.all hk1 _ hw)
    simpa [pO]using this
  ·exact g.same j h16 fun i hi hi0 e=>hw (by rw[←e];exact hre i hi)
 ·have h1:=congrArg (fun l=>l.getD (j - 16) 0) (g.qs.trans r.qs.symm)
  simp only[List.getD_eq_getElem?_getD,List.getElem?_drop]at h1 ⊢
  rw[show 16+(j - 16)=j by omega]at h1
  exact h1
end Go.Proofs.YtdcgdfbblnljjaaGreatDoor
