/- What functions of the program come to in the abstract machine, and plain laws about it; no statement of the seat is proved in this text. -/
import Derived.Test.YtdcgdfbblnljjaaGreatDoorJc
import Derived.Test.YtdcgdfbblnljjaaGreatDoorJa
import Derived.Test.YtdcgdfbblnljjaaGreatDoorAmU
import Derived.Test.YtdcgdfbblnljjaaGreatDoorJb
import Derived.Test.YtdcgdfbblnljjaaGreatDoorAmV
namespace Go.Proofs.YtdcgdfbblnljjaaGreatDoor
open Go.Am
set_option linter.unusedVariables false
set_option linter.unusedSimpArgs false
set_option maxHeartbeats 1000000
noncomputable def body133:ACode:=(.seq (.region [⟨some 4,none,(.mov (.const (.bool false)))⟩]) (.seq (.region [⟨some 5,none,(.mov (.tmp 1))⟩,⟨some 6,none,(.bin .geq (.tmp 5) (.const (.int .i64 0)))⟩,⟨some 7,none,(.mov (.tmp 6))⟩,⟨some 8,some (7,true),(.mov (.tmp 1))⟩,⟨some 9,some (7,true),(.mov (.tmp 0))⟩,⟨some 10,some (7,true),(.len (.tmp 9))⟩,⟨some 11,some (7,true),(.bin .lss (.tmp 8) (.tmp 10))⟩,⟨some 12,none,(.pick (.tmp 7) (.tmp 11) (.const (.bool false)))⟩,⟨some 13,none,(.mov (.tmp 12))⟩,⟨some 14,some (13,true),(.mov (.tmp 0))⟩,⟨some 15,some (13,true),(.mov (.tmp 1))⟩,⟨some 16,some (13,true),(.idx 4 (.tmp 14) (.tmp 15))⟩,⟨some 17,some (13,true),(.fld 0 (.tmp 16))⟩,⟨some 18,some (13,true),(.load false 1 (.tmp 17))⟩,⟨some 19,some (13,true),(.bin .eql (.tmp 18) (.const (.int .u8 1)))⟩,⟨some 20,some (13,true),(.mov (.tmp 19))⟩,⟨some 21,some (20,false),(.mov (.tmp 0))⟩,⟨some 22,some (20,false),(.mov (.tmp 1))⟩,⟨some 23,some (20,false),(.idx 4 (.tmp 21) (.tmp 22))⟩,⟨some 24,some (20,false),(.fld 0 (.tmp 23))⟩,⟨some 25,some (20,false),(.load false 1 (.tmp 24))⟩,⟨some 26,some (20,false),(.bin .eql (.tmp 25) (.const (.int .u8 2)))⟩,⟨some 27,some (13,true),(.pick (.tmp 20) (.const (.bool true)) (.tmp 26))⟩,⟨some 28,some (13,true),(.mov (.tmp 27))⟩,⟨some 29,some (28,false),(.mov (.tmp 0))⟩,⟨some 30,some (28,false),(.mov (.tmp 1))⟩,⟨some 31,some (28,false),(.idx 4 (.tmp 29) (.tmp 30))⟩,⟨some 32,some (28,false),(.fld 0 (.tmp 31))⟩,⟨some 33,some (28,false),(.load false 1 (.tmp 32))⟩,⟨some 34,some (28,false),(.bin .eql (.tmp 33) (.const (.int .u8 3)))⟩,⟨some 35,some (13,true),(.pick (.tmp 28) (.const (.bool true)) (.tmp 34))⟩,⟨some 36,none,(.pick (.tmp 13) (.tmp 35) (.const (.bool false)))⟩,⟨some 4,none,(.mov (.tmp 36))⟩]) .ret))
set_option maxRecDepth 100000 in
theorem tab133:tb.code 133=some ⟨37,[(4,none)],body133⟩:=by kernel_rfl
theorem zDl (h:AHeap) (vt:Value) (T:List LType) (k:Int) (st:SlT h vt T) (hT:(T.length:Int)≤1000):
  WC Tryz.prog tb 133 [vt,I k] h fun r h'=>(∃ b,r= .bool b∧(b=true↔PlT T k))∧h=h':=by
 refine WC.of (zG 133) tab133 ?_;simp only[zN,Nat.zero_add,Nat.reduceAdd]
 by_cases h0:0≤k
 case neg=>
  refine go ?_
  refine rt ?_
  exact⟨⟨_,rfl,by unfold PlT;simp only[DBI];omega⟩,rfl⟩
 by_cases h1:k<(T.length:Int)
 case neg=>
  refine go ?_
  refine rt ?_
  exact⟨⟨_,rfl,by unfold PlT;simp only[DBI];omega⟩,rfl⟩
 obtain⟨cs,⟨va,rfl,sa,hla⟩,pc,hs⟩:=ZR (i:=k.toNat) st (by omega)
 refine go ?_
 repeat' (first|(refine WX.br (fun hb=> ?_) (fun hb=> ?_)<;>(try simp only[DB]at hb)<;>refine go ?_)|(refine WO.sp (fun hb=> ?_) (fun hb=> ?_)<;>(try simp only[DB]at hb)<;>refine go ?_))
 all_goals (refine rt ?_;exact⟨⟨_,rfl,by unfold PlT;simp only[DBI];omega⟩,rfl⟩)
noncomputable def zHc:ACode:=(.seq (.seq (.region [⟨some 6,none,(.mov (.tmp 5))⟩,⟨some 7,none,(.mov (.tmp 0))⟩,⟨some 8,none,(.len (.tmp 7))⟩,⟨some 9,none,(.bin .lss (.tmp 6) (.tmp 8))⟩]) (.cond (.tmp 9) .skip (.exit 0))) (.seq (.block 1 (.seq (.region [⟨some 12,none,(.mov (.tmp 0))⟩,⟨some 13,none,(.mov (.tmp 5))⟩,⟨some 14,none,(.idx 1 (.tmp 12) (.tmp 13))⟩,⟨some 15,none,(.load false 1 (.tmp 14))⟩,⟨some 16,none,(.bin .lss (.tmp 15) (.const (.int .i64 0)))⟩,⟨some 17,none,(.mov (.tmp 16))⟩,⟨some 18,some (17,false),(.mov (.tmp 0))⟩,⟨some 19,some (17,false),(.mov (.tmp 5))⟩,⟨some 20,some (17,false),(.idx 1 (.tmp 18) (.tmp 19))⟩,⟨some 21,some (17,false),(.load false 1 (.tmp 20))⟩,⟨some 22,some (17,false),(.mov (.tmp 1))⟩,⟨some 23,some (17,false),(.bin .geq (.tmp 21) (.tmp 22))⟩,⟨some 24,none,(.pick (.tmp 17) (.const (.bool true)) (.tmp 23))⟩]) (.cond (.tmp 24) (.seq (.region [⟨some 4,none,(.mov (.const (.bool false)))⟩]) .ret) .skip))) (.region [⟨some 10,none,(.mov (.tmp 5))⟩,⟨some 11,none,(.bin .add (.tmp 10) (.const (.int .i64 1)))⟩,⟨some 5,none,(.mov (.tmp 11))⟩])))
noncomputable def body116:ACode:=(.seq (.region [⟨some 4,none,(.mov (.const (.bool false)))⟩]) (.seq (.seq (.region [⟨some 5,none,(.mov (.const (.int .i64 0)))⟩]) (.block 0 (.loop zHc))) (.seq (.region [⟨some 4,none,(.mov (.const (.bool true)))⟩]) .ret)))
set_option maxRecDepth 100000 in
theorem tab116:tb.code 116=some ⟨25,[(4,none)],body116⟩:=by kernel_rfl
theorem zHa (h:AHeap) (v:Value) (l:List Int) (m:Int) (s:SlI h v l) (hl:(l.length:Int)≤1000000):
  WC Tryz.prog tb 116 [v,I m] h fun r h'=>(∃ b,r= .bool b∧(b=true↔∀ p∈l,0≤p∧p<m))∧h=h':=by
 refine WC.of (zG 116) tab116 ?_;simp only[zN,Nat.zero_add,Nat.reduceAdd]
 refine go ?_
 refine WX.loopA [6,7,8,9,12,13,14,15,16,17,18,19,20,21,22,23,24,4,10,11,5] (by kernel_rfl) (fun i=>l.length - i) (fun i t h1=>h=h1∧zB t 5=I i∧i≤l.length∧∀ j,j<i→0≤l.getD j 0∧l.getD j 0<m) 0 ?_ ?_
 ·exact⟨rfl,sl_,Nat.zero_le _,fun j hj=>absurd hj (Nat.not_lt_zero _)⟩
 rintro i t _ hsame ⟨rfl,s5,hi,hm⟩
 refine go ?_
 refine WX.br (fun hb=> ?_) (fun hb=> ?_)<;>simp only[DB]at hb
 ·have hi':i<l.length:=by omega
  by_cases hok:0≤l.getD i 0∧l.getD i 0<m
  ·refine go ?_
   refine zA (i+1) (by omega) ⟨rfl,sln,by omega,fun j hj=> ?_⟩
   by_cases e:j=i
   ·subst e;exact hok
   ·exact hm j (by omega)
  ·have hno:¬∀ p∈l,0≤p∧p<m:=fun hh=>hok (hh _ (z0 hi'))
   by_cases h0:l.getD i 0<0
   ·refine go ?_
    refine rt ?_
    exact⟨⟨_,rfl,by simp only[DBI];exact hno⟩,rfl⟩
   ·refine go ?_
    refine rt ?_
    exact⟨⟨_,rfl,by simp only[DBI];exact hno⟩,rfl⟩
 ·refine go ?_
  refine rt ?_
  refine⟨⟨_,rfl,?_⟩,rfl⟩
  simp only[DBI]
  intro p hp
  obtain⟨j,hj,rfl⟩:=ZA hp
  exact hm j (by omega)
noncomputable def zHB:ACode:=(.seq (.seq (.region [⟨some 6,none,(.mov (.tmp 5))⟩,⟨some 7,none,(.fld 3 (.tmp 3))⟩,⟨some 8,none,(.load false 1 (.tmp 7))⟩,⟨some 9,none,(.len (.tmp 8))⟩,⟨some 10,none,(.bin .lss (.tmp 6) (.tmp 9))⟩]) (.cond (.tmp 10) .skip (.exit 0))) (.seq (.block 1 (.seq (.region [⟨some 13,none,(.mov (.tmp 0))⟩,⟨some 14,none,(.fld 3 (.tmp 3))⟩,⟨some 15,none,(.load false 1 (.tmp 14))⟩,⟨some 16,none,(.mov (.tmp 5))⟩,⟨some 17,none,(.idx 1 (.tmp 15) (.tmp 16))⟩,⟨some 18,none,(.load false 1 (.tmp 17))⟩,⟨some 19,none,(.call (.func 133) [(.tmp 13),(.tmp 18)])⟩,⟨some 20,none,(.un .not (.tmp 19))⟩]) (.cond (.tmp 20) (.seq (.region [⟨some 4,none,(.mov (.const (.bool false)))⟩]) .ret) .skip))) (.region [⟨some 11,none,(.mov (.tmp 5))⟩,⟨some 12,none,(.bin .add (.tmp 11) (.const (.int .i64 1)))⟩,⟨some 5,none,(.mov (.tmp 12))⟩])))
noncomputable def body115:ACode:=(.seq (.region [⟨some 3,none,(.box (.tmp 1))⟩,⟨some 4,none,(.mov (.const (.bool false)))⟩]) (.seq (.seq (.region [⟨some 5,none,(.mov (.const (.int .i64 0)))⟩]) (.block 0 (.loop zHB))) (.seq (.region [⟨some 21,none,(.mov (.tmp 0))⟩,⟨some 22,none,(.fld 1 (.tmp 3))⟩,⟨some 23,none,(.load false 1 (.tmp 22))⟩,⟨some 24,none,(.call (.func 133) [(.tmp 21),(.tmp 23)])⟩,⟨some 25,none,(.mov (.tmp 24))⟩,⟨some 26,some (25,true),(.fld 3 (.tmp 3))⟩,⟨some 27,some (25,true),(.load false 1 (.tmp 26))⟩,⟨some 28,some (25,true),(.len (.tmp 27))⟩,⟨some 29,some (25,true),(.bin .leq (.tmp 28) (.const (.int .i64 4)))⟩,⟨some 30,none,(.pick (.tmp 25) (.tmp 29) (.const (.bool false)))⟩,⟨some 31,none,(.mov (.tmp 30))⟩,⟨some 32,some (31,true),(.fld 2 (.tmp 3))⟩,⟨some 33,some (31,true),(.load false 1 (.tmp 32))⟩,⟨some 34,some (31,true),(.bin .eql (.tmp 33) (.const (.int .i64 0)))⟩,⟨some 35,none,(.pick (.tmp 31) (.tmp 34) (.const (.bool false)))⟩,⟨some 4,none,(.mov (.tmp 35))⟩]) .ret)))
set_option maxRecDepth 100000 in
theorem tab115:tb.code 115=some ⟨36,[(4,none)],body115⟩:=by kernel_rfl
theorem zHo (h:AHeap) (vt va:Value) (T:List LType) (x:LType) (st:SlT h vt T) (hT:(T.length:Int)≤1000) (sa:SlI h va x.parts) (hla:(x.parts.length:Int)≤1000000):
  WC Tryz.prog tb 115 [vt,.agg #[.int .u8 x.kind,I x.elem,I x.many,va]] h fun r h'=>(∃ b,r= .bool b∧(b=true↔zB0 T x))∧Ext h h':=by
 refine WC.of (zG 115) tab115 ?_;simp only[zN,Nat.zero_add,Nat.reduceAdd]
 refine go ?_
 refine WO.bx ?_
 intro p h1 e1 o1
 have st1:=st.ext e1
 have sa1:=sa.ext e1
 obtain⟨_,_,_,rfl⟩:=SlC.shape sa
 refine go ?_
 refine WX.loopA [6,7,8,9,10,13,14,15,16,17,18,19,20,4,11,12,5] (by kernel_rfl) (fun i=>x.parts.length - i) (fun i t h2=>h1=h2∧zB t 5=I i∧i≤x.parts.length∧∀ j,j<i→PlT T (x.parts.getD j 0)) 0 ?_ ?_
 ·exact⟨rfl,sl_,Nat.zero_le _,fun j hj=>absurd hj (Nat.not_lt_zero _)⟩
 rintro i t _ hsame ⟨rfl,s5,hi,hm⟩
 refine go ?_
 refine WX.br (fun hb=> ?_) (fun hb=> ?_)<;>simp only[DB]at hb
 ·have hi':i<x.parts.length:=by omega
  refine go ?_
  refine WO.con (zDl h1 vt T (x.parts.getD i 0) st1 hT) ?_
  rintro _ _ ⟨⟨b,rfl,hbb⟩,rfl⟩
  cases b with
  |true=>
   refine go ?_
   refine zA (i+1) (by omega) ⟨rfl,sln,by omega,fun j hj=> ?_⟩
   by_cases e:j=i
   ·subst e;exact hbb.1 rfl
   ·exact hm j (by omega)
  |false=>
   refine go ?_
   refine rt ?_
   exact⟨⟨_,rfl,by simp only[DBI];exact fun hh=>absurd (hbb.2 (hh.1 _ (z0 hi'))) Bool.noConfusion⟩,e1⟩
 ·have hall:∀ p∈x.parts,PlT T p:=fun p hp=>by
   obtain⟨j,hj,rfl⟩:=ZA hp
   exact hm j (by omega)
  replace hall:=Hid.mk hall
  replace hm:=Hid.mk hm
  refine go ?_
  refine WO.con (zDl h1 vt T x.elem st1 hT) ?_
  rintro _ _ ⟨⟨b,rfl,hbb⟩,rfl⟩
  replace hbb:=Hid.mk hbb
  have key:∀ q:Bool,(q=true↔b=true∧(x.parts.length:Int)≤4∧x.many=0)→(q=true↔zB0 T x):=fun q hq=>by
   rw[hq];unfold zB0;rw[hbb.out]
   refine⟨fun h=>⟨hall.out,h.1,by omega,h.2.2⟩,fun h=>⟨h.2.1,by omega,h.2.2.2⟩⟩
  cases b with
  |false=>
   refine go ?_
   refine rt ?_
   exact⟨⟨_,rfl,key _ (by simp)⟩,e1⟩
  |true=>
   refine go ?_
   repeat' (first|(refine WX.br (fun hb=> ?_) (fun hb=> ?_)<;>(try simp only[DB]at hb)<;>refine go ?_)|(refine WO.sp (fun hb=> ?_) (fun hb=> ?_)<;>(try simp only[DB]at hb)<;>refine go ?_))
   all_goals (refine rt ?_;exact⟨⟨_,rfl,key _ (by simp only[DBI,true_and];omega)⟩,e1⟩)
theorem mayX_iff {T:List LType} {x:LType} {k:Nat}:MayX T x k↔(x.kind=1∧x.elem=0∧x.many=0∧(x.parts.length:Int)=0)∨
 (x.kind=2∧0≤x.elem∧x.elem<(T.length:Int)∧x.many=0∧(x.parts.length:Int)=0)∨(x.kind=3∧zB0 T x)∨
 (x.kind=4∧x.elem=0∧x.many=0∧1≤(x.parts.length:Int)∧(x.parts.length:Int)≤8∧∀ p∈x.parts,0≤p∧p<(k:Int))∨
 (x.kind=5∧0≤x.elem∧x.elem<(k:Int)∧1≤x.many∧x.many≤16∧(x.parts.length:Int)=0):=by
 unfold MayX
 have h0:(x.parts.length:Int)=0↔x.parts.length=0:=by omega
 have h1:1≤(x.parts.length:Int)↔1≤x.parts.length:=by omega
 have h8:(x.parts.length:Int)≤8↔x.parts.length≤8:=by omega
 rw[h0,h1,h8]
noncomputable def body89:ACode:=(.seq (.region [⟨some 4,none,(.mov (.const (.bool false)))⟩]) (.seq (.region [⟨some 6,none,(.mov (.tmp 0))⟩,⟨some 7,none,(.mov (.tmp 1))⟩,⟨some 8,none,(.idx 4 (.tmp 6) (.tmp 7))⟩,⟨some 9,none,(.load true 4 (.tmp 8))⟩,⟨some 5,none,(.alloc [(.int .u8 0),(.int .i64 0),(.int .i64 0),(.slice none 0 0)])⟩,⟨none,none,(.store 4 (.tmp 5) (.tmp 9))⟩]) (.seq (.seq (.region [⟨some 10,none,(.fld 0 (.tmp 5))⟩,⟨some 11,none,(.load false 1 (.tmp 10))⟩]) (.block 0 (.seq (.region [⟨some 13,none,(.bin .eql (.tmp 11) (.const (.int .u8 1)))⟩,⟨some 12,none,(.mov (.tmp 13))⟩]) (.cond (.tmp 12) (.seq (.region [⟨some 14,none,(.fld 1 (.tmp 5))⟩,⟨some 15,none,(.load false 1 (.tmp 14))⟩,⟨some 16,none,(.bin .eql (.tmp 15) (.const (.int .i64 0)))⟩,⟨some 17,none,(.mov (.tmp 16))⟩,⟨some 18,some (17,true),(.fld 2 (.tmp 5))⟩,⟨some 19,some (17,true),(.load false 1 (.tmp 18))⟩,⟨some 20,some (17,true),(.bin .eql (.tmp 19) (.const (.int .i64 0)))⟩,⟨some 21,none,(.pick (.tmp 17) (.tmp 20) (.const (.bool false)))⟩,⟨some 22,none,(.mov (.tmp 21))⟩,⟨some 23,some (22,true),(.fld 3 (.tmp 5))⟩,⟨some 24,some (22,true),(.load false 1 (.tmp 23))⟩,⟨some 25,some (22,true),(.len (.tmp 24))⟩,⟨some 26,some (22,true),(.bin .eql (.tmp 25) (.const (.int .i64 0)))⟩,⟨some 27,none,(.pick (.tmp 22) (.tmp 26) (.const (.bool false)))⟩,⟨some 4,none,(.mov (.tmp 27))⟩]) .ret) (.seq (.region [⟨some 29,none,(.bin .eql (.tmp 11) (.const (.int .u8 2)))⟩,⟨some 28,none,(.mov (.tmp 29))⟩]) (.cond (.tmp 28) (.seq (.region [⟨some 30,none,(.fld 1 (.tmp 5))⟩,⟨some 31,none,(.load false 1 (.tmp 30))⟩,⟨some 32,none,(.bin .geq (.tmp 31) (.const (.int .i64 0)))⟩,⟨some 33,none,(.mov (.tmp 32))⟩,⟨some 34,some (33,true),(.fld 1 (.tmp 5))⟩,⟨some 35,some (33,true),(.load false 1 (.tmp 34))⟩,⟨some 36,some (33,true),(.mov (.tmp 0))⟩,⟨some 37,some (33,true),(.len (.tmp 36))⟩,⟨some 38,some (33,true),(.bin .lss (.tmp 35) (.tmp 37))⟩,⟨some 39,none,(.pick (.tmp 33) (.tmp 38) (.const (.bool false)))⟩,⟨some 40,none,(.mov (.tmp 39))⟩,⟨some 41,some (40,true),(.fld 2 (.tmp 5))⟩,⟨some 42,some (40,true),(.load false 1 (.tmp 41))⟩,⟨some 43,some (40,true),(.bin .eql (.tmp 42) (.const (.int .i64 0)))⟩,⟨some 44,none,(.pick (.tmp 40) (.tmp 43) (.const (.bool false)))⟩,⟨some 45,none,(.mov (.tmp 44))⟩,⟨some 46,some (45,true),(.fld 3 (.tmp 5))⟩,⟨some 47,some (45,true),(.load false 1 (.tmp 46))⟩,⟨some 48,some (45,true),(.len (.tmp 47))⟩,⟨some 49,some (45,true),(.bin .eql (.tmp 48) (.const (.int .i64 0)))⟩,⟨some 50,none,(.pick (.tmp 45) (.tmp 49) (.const (.bool false)))⟩,⟨some 4,none,(.mov (.tmp 50))⟩]) .ret) (.seq (.region [⟨some 52,none,(.bin .eql (.tmp 11) (.const (.int .u8 3)))⟩,⟨some 51,none,(.mov (.tmp 52))⟩]) (.cond (.tmp 51) (.seq (.region [⟨some 53,none,(.mov (.tmp 0))⟩,⟨some 54,none,(.load true 4 (.tmp 5))⟩,⟨some 55,none,(.call (.func 115) [(.tmp 53),(.tmp 54)])⟩,⟨some 4,none,(.mov (.tmp 55))⟩]) .ret) (.seq (.region [⟨some 57,none,(.bin .eql (.tmp 11) (.const (.int .u8 4)))⟩,⟨some 56,none,(.mov (.tmp 57))⟩]) (.cond (.tmp 56) (.seq (.region [⟨some 58,none,(.fld 1 (.tmp 5))⟩,⟨some 59,none,(.load false 1 (.tmp 58))⟩,⟨some 60,none,(.bin .eql (.tmp 59) (.const (.int .i64 0)))⟩,⟨some 61,none,(.mov (.tmp 60))⟩,⟨some 62,some (61,true),(.fld 2 (.tmp 5))⟩,⟨some 63,some (61,true),(.load false 1 (.tmp 62))⟩,⟨some 64,some (61,true),(.bin .eql (.tmp 63) (.const (.int .i64 0)))⟩,⟨some 65,none,(.pick (.tmp 61) (.tmp 64) (.const (.bool false)))⟩,⟨some 66,none,(.mov (.tmp 65))⟩,⟨some 67,some (66,true),(.fld 3 (.tmp 5))⟩,⟨some 68,some (66,true),(.load false 1 (.tmp 67))⟩,⟨some 69,some (66,true),(.len (.tmp 68))⟩,⟨some 70,some (66,true),(.bin .geq (.tmp 69) (.const (.int .i64 1)))⟩,⟨some 71,none,(.pick (.tmp 66) (.tmp 70) (.const (.bool false)))⟩,⟨some 72,none,(.mov (.tmp 71))⟩,⟨some 73,some (72,true),(.fld 3 (.tmp 5))⟩,⟨some 74,some (72,true),(.load false 1 (.tmp 73))⟩,⟨some 75,some (72,true),(.len (.tmp 74))⟩,⟨some 76,some (72,true),(.bin .leq (.tmp 75) (.const (.int .i64 8)))⟩,⟨some 77,none,(.pick (.tmp 72) (.tmp 76) (.const (.bool false)))⟩,⟨some 78,none,(.mov (.tmp 77))⟩,⟨some 79,some (78,true),(.fld 3 (.tmp 5))⟩,⟨some 80,some (78,true),(.load false 1 (.tmp 79))⟩,⟨some 81,some (78,true),(.mov (.tmp 1))⟩,⟨some 82,some (78,true),(.call (.func 116) [(.tmp 80),(.tmp 81)])⟩,⟨some 83,none,(.pick (.tmp 78) (.tmp 82) (.const (.bool false)))⟩,⟨some 4,none,(.mov (.tmp 83))⟩]) .ret) (.seq (.region [⟨some 85,none,(.bin .eql (.tmp 11) (.const (.int .u8 5)))⟩,⟨some 84,none,(.mov (.tmp 85))⟩]) (.cond (.tmp 84) (.seq (.region [⟨some 86,none,(.fld 1 (.tmp 5))⟩,⟨some 87,none,(.load false 1 (.tmp 86))⟩,⟨some 88,none,(.bin .geq (.tmp 87) (.const (.int .i64 0)))⟩,⟨some 89,none,(.mov (.tmp 88))⟩,⟨some 90,some (89,true),(.fld 1 (.tmp 5))⟩,⟨some 91,some (89,true),(.load false 1 (.tmp 90))⟩,⟨some 92,some (89,true),(.mov (.tmp 1))⟩,⟨some 93,some (89,true),(.bin .lss (.tmp 91) (.tmp 92))⟩,⟨some 94,none,(.pick (.tmp 89) (.tmp 93) (.const (.bool false)))⟩,⟨some 95,none,(.mov (.tmp 94))⟩,⟨some 96,some (95,true),(.fld 2 (.tmp 5))⟩,⟨some 97,some (95,true),(.load false 1 (.tmp 96))⟩,⟨some 98,some (95,true),(.bin .geq (.tmp 97) (.const (.int .i64 1)))⟩,⟨some 99,none,(.pick (.tmp 95) (.tmp 98) (.const (.bool false)))⟩,⟨some 100,none,(.mov (.tmp 99))⟩,⟨some 101,some (100,true),(.fld 2 (.tmp 5))⟩,⟨some 102,some (100,true),(.load false 1 (.tmp 101))⟩,⟨some 103,some (100,true),(.bin .leq (.tmp 102) (.const (.int .i64 16)))⟩,⟨some 104,none,(.pick (.tmp 100) (.tmp 103) (.const (.bool false)))⟩,⟨some 105,none,(.mov (.tmp 104))⟩,⟨some 106,some (105,true),(.fld 3 (.tmp 5))⟩,⟨some 107,some (105,true),(.load false 1 (.tmp 106))⟩,⟨some 108,some (105,true),(.len (.tmp 107))⟩,⟨some 109,some (105,true),(.bin .eql (.tmp 108) (.const (.int .i64 0)))⟩,⟨some 110,none,(.pick (.tmp 105) (.tmp 109) (.const (.bool false)))⟩,⟨some 4,none,(.mov (.tmp 110))⟩]) .ret) .skip)))))))))))) (.seq (.region [⟨some 4,none,(.mov (.const (.bool false)))⟩]) .ret))))
set_option maxRecDepth 100000 in
theorem tab89:tb.code 89=some ⟨111,[(4,none)],body89⟩:=by kernel_rfl
theorem zE2 (h:AHeap) (vt:Value) (T:List LType) (k:Nat) (st:SlT h vt T) (hT:(T.length:Int)≤1000) (hk:k<T.length) (hpl:((T.getD k default).parts.length:Int)≤1000000):
  WC Tryz.prog tb 89 [vt,I k] h fun r h'=>(∃ b,r= .bool b∧(b=true↔Yb T k))∧Ext h h':=by
 obtain⟨cs,⟨va,rfl,sa,hla⟩,pc,hs⟩:=ZR (i:=k) st hk
 unfold Yb
 generalize T.getD k default=x at *
 have hmx:=Hid.mk (mayX_iff (T:=T) (x:=x) (k:=k))
 obtain⟨_,_,_,rfl⟩:=SlC.shape sa
 refine WC.of (zG 89) tab89 ?_;simp only[zN,Nat.zero_add,Nat.reduceAdd]
 refine go ?_
 refine WO.al ?_
 intro p h1 e1 o1
 refine go ?_
 refine WO.stC0 o1 e1 ?_
 intro h2 e2 o2 _
 have st2:=st.ext e2
 have sa2:=sa.ext e2
 by_cases h1:x.kind=1
 ·skip
  refine go ?_
  repeat' (first|(refine WX.br (fun hb=> ?_) (fun hb=> ?_)<;>(try simp only[DB]at hb)<;>refine go ?_)|(refine WO.sp (fun hb=> ?_) (fun hb=> ?_)<;>(try simp only[DB]at hb)<;>refine go ?_))
  all_goals (refine rt ?_;exact⟨⟨_,rfl,by rw[hmx.out];simp only[DBI];omega⟩,e2⟩)
 by_cases h2:x.kind=2
 ·skip
  refine go ?_
  repeat' (first|(refine WX.br (fun hb=> ?_) (fun hb=> ?_)<;>(try simp only[DB]at hb)<;>refine go ?_)|(refine WO.sp (fun hb=> ?_) (fun hb=> ?_)<;>(try simp only[DB]at hb)<;>refine go ?_))
  all_goals (refine rt ?_;exact⟨⟨_,rfl,by rw[hmx.out];simp only[DBI];omega⟩,e2⟩)
 by_cases h3:x.kind=3
 ·refine go ?_
  refine WO.con (zHo _ vt _ T x st2 hT sa2 hpl) ?_
  rintro _ h5 ⟨⟨b,rfl,hbb⟩,e5⟩
  refine go ?_
  refine rt ?_
  refine⟨⟨_,rfl,?_⟩,e2.trans e5⟩
  rw[hbb,hmx.out]
  refine⟨fun h=> .inr (.inr (.inl ⟨h3,h⟩)),fun h=> ?_⟩
  rcases h with h|h|h|h|h
  ·omega
  ·omega
  ·exact h.2
  ·omega
  ·omega
 by_cases h4:x.kind=4
 ·refine go ?_
  refine WO.sp (fun hd=> ?_) (fun hd=> ?_)<;>simp only[DB]at hd
  case refine_2=>
   refine go ?_
   refine rt ?_
   refine⟨⟨_,rfl,?_⟩,e2⟩
   rw[hmx.out];simp only[DBI];omega
  refine go ?_
  refine WO.sp (fun hd2=> ?_) (fun hd2=> ?_)<;>simp only[DB]at hd2
  case refine_2=>
   refine go ?_
   refine rt ?_
   refine⟨⟨_,rfl,?_⟩,e2⟩
   rw[hmx.out];simp only[DBI];omega
  refine go ?_
  refine WO.sp (fun hd3=> ?_) (fun hd3=> ?_)<;>simp only[DB]at hd3
  case refine_2=>
   refine go ?_
   refine rt ?_
   refine⟨⟨_,rfl,?_⟩,e2⟩
   rw[hmx.out];simp only[DBI];omega
  refine go ?_
  refine WO.sp (fun hd4=> ?_) (fun hd4=> ?_)<;>simp only[DB]at hd4
  case refine_2=>
   refine go ?_
   refine rt ?_
   refine⟨⟨_,rfl,?_⟩,e2⟩
   rw[hmx.out];simp only[DBI];omega
  refine go ?_
  refine WO.con (zHa _ _ x.parts k sa2 hpl) ?_
  rintro _ _ ⟨⟨b,rfl,hbb⟩,rfl⟩
  refine go ?_
  refine rt ?_
  refine⟨⟨_,rfl,?_⟩,e2⟩
  rw[hbb,hmx.out]
  refine⟨fun h=> .inr (.inr (.inr (.inl ⟨h4,hd,hd2,hd3,hd4,h⟩))),fun h=> ?_⟩
  rcases h with h|h|h|h|h
  ·omega
  ·omega
  ·omega
  ·exact h.2.2.2.2.2
  ·omega
 by_cases h5:x.kind=5
 ·skip
  refine go ?_
  repeat' (first|(refine WX.br (fun hb=> ?_) (fun hb=> ?_)<;>(try simp only[DB]at hb)<;>refine go ?_)|(refine WO.sp (fun hb=> ?_) (fun hb=> ?_)<;>(try simp only[DB]at hb)<;>refine go ?_))
  all_goals (refine rt ?_;exact⟨⟨_,rfl,by rw[hmx.out];simp only[DBI];omega⟩,e2⟩)
 ·refine go ?_
  refine rt ?_
  refine⟨⟨_,rfl,?_⟩,e2⟩
  rw[hmx.out];simp only[DBI];omega
noncomputable def body90_0:ACode:=(.seq (.seq (.region [⟨some 17,none,(.mov (.tmp 7))⟩,⟨some 18,none,(.fld 3 (.tmp 5))⟩,⟨some 19,none,(.load false 1 (.tmp 18))⟩,⟨some 20,none,(.len (.tmp 19))⟩,⟨some 21,none,(.bin .lss (.tmp 17) (.tmp 20))⟩]) (.cond (.tmp 21) .skip (.exit 0))) (.seq (.block 1 (.region [⟨some 24,none,(.mov (.tmp 6))⟩,⟨some 25,none,(.mov (.tmp 0))⟩,⟨some 26,none,(.fld 3 (.tmp 5))⟩,⟨some 27,none,(.load false 1 (.tmp 26))⟩,⟨some 28,none,(.mov (.tmp 7))⟩,⟨some 29,none,(.idx 1 (.tmp 27) (.tmp 28))⟩,⟨some 30,none,(.load false 1 (.tmp 29))⟩,⟨some 31,none,(.call (.func 90) [(.tmp 25),(.tmp 30)])⟩,⟨some 32,none,(.append 1 (.tmp 24) (.tmp 31))⟩,⟨some 6,none,(.mov (.tmp 32))⟩])) (.region [⟨some 22,none,(.mov (.tmp 7))⟩,⟨some 23,none,(.bin .add (.tmp 22) (.const (.int .i64 1)))⟩,⟨some 7,none,(.mov (.tmp 23))⟩])))
noncomputable def body90_1:ACode:=(.seq (.seq (.region [⟨some 37,none,(.mov (.tmp 9))⟩,⟨some 38,none,(.fld 2 (.tmp 5))⟩,⟨some 39,none,(.load false 1 (.tmp 38))⟩,⟨some 40,none,(.bin .lss (.tmp 37) (.tmp 39))⟩]) (.cond (.tmp 40) .skip (.exit 2))) (.seq (.block 3 (.region [⟨some 43,none,(.mov (.tmp 8))⟩,⟨some 44,none,(.mov (.tmp 0))⟩,⟨some 45,none,(.fld 1 (.tmp 5))⟩,⟨some 46,none,(.load false 1 (.tmp 45))⟩,⟨some 47,none,(.call (.func 90) [(.tmp 44),(.tmp 46)])⟩,⟨some 48,none,(.append 1 (.tmp 43) (.tmp 47))⟩,⟨some 8,none,(.mov (.tmp 48))⟩])) (.region [⟨some 41,none,(.mov (.tmp 9))⟩,⟨some 42,none,(.bin .add (.tmp 41) (.const (.int .i64 1)))⟩,⟨some 9,none,(.mov (.tmp 42))⟩])))
noncomputable def body90:ACode:=(.seq (.region [⟨some 4,none,(.mov (.const (.slice none 0 0)))⟩]) (.seq (.region [⟨some 10,none,(.mov (.tmp 0))⟩,⟨some 11,none,(.mov (.tmp 1))⟩,⟨some 12,none,(.idx 4 (.tmp 10) (.tmp 11))⟩,⟨some 13,none,(.load true 4 (.tmp 12))⟩,⟨some 5,none,(.alloc [(.int .u8 0),(.int .i64 0),(.int .i64 0),(.slice none 0 0)])⟩,⟨none,none,(.store 4 (.tmp 5) (.tmp 13))⟩]) (.seq (.seq (.region [⟨some 14,none,(.fld 0 (.tmp 5))⟩,⟨some 15,none,(.load false 1 (.tmp 14))⟩,⟨some 16,none,(.bin .eql (.tmp 15) (.const (.int .u8 4)))⟩]) (.cond (.tmp 16) (.seq (.region [⟨some 6,none,(.mov (.const (.slice none 0 0)))⟩]) (.seq (.seq (.region [⟨some 7,none,(.mov (.const (.int .i64 0)))⟩]) (.block 0 (.loop body90_0))) (.seq (.region [⟨some 33,none,(.mov (.tmp 6))⟩,⟨some 4,none,(.mov (.tmp 33))⟩]) .ret))) .skip)) (.seq (.seq (.region [⟨some 34,none,(.fld 0 (.tmp 5))⟩,⟨some 35,none,(.load false 1 (.tmp 34))⟩,⟨some 36,none,(.bin .eql (.tmp 35) (.const (.int .u8 5)))⟩]) (.cond (.tmp 36) (.seq (.region [⟨some 8,none,(.mov (.const (.slice none 0 0)))⟩]) (.seq (.seq (.region [⟨some 9,none,(.mov (.const (.int .i64 0)))⟩]) (.block 2 (.loop body90_1))) (.seq (.region [⟨some 49,none,(.mov (.tmp 8))⟩,⟨some 4,none,(.mov (.tmp 49))⟩]) .ret))) .skip)) (.seq (.region [⟨some 50,none,(.mov (.tmp 1))⟩,⟨some 51,none,(.buildSlice 1 1 [(.int .i64 0)] [(0,1,(.tmp 50))])⟩,⟨some 4,none,(.mov (.tmp 51))⟩]) .ret)))))
set_option maxRecDepth 100000 in
theorem tab90:tb.code 90=some ⟨52,[(4,none)],body90⟩:=by kernel_rfl
theorem zEi {α:Type} {l:List α} {f:α→List Int} (h:∀ x∈l,(f x).length≤32):(l.map f).flatten.length≤32 * l.length:=by
 induction l with
 |nil=>simp
 |cons a l ih=>
  have:=h a (by simp)
  have:=ih fun x hx=>h x (by simp[hx])
  simp only[List.map_cons,List.flatten_cons,List.length_append,List.length_cons];omega
theorem zH9 {α:Type} [Inhabited α] {l:List α} {f:α→List Int} {i:Nat} (h:i<l.length):((l.take (i+1)).map f).flatten=((l.take i).map f).flatten++f (l.getD i default):=by
 rw[List.take_add_one,List.getElem?_eq_getElem h,List.map_append,List.flatten_append]
 simp[List.getD,List.getElem?_eq_getElem h]
theorem rOf_ok (vt:Value) (T:List LType) (hT:(T.length:Int)≤1000):∀ (n k:Nat) (h:AHeap),k<n→SlT h vt T→k<T.length→LowT T k→Yb T k→
  WC Tryz.prog tb 90 [vt,I k] h fun r h'=>OwnN h h' r (ofL T k)∧Ext h h':=by
 intro n
 induction n with
 |zero=>intro k h hk;omega
 |succ n ih=>
  intro k h hkn st hk hlow hM
  have hof:=zCr (T:=T) (k:=k) fun j hj=>by
   by_cases e:j=k
   ·subst e;exact hM
   ·exact(hlow j (by omega)).1
  obtain⟨cs,⟨va,rfl,sa,hla⟩,pc,hs⟩:=ZR (i:=k) st hk
  unfold Yb MayX at hM
  rw[hof]
  clear hof
  generalize T.getD k default=x at *
  obtain⟨_,_,_,rfl⟩:=SlC.shape sa
  refine WC.of (zG 90) tab90 ?_;simp only[zN,Nat.zero_add,Nat.reduceAdd]
  refine go ?_
  refine WO.al ?_
  intro p h1 e1 o1
  refine go ?_
  refine WO.stC0 o1 e1 ?_
  intro h2 e2 o2 _
  have st2:=st.ext e2
  have sa2:=sa.ext e2
  by_cases h4:x.kind=4
  ·have hp:x.parts.length≤8∧∀ p∈x.parts,0≤p∧p<(k:Int):=by
    rcases hM with h|h|h|h|h
    ·omega
    ·omega
    ·omega
    ·exact⟨h.2.2.2.2.1,h.2.2.2.2.2⟩
    ·omega
   have hbd:∀ p∈x.parts,(ofL T p.toNat).length≤32:=fun p hpp=>by
    have:=hp.2 p hpp
    exact(hlow p.toNat (by omega)).2
   simp only[h4,if_true]
   replace hM:=Hid.mk hM
   replace hlow:=Hid.mk hlow
   have hp8:=hp.1
   replace hp:=Hid.mk hp
   replace hbd:=Hid.mk hbd
   refine go ?_
   refine WX.loopA [17,18,19,20,21,24,25,26,27,28,29,30,31,32,6,22,23,7] (by kernel_rfl) (fun i=>x.parts.length - i) (fun i t h3=>zB t 7=I i∧i≤x.parts.length∧Ext h2 h3∧∃ w,zB t 6=w∧OwnN h2 h3 w (((x.parts.take i).map fun p=>ofL T p.toNat).flatten)) 0 ?_ ?_
   ·exact⟨sl_,Nat.zero_le _,Ext.refl _,.slice none 0 0,sl_,.inl ⟨rfl,by simp⟩⟩
   rintro i t h3 hsame ⟨s7,hi,e23,w,s6,ow⟩
   have st3:=st2.ext e23
   have sa3:=sa2.ext e23
   have o3:=o2.ext e23
   refine go ?_
   refine WX.br (fun hc=> ?_) (fun hc=> ?_)<;>simp only[DB]at hc
   ·have hi':i<x.parts.length:=by omega
    have hpi:=hp.out.2 _ (z0 hi')
    have hsucc:=zH9 (f:=fun p=>ofL T p.toNat) hi'
    have hln:=zEi (l:=x.parts.take i) (f:=fun p=>ofL T p.toNat) fun q hq=>hbd.out q (List.mem_of_mem_take hq)
    have hl1:=hbd.out _ (z0 hi')
    have htk:(x.parts.take i).length≤i:=List.length_take_le _ _
    have hcast:I (x.parts.getD i 0)=I ((x.parts.getD i 0).toNat:Int):=by rw[Int.toNat_of_nonneg hpi.1]
    obtain⟨q,hq⟩:∃ q:Nat,x.parts.getD i 0=q:=⟨(x.parts.getD i 0).toNat,by omega⟩
    have hqk:q<k:=by omega
    refine go ?_
    rw[hq]
    refine WO.con (ih q h3 (by omega) st3 (by omega) (fun j hj=>hlow.out j (by omega)) (hlow.out q hqk).1) ?_
    rintro r h4 ⟨or,e4⟩
    refine go ?_
    have hdef:x.parts.getD i default=(q:Int):=hq
    rw[hdef]at hsucc
    simp only[Int.toNat_natCast]at hsucc
    have hl2:(ofL T q).length≤32:=by rw[hq]at hl1;exact hl1
    refine WO.apN (ow.ext e4) or.sl (e23.trans e4) (by omega) ?_
    intro v5 h5 e5 o5
    refine go ?_
    exact zA (i+1) (by omega) ⟨sln,by omega,e5,v5,sl_,by rw[hsucc];exact o5⟩
   ·have hii:i=x.parts.length:=by omega
    subst hii
    rw[List.take_length]at ow
    refine go ?_
    refine rt ?_
    exact⟨ow.since e2,e2.trans e23⟩
  by_cases h5:x.kind=5
  ·have hp:0≤x.elem∧x.elem<(k:Int)∧1≤x.many∧x.many≤16:=by omega
   obtain⟨q,hq⟩:∃ q:Nat,x.elem=q:=⟨x.elem.toNat,by omega⟩
   obtain⟨m,hm⟩:∃ m:Nat,x.many=m:=⟨x.many.toNat,by omega⟩
   have hqk:q<k:=by omega
   have hlq:=(hlow q hqk).2
   simp only[h5,if_true,if_false,show ¬((5:Int)=4) by decide,hq,hm,Int.toNat_natCast]
   replace hM:=Hid.mk hM
   replace hlow:=Hid.mk hlow
   have hm16:m≤16:=by omega
   refine go ?_
   refine WX.loopA [37,38,39,40,43,44,45,46,47,48,8,41,42,9] (by kernel_rfl) (fun i=>m - i) (fun i t h3=>zB t 9=I i∧i≤m∧Ext h2 h3∧∃ w,zB t 8=w∧OwnN h2 h3 w (List.replicate i (ofL T q)).flatten) 0 ?_ ?_
   ·exact⟨sl_,Nat.zero_le _,Ext.refl _,.slice none 0 0,sl_,.inl ⟨rfl,by simp⟩⟩
   rintro i t h3 hsame ⟨s7,hi,e23,w,s6,ow⟩
   have st3:=st2.ext e23
   have o3:=o2.ext e23
   refine go ?_
   rw[hm]
   refine go ?_
   refine WX.br (fun hc=> ?_) (fun hc=> ?_)<;>simp only[DB]at hc
   ·have hi':i<m:=by omega
    have hln:=zGa i (ofL T q)
    have hmul:i * (ofL T q).length≤16 * 32:=Nat.mul_le_mul (by omega) hlq
    refine go ?_
    rw[hq]
    refine WO.con (ih q h3 (by omega) st3 (by omega) (fun j hj=>hlow.out j (by omega)) (hlow.out q hqk).1) ?_
    rintro r h4 ⟨or,e4⟩
    refine go ?_
    refine WO.apN (ow.ext e4) or.sl (e23.trans e4) (by omega) ?_
    intro v5 h5 e5 o5
    refine go ?_
    refine zA (i+1) (by omega) ⟨sln,by omega,e5,v5,sl_,?_⟩
    rw[List.replicate_succ',List.flatten_append]
    simpa using o5
   ·have hii:i=m:=by omega
    subst hii
    refine go ?_
    refine rt ?_
    exact⟨ow.since e2,e2.trans e23⟩
  ·rw[if_neg h4,if_neg h5]
   refine go ?_
   refine WO.bl [(k:Int)] ?_
   intro v h3 e3 o3
   refine go ?_
   refine rt ?_
   exact⟨.inr (o3.since e2),e2.trans e3⟩
noncomputable def body75_0:ACode:=(.seq (.seq (.region [⟨some 7,none,(.mov (.tmp 3))⟩,⟨some 8,none,(.mov (.tmp 0))⟩,⟨some 9,none,(.len (.tmp 8))⟩,⟨some 10,none,(.bin .lss (.tmp 7) (.tmp 9))⟩]) (.cond (.tmp 10) .skip (.exit 0))) (.seq (.block 1 (.seq (.region [⟨some 13,none,(.mov (.tmp 0))⟩,⟨some 14,none,(.mov (.tmp 3))⟩,⟨some 15,none,(.call (.func 89) [(.tmp 13),(.tmp 14)])⟩,⟨some 16,none,(.un .not (.tmp 15))⟩,⟨some 17,none,(.mov (.tmp 16))⟩,⟨some 18,some (17,false),(.mov (.tmp 0))⟩,⟨some 19,some (17,false),(.mov (.tmp 3))⟩,⟨some 20,some (17,false),(.call (.func 90) [(.tmp 18),(.tmp 19)])⟩,⟨some 21,some (17,false),(.len (.tmp 20))⟩,⟨some 22,some (17,false),(.bin .gtr (.tmp 21) (.const (.int .i64 32)))⟩,⟨some 23,none,(.pick (.tmp 17) (.const (.bool true)) (.tmp 22))⟩]) (.cond (.tmp 23) (.seq (.region [⟨some 2,none,(.mov (.const (.int .i64 30)))⟩]) .ret) .skip))) (.region [⟨some 11,none,(.mov (.tmp 3))⟩,⟨some 12,none,(.bin .add (.tmp 11) (.const (.int .i64 1)))⟩,⟨some 3,none,(.mov (.tmp 12))⟩])))
noncomputable def body75:ACode:=(.seq (.region [⟨some 2,none,(.mov (.const (.int .i64 0)))⟩]) (.seq (.seq (.region [⟨some 4,none,(.mov (.tmp 0))⟩,⟨some 5,none,(.len (.tmp 4))⟩,⟨some 6,none,(.bin .gtr (.tmp 5) (.const (.int .i64 16)))⟩]) (.cond (.tmp 6) (.seq (.region [⟨some 2,none,(.mov (.const (.int .i64 4)))⟩]) .ret) .skip)) (.seq (.seq (.region [⟨some 3,none,(.mov (.const (.int .i64 0)))⟩]) (.block 0 (.loop body75_0))) (.seq (.region [⟨some 2,none,(.mov (.const (.int .i64 0)))⟩]) .ret))))
set_option maxRecDepth 100000 in
theorem tab75:tb.code 75=some ⟨24,[(2,none)],body75⟩:=by kernel_rfl
theorem zHN (h:AHeap) (vt:Value) (T:List LType) (st:SlT h vt T) (hT:(T.length:Int)≤1000) (hpl:∀ x∈T,x.parts.length≤1000000):
  WC Tryz.prog tb 75 [vt] h fun r h'=>r=I (Zt T)∧Ext h h':=by
 refine WC.of (zG 75) tab75 ?_;simp only[zN,Nat.zero_add,Nat.reduceAdd]
 rw[zGV]
 replace hpl:=Hid.mk hpl
 by_cases h16:16<(T.length:Int)
 ·refine go ?_
  refine rt ?_
  rw[if_pos (by omega)]
  exact⟨rfl,Ext.refl _⟩
 rw[if_neg (by omega)]
 refine go ?_
 refine WX.loopA [7,8,9,10,13,14,15,16,17,18,19,20,21,22,23,2,11,12,3] (by kernel_rfl) (fun i=>T.length - i) (fun i t h1=>Ext h h1∧zB t 3=I i∧i≤T.length∧Hid (LowT T i)) 0 ?_ ?_
 ·exact⟨Ext.refl _,sl_,Nat.zero_le _,⟨fun j hj=>absurd hj (Nat.not_lt_zero _)⟩⟩
 rintro i t h1 hsame ⟨e1,s3,hi,hlow⟩
 have st1:=st.ext e1
 refine go ?_
 refine WX.br (fun hc=> ?_) (fun hc=> ?_)<;>simp only[DB]at hc
 ·have hi':i<T.length:=by omega
  refine go ?_
  refine WO.con (zE2 h1 vt T i st1 hT hi' (by have:=hpl.out _ (zL (l:=T) hi');omega)) ?_
  rintro _ h2 ⟨⟨b,rfl,hbb⟩,e2⟩
  have st2:=st1.ext e2
  have no:¬(Yb T i∧(ofL T i).length≤32)→¬LowT T T.length:=fun hn hl=>hn (hl i hi')
  cases b with
  |false=>
   have hf:¬LowT T T.length:=no fun hh=>absurd (hbb.2 hh.1) Bool.noConfusion
   refine go ?_
   refine rt ?_
   rw[if_neg hf]
   exact⟨rfl,e1.trans e2⟩
  |true=>
   have hM:=hbb.1 rfl
   refine go ?_
   refine WO.con (rOf_ok vt T hT (i+1) i h2 (by omega) st2 hi' hlow.out hM) ?_
   rintro r h3 ⟨or,e3⟩
   have sr:=or.sl
   have e03:=(e1.trans e2).trans e3
   refine go ?_
   refine WX.br (fun hd=> ?_) (fun hd=> ?_)<;>simp only[DB]at hd
   ·have hf:¬LowT T T.length:=no fun hh=>by have:=hh.2;omega
    refine go ?_
    refine rt ?_
    rw[if_neg hf]
    exact⟨rfl,e03⟩
   ·refine go ?_
    refine zA (i+1) (by omega) ⟨e03,sln,by omega,⟨fun j hj=> ?_⟩⟩
    by_cases e:j=i
    ·subst e;exact⟨hM,by omega⟩
    ·exact hlow.out j (by omega)
 ·have hii:i=T.length:=by omega
  subst hii
  refine go ?_
  refine rt ?_
  rw[if_pos hlow.out]
  exact⟨rfl,e1⟩
end Go.Proofs.YtdcgdfbblnljjaaGreatDoor
namespace Go.Proofs.YtdcgdfbblnljjaaGreatDoor
open Go.Am
set_option linter.unusedVariables false
set_option linter.unusedSimpArgs false
def TwoP (op:Int):Prop:=(4≤op∧op≤10)∨op=15∨op=17
def zFZ (op:Int):Prop:=TwoP op∨op=13∨op=14∨op=16∨op=19∨op=21
def zFD (op:Int):Prop:=op=18∨op=19∨op=22
def AnsP (op:Int):Prop:=1≤op∧op≤22∧op≠13∧op≠17∧op≠21
theorem Yg {op:Int} (h:0≤op):((zb op).2.1=true↔TwoP op)∧((zb op).1=true↔zFZ op)∧((zb op).2.2.2.1=true↔zFD op)∧((zb op).2.2.2.2.2=true↔AnsP op)∧((zb op).2.2.2.2.1=true↔op=22)∧((zb op).2.2.1=true↔op=1∨op=3∨op=14∨op=18)∧(zb op=(false,false,false,false,false,false)↔op<1∨22<op):=by
 obtain⟨n,rfl⟩:=Int.eq_ofNat_of_zero_le h
 by_cases hn:n<23
 ·clear h
  unfold zFZ zFD AnsP TwoP
  have hz:(List.range 23).all (fun (n:Nat)=>decide (zb (n:Int)=(false,false,false,false,false,false)) == decide ((n:Int)<1∨22<(n:Int)))=true:=by decide+kernel
  have hz:=List.all_eq_true.1 hz n (List.mem_range.2 hn)
  rw[beq_iff_eq,decide_eq_decide]at hz
  refine⟨?_,?_,?_,?_,?_,?_,hz⟩<;>(clear hz;revert n;decide+kernel)
 ·have e:zb (n:Int)=(false,false,false,false,false,false):=by
   unfold zb
   rw[List.getD,List.getElem?_eq_none (by simp only[hasT,List.length_cons,List.length_nil];omega)];rfl
  rw[e]
  unfold zFZ zFD AnsP TwoP
  simp only[Bool.false_eq_true,false_iff,true_iff]
  omega
def zCe (x:LIns):List Int:=(if (zb x.op).1 then [x.a] else [])++((if (zb x.op).2.1 then [x.b] else [])++(if (zb x.op).2.2.2.1 then x.args else []))
def NumP (x:LIns) (funcs:Int):Prop:=if x.op=1 then True else if x.op=3∨x.op=18 then 0≤x.n∧x.n<funcs else if x.op=14 then 0≤x.n∧x.n<8 else x.n=0
def Btw (l:List Int) (m:Int):Prop:=∀ p∈l,0≤p∧p<m
structure MayI (x:LIns) (s:LSz):Prop where
 op:1≤x.op∧x.op≤22
 uses:Btw (zCe x) s.regs
 num:NumP x s.funcs
 a:(zb x.op).1=true∨x.a=0
 b:(zb x.op).2.1=true∨x.b=0
 g:(zb x.op).2.2.2.1=true∨(x.args.length:Int)≤0
 ans:if (zb x.op).2.2.2.2.2 then 0≤x.ty∧x.ty<s.types else x.ty=0
 frm:if (zb x.op).2.2.2.2.1 then (x.frm.length:Int)=x.args.length∧1≤(x.frm.length:Int)∧(x.frm.length:Int)≤16∧Btw x.frm s.blocks else (x.frm.length:Int)=0∧(x.args.length:Int)≤4
theorem zCd {l:List Int} {m:Int}:allL l m=true↔Btw l m:=by
 unfold allL zM Btw
 simp[List.all_eq_true]
theorem zCH {l k:List Int} {m:Int}:Btw (l++k) m↔Btw l m∧Btw k m:=by
 unfold Btw
 constructor
 ·exact fun h=>⟨fun p hp=>h p (List.mem_append.2 (.inl hp)),fun p hp=>h p (List.mem_append.2 (.inr hp))⟩
 ·exact fun h p hp=>(List.mem_append.1 hp).elim (h.1 p) (h.2 p)
theorem zFs {c:Bool} {l:List Int} {m:Int}:Btw (if c then l else []) m↔(c=true→Btw l m):=by
 cases c
 ·simp[Btw]
 ·simp
theorem zCG {a m:Int}:Btw [a] m↔zM a m=true:=by unfold Btw zM;simp
theorem zFB {x:LIns} {s:LSz} (ho:0≤x.op):NumP x s.funcs↔YN x s=true∧((zb x.op).2.2.1=true∨x.n=0):=by
 obtain⟨_,_,_,_,_,hn,_⟩:=Yg ho
 rw[hn]
 unfold NumP YN
 by_cases h1:x.op=1
 ·simp[h1]
 by_cases h3:x.op=3∨x.op=18
 ·rw[if_neg h1,if_pos h3,if_pos h3,Bool.and_eq_true,decide_eq_true_iff,decide_eq_true_iff];omega
 by_cases h14:x.op=14
 ·rw[if_neg h1,if_neg h3,if_pos h14,if_neg h3,if_pos h14,Bool.and_eq_true,decide_eq_true_iff,decide_eq_true_iff];omega
 ·rw[if_neg h1,if_neg h3,if_neg h14,if_neg h3,if_neg h14];simp;omega
theorem insL_iff {x:LIns} {s:LSz} (ho:0≤x.op):zBY x s=true↔MayI x s:=by
 obtain⟨_,_,_,_,hf,_,hz⟩:=Yg ho
 have hnum:=zFB (x:=x) (s:=s) ho
 have key:MayI x s↔(1≤x.op∧x.op≤22)∧Btw (zCe x) s.regs∧NumP x s.funcs∧((zb x.op).1=true∨x.a=0)∧((zb x.op).2.1=true∨x.b=0)∧((zb x.op).2.2.2.1=true∨(x.args.length:Int)≤0)∧(if (zb x.op).2.2.2.2.2 then 0≤x.ty∧x.ty<s.types else x.ty=0)∧
   (if (zb x.op).2.2.2.2.1 then (x.frm.length:Int)=x.args.length∧1≤(x.frm.length:Int)∧(x.frm.length:Int)≤16∧Btw x.frm s.blocks else (x.frm.length:Int)=0∧(x.args.length:Int)≤4):=
  ⟨fun ⟨a,b,c,d,e,f,g,h⟩=>⟨a,b,c,d,e,f,g,h⟩,fun ⟨a,b,c,d,e,f,g,h⟩=>⟨a,b,c,d,e,f,g,h⟩⟩
 rw[key,hnum]
 unfold zBY oddL noneL kindL zCe
 simp only
 have hz':(decide (zb x.op=(false,false,false,false,false,false))=false)↔(1≤x.op∧x.op≤22):=by
  rw[decide_eq_false_iff_not,hz];omega
 have hl0:Btw x.args s.regs∨¬(x.args.length:Int)≤0:=by
  by_cases h:(x.args.length:Int)≤0
  ·left
   have:x.args=[]:=List.eq_nil_of_length_eq_zero (by omega)
   rw[this];exact fun p hp=>by cases hp
  ·exact .inr h
 rw[zCH,zCH,zFs,zFs,zFs,zCG,zCG]
 have hty:(zM x.ty s.types=true)↔0≤x.ty∧x.ty<s.types:=by unfold zM;simp
 rw[←hz',←hty,←zCd,←zCd]
 rw[←zCd]at hl0
 generalize decide (zb x.op=(false,false,false,false,false,false))=Z at *
 generalize zb x.op=q at *
 obtain⟨A,B,N,G,R,S⟩:=q
 simp only
 generalize zM x.a s.regs=ba at *
 generalize zM x.b s.regs=bb at *
 generalize allL x.args s.regs=bg at *
 generalize YN x s=bn at *
 generalize zM x.ty s.types=bt at *
 generalize allL x.frm s.blocks=bf at *
 clear hz hf hnum key hz' hty
 generalize x.args.length=la at *
 generalize x.frm.length=lf at *
 generalize x.a=a at *
 generalize x.b=b at *
 generalize x.n=n at *
 generalize x.ty=ty at *
 cases Z<;>simp only[Bool.true_or,Bool.false_or,Bool.not_true,Bool.false_and,Bool.false_eq_true,false_iff,false_and,not_false_eq_true,Bool.true_eq_false,Bool.not_false,Bool.not_true,true_and]
 cases R
 ·cases A<;>cases B<;>cases N<;>cases G<;>cases S<;>simp<;>(constructor<;>intro h<;>simp_all<;>omega)
 ·cases A<;>cases B<;>cases N<;>cases G<;>cases S<;>simp<;>(constructor<;>intro h<;>simp_all<;>omega)
theorem endL_iff {x:LEnd} {s:LSz}:Yw x s=true↔(x.kind=1∧x.a=0∧x.els=0∧Btw [x.to] s.blocks)∨(x.kind=2∧Btw [x.a] s.regs∧Btw [x.to,x.els] s.blocks)∨(x.kind=3∧x.to=0∧x.els=0∧Btw [x.a] s.regs):=by
 have h2:Btw [x.to,x.els] s.blocks↔zM x.to s.blocks=true∧zM x.els s.blocks=true:=by unfold Btw zM;simp
 rw[h2,zCG,zCG]
 unfold Yw
 by_cases k1:x.kind=1
 ·simp[k1,and_assoc]
 by_cases k2:x.kind=2
 ·simp[k2,and_assoc]
 by_cases k3:x.kind=3
 ·simp[k3,and_assoc]
 ·simp[k1,k2,k3]
end Go.Proofs.YtdcgdfbblnljjaaGreatDoor
namespace Go.Proofs.YtdcgdfbblnljjaaGreatDoor
open Go.Am
set_option linter.unusedVariables false
set_option linter.unusedSimpArgs false
set_option maxHeartbeats 1000000
noncomputable def body121:ACode:=(.seq (.region [⟨some 2,none,(.mov (.const (.bool false)))⟩]) (.seq (.region [⟨some 3,none,(.mov (.tmp 0))⟩,⟨some 4,none,(.bin .geq (.tmp 3) (.const (.int .u8 4)))⟩,⟨some 5,none,(.mov (.tmp 4))⟩,⟨some 6,some (5,true),(.mov (.tmp 0))⟩,⟨some 7,some (5,true),(.bin .leq (.tmp 6) (.const (.int .u8 10)))⟩,⟨some 8,none,(.pick (.tmp 5) (.tmp 7) (.const (.bool false)))⟩,⟨some 9,none,(.mov (.tmp 8))⟩,⟨some 10,some (9,false),(.mov (.tmp 0))⟩,⟨some 11,some (9,false),(.bin .eql (.tmp 10) (.const (.int .u8 15)))⟩,⟨some 12,none,(.pick (.tmp 9) (.const (.bool true)) (.tmp 11))⟩,⟨some 13,none,(.mov (.tmp 12))⟩,⟨some 14,some (13,false),(.mov (.tmp 0))⟩,⟨some 15,some (13,false),(.bin .eql (.tmp 14) (.const (.int .u8 17)))⟩,⟨some 16,none,(.pick (.tmp 13) (.const (.bool true)) (.tmp 15))⟩,⟨some 2,none,(.mov (.tmp 16))⟩]) .ret))
set_option maxRecDepth 100000 in
theorem tab121:tb.code 121=some ⟨17,[(2,none)],body121⟩:=by kernel_rfl
theorem zGq (h:AHeap) (op:Int):WC Tryz.prog tb 121 [.int .u8 op] h fun r h'=>(∃ b,r= .bool b∧(b=true↔TwoP op))∧h=h':=by
 refine WC.of (zG 121) tab121 ?_;simp only[zN,Nat.zero_add,Nat.reduceAdd]
 refine go ?_
 repeat' (first|(refine WX.br (fun hb=> ?_) (fun hb=> ?_)<;>(try simp only[DB]at hb)<;>refine go ?_)|(refine WO.sp (fun hb=> ?_) (fun hb=> ?_)<;>(try simp only[DB]at hb)<;>refine go ?_))
 all_goals (refine rt ?_;exact⟨⟨_,rfl,by unfold TwoP;simp only[DBI];omega⟩,rfl⟩)
theorem two_ok (h:AHeap) (op:Int) (ho:0≤op):WC Tryz.prog tb 121 [.int .u8 op] h fun r h'=>r= .bool (zb op).2.1∧h=h':=by
 refine(zGq h op).mono ?_
 rintro _ _ ⟨⟨b,rfl,hb⟩,rfl⟩
 exact⟨congrArg _ (by rw[Bool.eq_iff_iff,hb,(Yg ho).1]),rfl⟩
noncomputable def body120:ACode:=(.seq (.region [⟨some 2,none,(.mov (.const (.bool false)))⟩]) (.seq (.region [⟨some 3,none,(.mov (.tmp 0))⟩,⟨some 4,none,(.call (.func 121) [(.tmp 3)])⟩,⟨some 5,none,(.mov (.tmp 4))⟩,⟨some 6,some (5,false),(.mov (.tmp 0))⟩,⟨some 7,some (5,false),(.bin .eql (.tmp 6) (.const (.int .u8 13)))⟩,⟨some 8,none,(.pick (.tmp 5) (.const (.bool true)) (.tmp 7))⟩,⟨some 9,none,(.mov (.tmp 8))⟩,⟨some 10,some (9,false),(.mov (.tmp 0))⟩,⟨some 11,some (9,false),(.bin .eql (.tmp 10) (.const (.int .u8 14)))⟩,⟨some 12,none,(.pick (.tmp 9) (.const (.bool true)) (.tmp 11))⟩,⟨some 13,none,(.mov (.tmp 12))⟩,⟨some 14,some (13,false),(.mov (.tmp 0))⟩,⟨some 15,some (13,false),(.bin .eql (.tmp 14) (.const (.int .u8 16)))⟩,⟨some 16,none,(.pick (.tmp 13) (.const (.bool true)) (.tmp 15))⟩,⟨some 17,none,(.mov (.tmp 16))⟩,⟨some 18,some (17,false),(.mov (.tmp 0))⟩,⟨some 19,some (17,false),(.bin .eql (.tmp 18) (.const (.int .u8 19)))⟩,⟨some 20,none,(.pick (.tmp 17) (.const (.bool true)) (.tmp 19))⟩,⟨some 21,none,(.mov (.tmp 20))⟩,⟨some 22,some (21,false),(.mov (.tmp 0))⟩,⟨some 23,some (21,false),(.bin .eql (.tmp 22) (.const (.int .u8 21)))⟩,⟨some 24,none,(.pick (.tmp 21) (.const (.bool true)) (.tmp 23))⟩,⟨some 2,none,(.mov (.tmp 24))⟩]) .ret))
set_option maxRecDepth 100000 in
theorem tab120:tb.code 120=some ⟨25,[(2,none)],body120⟩:=by kernel_rfl
theorem zGo (h:AHeap) (op:Int) (ho:0≤op):WC Tryz.prog tb 120 [.int .u8 op] h fun r h'=>r= .bool (zb op).1∧h=h':=by
 refine WC.mono (Q:=fun r h'=>(∃ b,r= .bool b∧(b=true↔zFZ op))∧h=h') ?_ ?_
 ·refine WC.of (zG 120) tab120 ?_;simp only[zN,Nat.zero_add,Nat.reduceAdd]
  refine go ?_
  refine WO.con (zGq h op) ?_
  rintro _ _ ⟨⟨b,rfl,hb⟩,rfl⟩
  cases b with
  |true=>
   have hT:=hb.1 rfl
   refine go ?_
   refine rt ?_
   exact⟨⟨_,rfl,⟨fun _=> .inl hT,fun _=>rfl⟩⟩,rfl⟩
  |false=>
   have hT:¬TwoP op:=fun hh=>absurd (hb.2 hh) Bool.noConfusion
   unfold zFZ
   refine go ?_
   repeat' (first|(refine WX.br (fun hb=> ?_) (fun hb=> ?_)<;>(try simp only[DB]at hb)<;>refine go ?_)|(refine WO.sp (fun hb=> ?_) (fun hb=> ?_)<;>(try simp only[DB]at hb)<;>refine go ?_))
   all_goals (refine rt ?_;exact⟨⟨_,rfl,by simp only[DBI,hT,false_or];omega⟩,rfl⟩)
 ·rintro _ _ ⟨⟨b,rfl,hb⟩,rfl⟩
  exact⟨congrArg _ (by rw[Bool.eq_iff_iff,hb,(Yg ho).2.1]),rfl⟩
noncomputable def body122:ACode:=(.seq (.region [⟨some 2,none,(.mov (.const (.bool false)))⟩]) (.seq (.region [⟨some 3,none,(.mov (.tmp 0))⟩,⟨some 4,none,(.bin .eql (.tmp 3) (.const (.int .u8 18)))⟩,⟨some 5,none,(.mov (.tmp 4))⟩,⟨some 6,some (5,false),(.mov (.tmp 0))⟩,⟨some 7,some (5,false),(.bin .eql (.tmp 6) (.const (.int .u8 19)))⟩,⟨some 8,none,(.pick (.tmp 5) (.const (.bool true)) (.tmp 7))⟩,⟨some 9,none,(.mov (.tmp 8))⟩,⟨some 10,some (9,false),(.mov (.tmp 0))⟩,⟨some 11,some (9,false),(.bin .eql (.tmp 10) (.const (.int .u8 22)))⟩,⟨some 12,none,(.pick (.tmp 9) (.const (.bool true)) (.tmp 11))⟩,⟨some 2,none,(.mov (.tmp 12))⟩]) .ret))
set_option maxRecDepth 100000 in
theorem tab122:tb.code 122=some ⟨13,[(2,none)],body122⟩:=by kernel_rfl
theorem zG1 (h:AHeap) (op:Int) (ho:0≤op):WC Tryz.prog tb 122 [.int .u8 op] h fun r h'=>r= .bool (zb op).2.2.2.1∧h=h':=by
 refine WC.mono (Q:=fun r h'=>(∃ b,r= .bool b∧(b=true↔zFD op))∧h=h') ?_ ?_
 ·refine WC.of (zG 122) tab122 ?_;simp only[zN,Nat.zero_add,Nat.reduceAdd]
  refine go ?_
  repeat' (first|(refine WX.br (fun hb=> ?_) (fun hb=> ?_)<;>(try simp only[DB]at hb)<;>refine go ?_)|(refine WO.sp (fun hb=> ?_) (fun hb=> ?_)<;>(try simp only[DB]at hb)<;>refine go ?_))
  all_goals (refine rt ?_;exact⟨⟨_,rfl,by unfold zFD;simp only[DBI];omega⟩,rfl⟩)
 ·rintro _ _ ⟨⟨b,rfl,hb⟩,rfl⟩
  exact⟨congrArg _ (by rw[Bool.eq_iff_iff,hb,(Yg ho).2.2.1]),rfl⟩
noncomputable def body123:ACode:=(.seq (.region [⟨some 2,none,(.mov (.const (.bool false)))⟩]) (.seq (.region [⟨some 3,none,(.mov (.tmp 0))⟩,⟨some 4,none,(.bin .geq (.tmp 3) (.const (.int .u8 1)))⟩,⟨some 5,none,(.mov (.tmp 4))⟩,⟨some 6,some (5,true),(.mov (.tmp 0))⟩,⟨some 7,some (5,true),(.bin .leq (.tmp 6) (.const (.int .u8 22)))⟩,⟨some 8,none,(.pick (.tmp 5) (.tmp 7) (.const (.bool false)))⟩,⟨some 9,none,(.mov (.tmp 8))⟩,⟨some 10,some (9,true),(.mov (.tmp 0))⟩,⟨some 11,some (9,true),(.bin .neq (.tmp 10) (.const (.int .u8 13)))⟩,⟨some 12,none,(.pick (.tmp 9) (.tmp 11) (.const (.bool false)))⟩,⟨some 13,none,(.mov (.tmp 12))⟩,⟨some 14,some (13,true),(.mov (.tmp 0))⟩,⟨some 15,some (13,true),(.bin .neq (.tmp 14) (.const (.int .u8 17)))⟩,⟨some 16,none,(.pick (.tmp 13) (.tmp 15) (.const (.bool false)))⟩,⟨some 17,none,(.mov (.tmp 16))⟩,⟨some 18,some (17,true),(.mov (.tmp 0))⟩,⟨some 19,some (17,true),(.bin .neq (.tmp 18) (.const (.int .u8 21)))⟩,⟨some 20,none,(.pick (.tmp 17) (.tmp 19) (.const (.bool false)))⟩,⟨some 2,none,(.mov (.tmp 20))⟩]) .ret))
set_option maxRecDepth 100000 in
theorem tab123:tb.code 123=some ⟨21,[(2,none)],body123⟩:=by kernel_rfl
theorem zAY (h:AHeap) (op:Int) (ho:0≤op):WC Tryz.prog tb 123 [.int .u8 op] h fun r h'=>r= .bool (zb op).2.2.2.2.2∧h=h':=by
 refine WC.mono (Q:=fun r h'=>(∃ b,r= .bool b∧(b=true↔AnsP op))∧h=h') ?_ ?_
 ·refine WC.of (zG 123) tab123 ?_;simp only[zN,Nat.zero_add,Nat.reduceAdd]
  refine go ?_
  repeat' (first|(refine WX.br (fun hb=> ?_) (fun hb=> ?_)<;>(try simp only[DB]at hb)<;>refine go ?_)|(refine WO.sp (fun hb=> ?_) (fun hb=> ?_)<;>(try simp only[DB]at hb)<;>refine go ?_))
  all_goals (refine rt ?_;exact⟨⟨_,rfl,by unfold AnsP;simp only[DBI];omega⟩,rfl⟩)
 ·rintro _ _ ⟨⟨b,rfl,hb⟩,rfl⟩
  exact⟨congrArg _ (by rw[Bool.eq_iff_iff,hb,(Yg ho).2.2.2.1]),rfl⟩
theorem yM {h:AHeap} {va:Value} {l:List Int} (s:SlI h va l):∃ a n k,va= .slice a n k:=SlC.shape s
noncomputable def body118:ACode:=(.seq (.region [⟨some 1,none,(.box (.tmp 0))⟩,⟨some 2,none,(.mov (.const (.slice none 0 0)))⟩]) (.seq (.region [⟨some 3,none,(.mov (.const (.slice none 0 0)))⟩]) (.seq (.seq (.region [⟨some 4,none,(.fld 0 (.tmp 1))⟩,⟨some 5,none,(.load false 1 (.tmp 4))⟩,⟨some 6,none,(.call (.func 120) [(.tmp 5)])⟩]) (.cond (.tmp 6) (.region [⟨some 7,none,(.mov (.tmp 3))⟩,⟨some 8,none,(.fld 2 (.tmp 1))⟩,⟨some 9,none,(.load false 1 (.tmp 8))⟩,⟨some 10,none,(.buildSlice 1 1 [(.int .i64 0)] [(0,1,(.tmp 9))])⟩,⟨some 11,none,(.append 1 (.tmp 7) (.tmp 10))⟩,⟨some 3,none,(.mov (.tmp 11))⟩]) .skip)) (.seq (.seq (.region [⟨some 12,none,(.fld 0 (.tmp 1))⟩,⟨some 13,none,(.load false 1 (.tmp 12))⟩,⟨some 14,none,(.call (.func 121) [(.tmp 13)])⟩]) (.cond (.tmp 14) (.region [⟨some 15,none,(.mov (.tmp 3))⟩,⟨some 16,none,(.fld 3 (.tmp 1))⟩,⟨some 17,none,(.load false 1 (.tmp 16))⟩,⟨some 18,none,(.buildSlice 1 1 [(.int .i64 0)] [(0,1,(.tmp 17))])⟩,⟨some 19,none,(.append 1 (.tmp 15) (.tmp 18))⟩,⟨some 3,none,(.mov (.tmp 19))⟩]) .skip)) (.seq (.seq (.region [⟨some 20,none,(.fld 0 (.tmp 1))⟩,⟨some 21,none,(.load false 1 (.tmp 20))⟩,⟨some 22,none,(.call (.func 122) [(.tmp 21)])⟩]) (.cond (.tmp 22) (.region [⟨some 23,none,(.mov (.tmp 3))⟩,⟨some 24,none,(.fld 5 (.tmp 1))⟩,⟨some 25,none,(.load false 1 (.tmp 24))⟩,⟨some 26,none,(.append 1 (.tmp 23) (.tmp 25))⟩,⟨some 3,none,(.mov (.tmp 26))⟩]) .skip)) (.seq (.region [⟨some 27,none,(.mov (.tmp 3))⟩,⟨some 2,none,(.mov (.tmp 27))⟩]) .ret))))))
set_option maxRecDepth 100000 in
theorem tab118:tb.code 118=some ⟨28,[(2,none)],body118⟩:=by kernel_rfl
theorem ruses_ok (h:AHeap) (x:LIns) (cs:List Value) (hcs:RIns h cs x) (hx:x.args.length≤20):
  WC Tryz.prog tb 118 [.agg cs.toArray] h fun r h'=>OwnN h h' r (zCe x)∧Ext h h':=by
 obtain⟨va,vfr,rfl,sa,sfr,hla,hlf,ho,ho2⟩:=hcs
 obtain⟨aa,an,ak,rfl⟩:=yM sa
 obtain⟨fa,fn,fk,rfl⟩:=yM sfr
 refine WC.of (zG 118) tab118 ?_;simp only[zN,Nat.zero_add,Nat.reduceAdd]
 refine go ?_
 refine WO.bx ?_
 intro p h1 e1 o1
 have sa1:=sa.ext e1
 refine go ?_
 refine WO.con (zGo h1 x.op ho) ?_
 rintro _ _ ⟨rfl,rfl⟩
 unfold zCe
 refine go ?_
 refine WX.cutA [7,8,9,10,11,3] (by kernel_rfl) (fun t h'=>Ext h1 h'∧∃ w,zB t 3=w∧OwnN h1 h' w (if (zb x.op).1 then [x.a] else [])) ?_ ?_
 ·cases hA:(zb x.op).1 with
  |true=>
   refine go ?_
   refine WO.bl [x.a] ?_
   intro v h2 e2 o2
   refine go ?_
   refine WO.apN (v:= .slice none 0 0) (xs:=[]) (h0:=h1) (.inl ⟨rfl,rfl⟩) o2.sl e2 (by simp) ?_
   intro v3 h3 e3 o3
   refine go ?_
   exact zI ⟨e3,v3,sl_,o3⟩
  |false=>
   refine go ?_
   exact zI ⟨Ext.refl _,_,sl_,.inl ⟨rfl,rfl⟩⟩
 rintro t2 h2 hs2 ⟨e2,w2,q2,ow2⟩
 have o2:=o1.ext e2
 have l2:(if (zb x.op).1 then [x.a] else []).length≤1:=by split<;>simp
 generalize (if (zb x.op).1 then [x.a] else [])=lA at *
 refine go ?_
 refine WO.con (two_ok h2 x.op ho) ?_
 rintro _ _ ⟨rfl,rfl⟩
 refine go ?_
 refine WX.cutA [15,16,17,18,19,3] (by kernel_rfl) (fun t h'=>Ext h1 h'∧∃ w,zB t 3=w∧OwnN h1 h' w (lA++if (zb x.op).2.1 then [x.b] else [])) ?_ ?_
 ·cases hB:(zb x.op).2.1 with
  |true=>
   refine go ?_
   refine WO.bl [x.b] ?_
   intro v h3 e3 o3
   refine go ?_
   refine WO.apN (ow2.ext e3) o3.sl (e2.trans e3) (by simp only[List.length_singleton];omega) ?_
   intro v4 h4 e4 o4
   refine go ?_
   exact zI ⟨e4,v4,sl_,o4⟩
  |false=>
   refine go ?_
   exact zI ⟨e2,_,sl_,by simpa using ow2⟩
 rintro t3 h3 hs3 ⟨e3,w3,q3,ow3⟩
 have o3:=o1.ext e3
 have sa3:=sa1.ext e3
 have l3:(lA++if (zb x.op).2.1 then [x.b] else []).length≤2:=by split<;>simp<;>omega
 rw[←List.append_assoc]
 generalize (lA++if (zb x.op).2.1 then [x.b] else [])=lB at *
 refine go ?_
 refine WO.con (zG1 h3 x.op ho) ?_
 rintro _ _ ⟨rfl,rfl⟩
 refine go ?_
 cases hG:(zb x.op).2.2.2.1 with
 |true=>
  refine go ?_
  refine WO.apN ow3 sa3 e3 (by omega) ?_
  intro v4 h4 e4 o4
  refine go ?_
  refine rt ?_
  exact⟨o4.since e1,e1.trans e4⟩
 |false=>
  refine go ?_
  refine rt ?_
  exact⟨(by simpa using ow3.since e1:OwnN h h3 w3 _),e1.trans e3⟩
noncomputable def zHJ:ACode:=(.seq (.seq (.region [⟨some 6,none,(.mov (.tmp 5))⟩,⟨some 7,none,(.mov (.tmp 0))⟩,⟨some 8,none,(.len (.tmp 7))⟩,⟨some 9,none,(.bin .lss (.tmp 6) (.tmp 8))⟩]) (.cond (.tmp 9) .skip (.exit 0))) (.seq (.block 1 (.seq (.region [⟨some 12,none,(.mov (.tmp 0))⟩,⟨some 13,none,(.mov (.tmp 5))⟩,⟨some 14,none,(.idx 1 (.tmp 12) (.tmp 13))⟩,⟨some 15,none,(.load false 1 (.tmp 14))⟩,⟨some 16,none,(.bin .lss (.tmp 15) (.const (.int .i64 0)))⟩,⟨some 17,none,(.mov (.tmp 16))⟩,⟨some 18,some (17,false),(.mov (.tmp 0))⟩,⟨some 19,some (17,false),(.mov (.tmp 5))⟩,⟨some 20,some (17,false),(.idx 1 (.tmp 18) (.tmp 19))⟩,⟨some 21,some (17,false),(.load false 1 (.tmp 20))⟩,⟨some 22,some (17,false),(.mov (.tmp 1))⟩,⟨some 23,some (17,false),(.bin .geq (.tmp 21) (.tmp 22))⟩,⟨some 24,none,(.pick (.tmp 17) (.const (.bool true)) (.tmp 23))⟩]) (.cond (.tmp 24) (.seq (.region [⟨some 4,none,(.mov (.const (.bool false)))⟩]) .ret) .skip))) (.region [⟨some 10,none,(.mov (.tmp 5))⟩,⟨some 11,none,(.bin .add (.tmp 10) (.const (.int .i64 1)))⟩,⟨some 5,none,(.mov (.tmp 11))⟩])))
noncomputable def body117:ACode:=(.seq (.region [⟨some 4,none,(.mov (.const (.bool false)))⟩]) (.seq (.seq (.region [⟨some 5,none,(.mov (.const (.int .i64 0)))⟩]) (.block 0 (.loop zHJ))) (.seq (.region [⟨some 4,none,(.mov (.const (.bool true)))⟩]) .ret)))
set_option maxRecDepth 100000 in
theorem tab117:tb.code 117=some ⟨25,[(4,none)],body117⟩:=by kernel_rfl
theorem Z2 (h:AHeap) (v:Value) (l:List Int) (m:Int) (s:SlI h v l) (hl:(l.length:Int)≤1000000):
  WC Tryz.prog tb 117 [v,I m] h fun r h'=>(∃ b,r= .bool b∧(b=true↔Btw l m))∧h=h':=by
 refine WC.of (zG 117) tab117 ?_;simp only[zN,Nat.zero_add,Nat.reduceAdd]
 refine go ?_
 refine WX.loopA [6,7,8,9,12,13,14,15,16,17,18,19,20,21,22,23,24,4,10,11,5] (by kernel_rfl) (fun i=>l.length - i) (fun i t h1=>h=h1∧zB t 5=I i∧i≤l.length∧∀ j,j<i→0≤l.getD j 0∧l.getD j 0<m) 0 ?_ ?_
 ·exact⟨rfl,sl_,Nat.zero_le _,fun j hj=>absurd hj (Nat.not_lt_zero _)⟩
 rintro i t _ hsame ⟨rfl,s5,hi,hm⟩
 refine go ?_
 refine WX.br (fun hb=> ?_) (fun hb=> ?_)<;>simp only[DB]at hb
 ·have hi':i<l.length:=by omega
  by_cases hok:0≤l.getD i 0∧l.getD i 0<m
  ·refine go ?_
   refine zA (i+1) (by omega) ⟨rfl,sln,by omega,fun j hj=> ?_⟩
   by_cases e:j=i
   ·subst e;exact hok
   ·exact hm j (by omega)
  ·have hno:¬Btw l m:=fun hh=>hok (hh _ (z0 hi'))
   by_cases h0:l.getD i 0<0
   ·refine go ?_
    refine rt ?_
    exact⟨⟨_,rfl,by simp only[DBI];exact hno⟩,rfl⟩
   ·refine go ?_
    refine rt ?_
    exact⟨⟨_,rfl,by simp only[DBI];exact hno⟩,rfl⟩
 ·refine go ?_
  refine rt ?_
  refine⟨⟨_,rfl,?_⟩,rfl⟩
  simp only[DBI]
  intro p hp
  obtain⟨j,hj,rfl⟩:=ZA hp
  exact hm j (by omega)
noncomputable def body119:ACode:=(.seq (.region [⟨some 2,none,(.box (.tmp 0))⟩,⟨some 3,none,(.box (.tmp 1))⟩,⟨some 4,none,(.mov (.const (.bool false)))⟩]) (.seq (.seq (.region [⟨some 5,none,(.fld 0 (.tmp 3))⟩,⟨some 6,none,(.load false 1 (.tmp 5))⟩]) (.block 0 (.seq (.region [⟨some 8,none,(.bin .eql (.tmp 6) (.const (.int .u8 1)))⟩,⟨some 7,none,(.mov (.tmp 8))⟩]) (.cond (.tmp 7) (.seq (.region [⟨some 4,none,(.mov (.const (.bool true)))⟩]) .ret) (.seq (.seq (.region [⟨some 10,none,(.bin .eql (.tmp 6) (.const (.int .u8 3)))⟩,⟨some 9,none,(.mov (.tmp 10))⟩]) (.cond (.tmp 9) .skip (.region [⟨some 11,none,(.bin .eql (.tmp 6) (.const (.int .u8 18)))⟩,⟨some 9,none,(.mov (.tmp 11))⟩]))) (.cond (.tmp 9) (.seq (.region [⟨some 12,none,(.fld 4 (.tmp 3))⟩,⟨some 13,none,(.load false 1 (.tmp 12))⟩,⟨some 14,none,(.bin .geq (.tmp 13) (.const (.int .i64 0)))⟩,⟨some 15,none,(.mov (.tmp 14))⟩,⟨some 16,some (15,true),(.fld 4 (.tmp 3))⟩,⟨some 17,some (15,true),(.load false 1 (.tmp 16))⟩,⟨some 18,some (15,true),(.fld 1 (.tmp 2))⟩,⟨some 19,some (15,true),(.load false 1 (.tmp 18))⟩,⟨some 20,some (15,true),(.len (.tmp 19))⟩,⟨some 21,some (15,true),(.bin .lss (.tmp 17) (.tmp 20))⟩,⟨some 22,none,(.pick (.tmp 15) (.tmp 21) (.const (.bool false)))⟩,⟨some 4,none,(.mov (.tmp 22))⟩]) .ret) (.seq (.region [⟨some 24,none,(.bin .eql (.tmp 6) (.const (.int .u8 14)))⟩,⟨some 23,none,(.mov (.tmp 24))⟩]) (.cond (.tmp 23) (.seq (.region [⟨some 25,none,(.fld 4 (.tmp 3))⟩,⟨some 26,none,(.load false 1 (.tmp 25))⟩,⟨some 27,none,(.bin .geq (.tmp 26) (.const (.int .i64 0)))⟩,⟨some 28,none,(.mov (.tmp 27))⟩,⟨some 29,some (28,true),(.fld 4 (.tmp 3))⟩,⟨some 30,some (28,true),(.load false 1 (.tmp 29))⟩,⟨some 31,some (28,true),(.bin .lss (.tmp 30) (.const (.int .i64 8)))⟩,⟨some 32,none,(.pick (.tmp 28) (.tmp 31) (.const (.bool false)))⟩,⟨some 4,none,(.mov (.tmp 32))⟩]) .ret) .skip)))))))) (.seq (.region [⟨some 33,none,(.fld 4 (.tmp 3))⟩,⟨some 34,none,(.load false 1 (.tmp 33))⟩,⟨some 35,none,(.bin .eql (.tmp 34) (.const (.int .i64 0)))⟩,⟨some 4,none,(.mov (.tmp 35))⟩]) .ret)))
set_option maxRecDepth 100000 in
theorem tab119:tb.code 119=some ⟨36,[(4,none)],body119⟩:=by kernel_rfl
theorem rmayN_ok (h:AHeap) (vt vf:Value) (T:List LType) (F:List LFn) (x:LIns) (cs:List Value) (st:SlT h vt T) (sf:SlF h vf F) (hF:F.length≤1000) (hcs:RIns h cs x):
  WC Tryz.prog tb 119 [.agg #[vt,vf],.agg cs.toArray] h fun r h'=>(∃ b,r= .bool b∧(b=true↔NumP x F.length))∧Ext h h':=by
 obtain⟨va,vfr,rfl,sa,sfr,hla,hlf,ho,ho2⟩:=hcs
 obtain⟨aa,an,ak,rfl⟩:=yM sa
 obtain⟨fa,fn,fk,rfl⟩:=yM sfr
 obtain⟨ta,tn,tk,rfl⟩:=zE st
 obtain⟨ga,gn,gk,rfl⟩:=zE sf
 refine WC.of (zG 119) tab119 ?_;simp only[zN,Nat.zero_add,Nat.reduceAdd]
 refine go ?_
 refine WO.bx ?_
 intro p h1 e1 o1
 refine go ?_
 refine WO.bx ?_
 intro q h2 e2 o2
 have o1:=o1.ext e2
 have e12:=e1.trans e2
 have sf2:=SlF.ext sf e12
 unfold NumP
 by_cases k1:x.op=1
 ·rw[if_pos k1]
  refine go ?_
  refine rt ?_
  exact⟨⟨_,rfl,by simp⟩,e12⟩
 rw[if_neg k1]
 by_cases k3:x.op=3
 ·rw[if_pos (.inl k3)]
  skip
  refine go ?_
  repeat' (first|(refine WX.br (fun hb=> ?_) (fun hb=> ?_)<;>(try simp only[DB]at hb)<;>refine go ?_)|(refine WO.sp (fun hb=> ?_) (fun hb=> ?_)<;>(try simp only[DB]at hb)<;>refine go ?_))
  all_goals (refine rt ?_;exact⟨⟨_,rfl,by simp only[DBI];omega⟩,e12⟩)
 by_cases k18:x.op=18
 ·rw[if_pos (.inr k18)]
  skip
  refine go ?_
  repeat' (first|(refine WX.br (fun hb=> ?_) (fun hb=> ?_)<;>(try simp only[DB]at hb)<;>refine go ?_)|(refine WO.sp (fun hb=> ?_) (fun hb=> ?_)<;>(try simp only[DB]at hb)<;>refine go ?_))
  all_goals (refine rt ?_;exact⟨⟨_,rfl,by simp only[DBI];omega⟩,e12⟩)
 rw[if_neg (by omega)]
 by_cases k14:x.op=14
 ·rw[if_pos k14]
  skip
  refine go ?_
  repeat' (first|(refine WX.br (fun hb=> ?_) (fun hb=> ?_)<;>(try simp only[DB]at hb)<;>refine go ?_)|(refine WO.sp (fun hb=> ?_) (fun hb=> ?_)<;>(try simp only[DB]at hb)<;>refine go ?_))
  all_goals (refine rt ?_;exact⟨⟨_,rfl,by simp only[DBI];omega⟩,e12⟩)
 rw[if_neg k14]
 refine go ?_
 refine rt ?_
 exact⟨⟨_,rfl,by simp only[DBI]⟩,e12⟩
noncomputable def body91:ACode:=(.seq (.region [⟨some 4,none,(.box (.tmp 0))⟩,⟨some 5,none,(.box (.tmp 1))⟩,⟨some 8,none,(.mov (.const (.bool false)))⟩]) (.seq (.seq (.region [⟨some 9,none,(.fld 0 (.tmp 5))⟩,⟨some 10,none,(.load false 1 (.tmp 9))⟩,⟨some 11,none,(.bin .lss (.tmp 10) (.const (.int .u8 1)))⟩,⟨some 12,none,(.mov (.tmp 11))⟩,⟨some 13,some (12,false),(.fld 0 (.tmp 5))⟩,⟨some 14,some (12,false),(.load false 1 (.tmp 13))⟩,⟨some 15,some (12,false),(.bin .gtr (.tmp 14) (.const (.int .u8 22)))⟩,⟨some 16,none,(.pick (.tmp 12) (.const (.bool true)) (.tmp 15))⟩,⟨some 17,none,(.mov (.tmp 16))⟩,⟨some 18,some (17,false),(.load true 7 (.tmp 5))⟩,⟨some 19,some (17,false),(.call (.func 118) [(.tmp 18)])⟩,⟨some 20,some (17,false),(.mov (.tmp 2))⟩,⟨some 21,some (17,false),(.call (.func 117) [(.tmp 19),(.tmp 20)])⟩,⟨some 22,some (17,false),(.un .not (.tmp 21))⟩,⟨some 23,none,(.pick (.tmp 17) (.const (.bool true)) (.tmp 22))⟩,⟨some 24,none,(.mov (.tmp 23))⟩,⟨some 25,some (24,false),(.load true 2 (.tmp 4))⟩,⟨some 26,some (24,false),(.load true 7 (.tmp 5))⟩,⟨some 27,some (24,false),(.call (.func 119) [(.tmp 25),(.tmp 26)])⟩,⟨some 28,some (24,false),(.un .not (.tmp 27))⟩,⟨some 29,none,(.pick (.tmp 24) (.const (.bool true)) (.tmp 28))⟩]) (.cond (.tmp 29) (.seq (.region [⟨some 8,none,(.mov (.const (.bool false)))⟩]) .ret) .skip)) (.seq (.seq (.region [⟨some 30,none,(.fld 0 (.tmp 5))⟩,⟨some 31,none,(.load false 1 (.tmp 30))⟩,⟨some 32,none,(.call (.func 120) [(.tmp 31)])⟩,⟨some 33,none,(.un .not (.tmp 32))⟩,⟨some 34,none,(.mov (.tmp 33))⟩,⟨some 35,some (34,true),(.fld 2 (.tmp 5))⟩,⟨some 36,some (34,true),(.load false 1 (.tmp 35))⟩,⟨some 37,some (34,true),(.bin .neq (.tmp 36) (.const (.int .i64 0)))⟩,⟨some 38,none,(.pick (.tmp 34) (.tmp 37) (.const (.bool false)))⟩,⟨some 39,none,(.mov (.tmp 38))⟩,⟨some 40,some (39,false),(.fld 0 (.tmp 5))⟩,⟨some 41,some (39,false),(.load false 1 (.tmp 40))⟩,⟨some 42,some (39,false),(.call (.func 121) [(.tmp 41)])⟩,⟨some 43,some (39,false),(.un .not (.tmp 42))⟩,⟨some 44,some (39,false),(.mov (.tmp 43))⟩,⟨some 45,some (44,true),(.fld 3 (.tmp 5))⟩,⟨some 46,some (44,true),(.load false 1 (.tmp 45))⟩,⟨some 47,some (44,true),(.bin .neq (.tmp 46) (.const (.int .i64 0)))⟩,⟨some 48,some (39,false),(.pick (.tmp 44) (.tmp 47) (.const (.bool false)))⟩,⟨some 49,none,(.pick (.tmp 39) (.const (.bool true)) (.tmp 48))⟩,⟨some 50,none,(.mov (.tmp 49))⟩,⟨some 51,some (50,false),(.fld 0 (.tmp 5))⟩,⟨some 52,some (50,false),(.load false 1 (.tmp 51))⟩,⟨some 53,some (50,false),(.call (.func 122) [(.tmp 52)])⟩,⟨some 54,some (50,false),(.un .not (.tmp 53))⟩,⟨some 55,some (50,false),(.mov (.tmp 54))⟩,⟨some 56,some (55,true),(.fld 5 (.tmp 5))⟩,⟨some 57,some (55,true),(.load false 1 (.tmp 56))⟩,⟨some 58,some (55,true),(.len (.tmp 57))⟩,⟨some 59,some (55,true),(.bin .gtr (.tmp 58) (.const (.int .i64 0)))⟩,⟨some 60,some (50,false),(.pick (.tmp 55) (.tmp 59) (.const (.bool false)))⟩,⟨some 61,none,(.pick (.tmp 50) (.const (.bool true)) (.tmp 60))⟩]) (.cond (.tmp 61) (.seq (.region [⟨some 8,none,(.mov (.const (.bool false)))⟩]) .ret) .skip)) (.seq (.seq (.region [⟨some 62,none,(.fld 0 (.tmp 5))⟩,⟨some 63,none,(.load false 1 (.tmp 62))⟩,⟨some 64,none,(.call (.func 123) [(.tmp 63)])⟩,⟨some 65,none,(.mov (.tmp 64))⟩,⟨some 66,some (65,true),(.fld 1 (.tmp 5))⟩,⟨some 67,some (65,true),(.load false 1 (.tmp 66))⟩,⟨some 68,some (65,true),(.bin .lss (.tmp 67) (.const (.int .i64 0)))⟩,⟨some 69,some (65,true),(.mov (.tmp 68))⟩,⟨some 70,some (69,false),(.fld 1 (.tmp 5))⟩,⟨some 71,some (69,false),(.load false 1 (.tmp 70))⟩,⟨some 72,some (69,false),(.fld 0 (.tmp 4))⟩,⟨some 73,some (69,false),(.load false 1 (.tmp 72))⟩,⟨some 74,some (69,false),(.len (.tmp 73))⟩,⟨some 75,some (69,false),(.bin .geq (.tmp 71) (.tmp 74))⟩,⟨some 76,some (65,true),(.pick (.tmp 69) (.const (.bool true)) (.tmp 75))⟩,⟨some 77,none,(.pick (.tmp 65) (.tmp 76) (.const (.bool false)))⟩,⟨some 78,none,(.mov (.tmp 77))⟩,⟨some 79,some (78,false),(.fld 0 (.tmp 5))⟩,⟨some 80,some (78,false),(.load false 1 (.tmp 79))⟩,⟨some 81,some (78,false),(.call (.func 123) [(.tmp 80)])⟩,⟨some 82,some (78,false),(.un .not (.tmp 81))⟩,⟨some 83,some (78,false),(.mov (.tmp 82))⟩,⟨some 84,some (83,true),(.fld 1 (.tmp 5))⟩,⟨some 85,some (83,true),(.load false 1 (.tmp 84))⟩,⟨some 86,some (83,true),(.bin .neq (.tmp 85) (.const (.int .i64 0)))⟩,⟨some 87,some (78,false),(.pick (.tmp 83) (.tmp 86) (.const (.bool false)))⟩,⟨some 88,none,(.pick (.tmp 78) (.const (.bool true)) (.tmp 87))⟩]) (.cond (.tmp 88) (.seq (.region [⟨some 8,none,(.mov (.const (.bool false)))⟩]) .ret) .skip)) (.seq (.seq (.region [⟨some 89,none,(.fld 0 (.tmp 5))⟩,⟨some 90,none,(.load false 1 (.tmp 89))⟩,⟨some 91,none,(.bin .eql (.tmp 90) (.const (.int .u8 22)))⟩]) (.cond (.tmp 91) (.seq (.region [⟨some 92,none,(.fld 6 (.tmp 5))⟩,⟨some 93,none,(.load false 1 (.tmp 92))⟩,⟨some 94,none,(.len (.tmp 93))⟩,⟨some 95,none,(.fld 5 (.tmp 5))⟩,⟨some 96,none,(.load false 1 (.tmp 95))⟩,⟨some 97,none,(.len (.tmp 96))⟩,⟨some 98,none,(.bin .eql (.tmp 94) (.tmp 97))⟩,⟨some 99,none,(.mov (.tmp 98))⟩,⟨some 100,some (99,true),(.fld 6 (.tmp 5))⟩,⟨some 101,some (99,true),(.load false 1 (.tmp 100))⟩,⟨some 102,some (99,true),(.len (.tmp 101))⟩,⟨some 103,some (99,true),(.bin .geq (.tmp 102) (.const (.int .i64 1)))⟩,⟨some 104,none,(.pick (.tmp 99) (.tmp 103) (.const (.bool false)))⟩,⟨some 105,none,(.mov (.tmp 104))⟩,⟨some 106,some (105,true),(.fld 6 (.tmp 5))⟩,⟨some 107,some (105,true),(.load false 1 (.tmp 106))⟩,⟨some 108,some (105,true),(.len (.tmp 107))⟩,⟨some 109,some (105,true),(.bin .leq (.tmp 108) (.const (.int .i64 16)))⟩,⟨some 110,none,(.pick (.tmp 105) (.tmp 109) (.const (.bool false)))⟩,⟨some 111,none,(.mov (.tmp 110))⟩,⟨some 112,some (111,true),(.fld 6 (.tmp 5))⟩,⟨some 113,some (111,true),(.load false 1 (.tmp 112))⟩,⟨some 114,some (111,true),(.mov (.tmp 3))⟩,⟨some 115,some (111,true),(.call (.func 117) [(.tmp 113),(.tmp 114)])⟩,⟨some 116,none,(.pick (.tmp 111) (.tmp 115) (.const (.bool false)))⟩,⟨some 8,none,(.mov (.tmp 116))⟩]) .ret) .skip)) (.seq (.region [⟨some 117,none,(.fld 6 (.tmp 5))⟩,⟨some 118,none,(.load false 1 (.tmp 117))⟩,⟨some 119,none,(.len (.tmp 118))⟩,⟨some 120,none,(.bin .eql (.tmp 119) (.const (.int .i64 0)))⟩,⟨some 121,none,(.mov (.tmp 120))⟩,⟨some 122,some (121,true),(.fld 5 (.tmp 5))⟩,⟨some 123,some (121,true),(.load false 1 (.tmp 122))⟩,⟨some 124,some (121,true),(.len (.tmp 123))⟩,⟨some 125,some (121,true),(.bin .leq (.tmp 124) (.const (.int .i64 4)))⟩,⟨some 126,none,(.pick (.tmp 121) (.tmp 125) (.const (.bool false)))⟩,⟨some 8,none,(.mov (.tmp 126))⟩]) .ret))))))
set_option maxRecDepth 100000 in
theorem tab91:tb.code 91=some ⟨127,[(8,none)],body91⟩:=by kernel_rfl
theorem zFg (h:AHeap) (vt vf:Value) (T:List LType) (F:List LFn) (x:LIns) (cs:List Value) (regs many:Int) (st:SlT h vt T) (sf:SlF h vf F) (hT:T.length≤1000) (hF:F.length≤1000) (hcs:RIns h cs x) (hx:x.args.length≤20∧x.frm.length≤20):
  WC Tryz.prog tb 91 [.agg #[vt,vf],.agg cs.toArray,I regs,I many] h fun r h'=>r= .bool (zBY x ⟨T.length,F.length,regs,many⟩)∧Ext h h':=by
 obtain⟨va,vfr,rfl,sa,sfr,hla,hlf,ho,ho2⟩:=id hcs
 obtain⟨aa,an,ak,rfl⟩:=yM sa
 obtain⟨fa,fn,fk,rfl⟩:=yM sfr
 obtain⟨ta,tn,tk,rfl⟩:=zE st
 obtain⟨ga,gn,gk,rfl⟩:=zE sf
 refine WC.mono (Q:=fun r h'=>(∃ b,r= .bool b∧(b=true↔MayI x ⟨T.length,F.length,regs,many⟩))∧Ext h h') ?_ ?_
 case refine_2=>
  rintro _ _ ⟨⟨b,rfl,hb⟩,e⟩
  exact⟨congrArg _ (by rw[Bool.eq_iff_iff,hb,insL_iff ho]),e⟩
 have hu:(zCe x).length≤22:=by unfold zCe;split<;>split<;>split<;>simp<;>omega
 refine WC.of (zG 91) tab91 ?_;simp only[zN,Nat.zero_add,Nat.reduceAdd]
 refine go ?_
 refine WO.bx ?_
 intro p h1 e1 o1
 refine go ?_
 refine WO.bx ?_
 intro q h2 e2 o2
 have o1:=o1.ext e2
 have e12:=e1.trans e2
 by_cases k1:1≤x.op
 case neg=>
  refine go ?_
  refine rt ?_
  exact⟨⟨_,rfl,by simp only[DBI];exact fun m=>k1 m.op.1⟩,e12⟩
 by_cases k22:x.op≤22
 case neg=>
  refine go ?_
  refine rt ?_
  exact⟨⟨_,rfl,by simp only[DBI];exact fun m=>k22 m.op.2⟩,e12⟩
 refine go ?_
 refine WO.con (ruses_ok h2 x _ (hcs.ext e12) hx.1) ?_
 rintro u h3 ⟨ou,e3⟩
 have o1:=o1.ext e3
 have o2:=o2.ext e3
 have e13:=e12.trans e3
 refine go ?_
 refine WO.con (Z2 h3 u _ regs ou.sl (by omega)) ?_
 rintro _ _ ⟨⟨b1,rfl,hb1⟩,rfl⟩
 cases b1 with
 |false=>
  refine go ?_
  refine rt ?_
  exact⟨⟨_,rfl,by simp only[DBI];exact fun m=>absurd (hb1.2 m.uses) Bool.noConfusion⟩,e13⟩
 |true=>
 have U:=Hid.mk (hb1.1 rfl)
 clear hb1
 refine go ?_
 refine WO.con (rmayN_ok h3 _ _ T F x _ (st.ext e13) (SlF.ext sf e13) hF (hcs.ext e13)) ?_
 rintro _ h4 ⟨⟨b2,rfl,hb2⟩,e4⟩
 have o1:=o1.ext e4
 have o2:=o2.ext e4
 have e14:=e13.trans e4
 have sa4:=sa.ext e14
 have sfr4:=sfr.ext e14
 have st4:=st.ext e14
 cases b2 with
 |false=>
  refine go ?_
  refine rt ?_
  exact⟨⟨_,rfl,by simp only[DBI];exact fun m=>absurd (hb2.2 m.num) Bool.noConfusion⟩,e14⟩
 |true=>
 have V:=Hid.mk (hb2.1 rfl)
 clear hb2 e1 e2 e12 e3 e13 e4 ou
 refine go ?_
 refine WO.con (zGo h4 x.op ho) ?_
 rintro _ _ ⟨rfl,rfl⟩
 refine WO.mid 29 (fun t' h'=>h4=h'∧∃ b,zB t' 61= .bool b∧(b=false↔((zb x.op).1=true∨x.a=0)∧((zb x.op).2.1=true∨x.b=0)∧((zb x.op).2.2.2.1=true∨(x.args.length:Int)≤0))) ?_ ?_<;>simp only[List.take_succ_cons,List.take_zero,List.drop_succ_cons,List.drop_zero]
 ·refine WO.mid 6 (fun t' h'=>h4=h'∧∃ b,zB t' 38= .bool b∧(b=false↔((zb x.op).1=true∨x.a=0))) ?_ ?_<;>simp only[List.take_succ_cons,List.take_zero,List.drop_succ_cons,List.drop_zero]
  ·cases hA:(zb x.op).1 with
   |true=>
    refine go ?_
    exact⟨rfl,rfl,rfl,_,sl_,by simp⟩
   |false=>
    refine go ?_
    exact⟨rfl,rfl,rfl,_,sl_,by simp⟩
  rintro t5 _ hs5 ⟨rfl,b5,q38,hb5⟩
  refine WO.mid 11 (fun t' h'=>h4=h'∧∃ b,zB t' 49= .bool b∧(b=false↔((zb x.op).1=true∨x.a=0)∧((zb x.op).2.1=true∨x.b=0))) ?_ ?_<;>simp only[List.take_succ_cons,List.take_zero,List.drop_succ_cons,List.drop_zero]
  ·cases b5 with
   |true=>
    refine go ?_
    exact⟨rfl,rfl,rfl,_,sl_,by rw[←hb5];simp⟩
   |false=>
    refine go ?_
    refine WO.con (two_ok h4 x.op ho) ?_
    rintro _ _ ⟨rfl,rfl⟩
    have h5:=hb5.1 rfl
    cases hB:(zb x.op).2.1 with
    |true=>
     refine go ?_
     exact⟨rfl,rfl,rfl,_,sl_,by simp[h5]⟩
    |false=>
     refine go ?_
     exact⟨rfl,rfl,rfl,_,sl_,by simp[h5]⟩
  rintro t6 _ hs6 ⟨rfl,b6,q49,hb6⟩
  rw[←and_assoc,←hb6]
  cases b6 with
  |true=>
   refine go ?_
   exact⟨rfl,rfl,rfl,_,sl_,by simp⟩
  |false=>
   refine go ?_
   refine WO.con (zG1 h4 x.op ho) ?_
   rintro _ _ ⟨rfl,rfl⟩
   cases hG:(zb x.op).2.2.2.1 with
   |true=>
    refine go ?_
    exact⟨rfl,rfl,rfl,_,sl_,by simp⟩
   |false=>
    refine go ?_
    exact⟨rfl,rfl,rfl,_,sl_,by simp only[DBI,true_and,Bool.false_eq_true,false_or];omega⟩
 rintro t5 _ hs5 ⟨rfl,b5,q61,hb5⟩
 cases b5 with
 |true=>
  refine go ?_
  refine rt ?_
  refine⟨⟨_,rfl,?_⟩,e14⟩
  simp only[DBI]
  exact fun m=>absurd (hb5.2 ⟨m.a,m.b,m.g⟩) Bool.noConfusion
 |false=>
 have W:=Hid.mk (hb5.1 rfl)
 clear hb5
 refine go ?_
 refine WO.con (zAY h4 x.op ho) ?_
 rintro _ _ ⟨rfl,rfl⟩
 refine WO.mid 24 (fun t' h'=>h4=h'∧∃ b,zB t' 88= .bool b∧(b=false↔if (zb x.op).2.2.2.2.2 then 0≤x.ty∧x.ty<(T.length:Int) else x.ty=0)) ?_ ?_<;>simp only[List.take_succ_cons,List.take_zero,List.drop_succ_cons,List.drop_zero]
 ·cases hS:(zb x.op).2.2.2.2.2 with
  |true=>
   simp only[if_true]
   by_cases c1:x.ty<0
   ·refine go ?_
    exact⟨rfl,rfl,rfl,_,sl_,by simp only[DBI];omega⟩
   by_cases c2:(T.length:Int)≤x.ty
   ·refine go ?_
    exact⟨rfl,rfl,rfl,_,sl_,by simp only[DBI];omega⟩
   ·refine go ?_
    refine WO.con (zAY h4 x.op ho) ?_
    rintro _ _ ⟨rfl,rfl⟩
    refine go ?_
    exact⟨rfl,rfl,rfl,_,sl_,by simp only[DBI];omega⟩
  |false=>
   simp only[Bool.false_eq_true,if_false]
   refine go ?_
   refine WO.con (zAY h4 x.op ho) ?_
   rintro _ _ ⟨rfl,rfl⟩
   refine go ?_
   exact⟨rfl,rfl,rfl,_,sl_,by simp⟩
 rintro t6 _ hs6 ⟨rfl,b6,q88,hb6⟩
 cases b6 with
 |true=>
  refine go ?_
  refine rt ?_
  refine⟨⟨_,rfl,?_⟩,e14⟩
  simp only[DBI]
  exact fun m=>absurd (hb6.2 m.ans) Bool.noConfusion
 |false=>
 have X:=Hid.mk (hb6.1 rfl)
 clear hb6
 have hf:=(Yg ho).2.2.2.2.1
 have mk:∀ q:Bool,(q=true↔if (zb x.op).2.2.2.2.1 then (x.frm.length:Int)=x.args.length∧1≤(x.frm.length:Int)∧(x.frm.length:Int)≤16∧Btw x.frm many else (x.frm.length:Int)=0∧(x.args.length:Int)≤4)→(q=true↔MayI x ⟨T.length,F.length,regs,many⟩):=fun q hq=>by
  rw[hq]
  exact⟨fun h=>⟨⟨k1,k22⟩,U.out,V.out,W.out.1,W.out.2.1,W.out.2.2,X.out,h⟩,fun m=>m.frm⟩
 replace mk:=Hid.mk mk
 by_cases k:x.op=22
 ·rw[hf.2 k]at mk
  simp only[if_true]at mk
  by_cases c1:(x.frm.length:Int)=x.args.length
  case neg=>
   refine go ?_
   refine rt ?_
   exact⟨⟨_,rfl,mk.out _ (by simp only[DBI];exact fun h=>c1 h.1)⟩,e14⟩
  by_cases c2:1≤(x.frm.length:Int)
  case neg=>
   refine go ?_
   refine rt ?_
   exact⟨⟨_,rfl,mk.out _ (by simp only[DBI];exact fun h=>c2 h.2.1)⟩,e14⟩
  by_cases c3:(x.frm.length:Int)≤16
  case neg=>
   refine go ?_
   refine rt ?_
   exact⟨⟨_,rfl,mk.out _ (by simp only[DBI];exact fun h=>c3 h.2.2.1)⟩,e14⟩
  refine go ?_
  refine WO.con (Z2 h4 _ x.frm many sfr4 (by omega)) ?_
  rintro _ _ ⟨⟨b,rfl,hb⟩,rfl⟩
  refine go ?_
  refine rt ?_
  exact⟨⟨_,rfl,mk.out _ (by rw[hb];exact⟨fun h=>⟨c1,c2,c3,h⟩,fun h=>h.2.2.2⟩)⟩,e14⟩
 ·have hf0:(zb x.op).2.2.2.2.1=false:=by cases hh:(zb x.op).2.2.2.2.1 with
   |false=>rfl
   |true=>exact absurd (hf.1 hh) k
  rw[hf0]at mk
  simp only[Bool.false_eq_true,if_false]at mk
  by_cases c1:(x.frm.length:Int)=0
  case neg=>
   refine go ?_
   refine rt ?_
   exact⟨⟨_,rfl,mk.out _ (by simp only[DBI];exact fun h=>c1 h.1)⟩,e14⟩
  refine go ?_
  refine rt ?_
  exact⟨⟨_,rfl,mk.out _ (by simp only[DBI];omega)⟩,e14⟩
noncomputable def body92:ACode:=(.seq (.region [⟨some 3,none,(.box (.tmp 0))⟩,⟨some 6,none,(.mov (.const (.bool false)))⟩]) (.seq (.seq (.region [⟨some 7,none,(.fld 0 (.tmp 3))⟩,⟨some 8,none,(.load false 1 (.tmp 7))⟩]) (.block 0 (.seq (.region [⟨some 10,none,(.bin .eql (.tmp 8) (.const (.int .u8 1)))⟩,⟨some 9,none,(.mov (.tmp 10))⟩]) (.cond (.tmp 9) (.seq (.region [⟨some 11,none,(.fld 1 (.tmp 3))⟩,⟨some 12,none,(.load false 1 (.tmp 11))⟩,⟨some 13,none,(.bin .eql (.tmp 12) (.const (.int .i64 0)))⟩,⟨some 14,none,(.mov (.tmp 13))⟩,⟨some 15,some (14,true),(.fld 3 (.tmp 3))⟩,⟨some 16,some (14,true),(.load false 1 (.tmp 15))⟩,⟨some 17,some (14,true),(.bin .eql (.tmp 16) (.const (.int .i64 0)))⟩,⟨some 18,none,(.pick (.tmp 14) (.tmp 17) (.const (.bool false)))⟩,⟨some 19,none,(.mov (.tmp 18))⟩,⟨some 20,some (19,true),(.fld 2 (.tmp 3))⟩,⟨some 21,some (19,true),(.load false 1 (.tmp 20))⟩,⟨some 22,some (19,true),(.buildSlice 1 1 [(.int .i64 0)] [(0,1,(.tmp 21))])⟩,⟨some 23,some (19,true),(.mov (.tmp 2))⟩,⟨some 24,some (19,true),(.call (.func 117) [(.tmp 22),(.tmp 23)])⟩,⟨some 25,none,(.pick (.tmp 19) (.tmp 24) (.const (.bool false)))⟩,⟨some 6,none,(.mov (.tmp 25))⟩]) .ret) (.seq (.region [⟨some 27,none,(.bin .eql (.tmp 8) (.const (.int .u8 2)))⟩,⟨some 26,none,(.mov (.tmp 27))⟩]) (.cond (.tmp 26) (.seq (.region [⟨some 28,none,(.fld 1 (.tmp 3))⟩,⟨some 29,none,(.load false 1 (.tmp 28))⟩,⟨some 30,none,(.buildSlice 1 1 [(.int .i64 0)] [(0,1,(.tmp 29))])⟩,⟨some 31,none,(.mov (.tmp 1))⟩,⟨some 32,none,(.call (.func 117) [(.tmp 30),(.tmp 31)])⟩,⟨some 33,none,(.mov (.tmp 32))⟩,⟨some 34,some (33,true),(.fld 2 (.tmp 3))⟩,⟨some 35,some (33,true),(.load false 1 (.tmp 34))⟩,⟨some 36,some (33,true),(.fld 3 (.tmp 3))⟩,⟨some 37,some (33,true),(.load false 1 (.tmp 36))⟩,⟨some 38,some (33,true),(.buildSlice 2 1 [(.int .i64 0)] [(0,1,(.tmp 35)),(1,1,(.tmp 37))])⟩,⟨some 39,some (33,true),(.mov (.tmp 2))⟩,⟨some 40,some (33,true),(.call (.func 117) [(.tmp 38),(.tmp 39)])⟩,⟨some 41,none,(.pick (.tmp 33) (.tmp 40) (.const (.bool false)))⟩,⟨some 6,none,(.mov (.tmp 41))⟩]) .ret) (.seq (.region [⟨some 43,none,(.bin .eql (.tmp 8) (.const (.int .u8 3)))⟩,⟨some 42,none,(.mov (.tmp 43))⟩]) (.cond (.tmp 42) (.seq (.region [⟨some 44,none,(.fld 2 (.tmp 3))⟩,⟨some 45,none,(.load false 1 (.tmp 44))⟩,⟨some 46,none,(.bin .eql (.tmp 45) (.const (.int .i64 0)))⟩,⟨some 47,none,(.mov (.tmp 46))⟩,⟨some 48,some (47,true),(.fld 3 (.tmp 3))⟩,⟨some 49,some (47,true),(.load false 1 (.tmp 48))⟩,⟨some 50,some (47,true),(.bin .eql (.tmp 49) (.const (.int .i64 0)))⟩,⟨some 51,none,(.pick (.tmp 47) (.tmp 50) (.const (.bool false)))⟩,⟨some 52,none,(.mov (.tmp 51))⟩,⟨some 53,some (52,true),(.fld 1 (.tmp 3))⟩,⟨some 54,some (52,true),(.load false 1 (.tmp 53))⟩,⟨some 55,some (52,true),(.buildSlice 1 1 [(.int .i64 0)] [(0,1,(.tmp 54))])⟩,⟨some 56,some (52,true),(.mov (.tmp 1))⟩,⟨some 57,some (52,true),(.call (.func 117) [(.tmp 55),(.tmp 56)])⟩,⟨some 58,none,(.pick (.tmp 52) (.tmp 57) (.const (.bool false)))⟩,⟨some 6,none,(.mov (.tmp 58))⟩]) .ret) .skip)))))))) (.seq (.region [⟨some 6,none,(.mov (.const (.bool false)))⟩]) .ret)))
set_option maxRecDepth 100000 in
theorem tab92:tb.code 92=some ⟨59,[(6,none)],body92⟩:=by kernel_rfl
theorem zGL (h:AHeap) (x:LEnd) (T F regs many:Int):
  WC Tryz.prog tb 92 [.agg #[.int .u8 x.kind,I x.a,I x.to,I x.els],I regs,I many] h fun r h'=>r= .bool (Yw x ⟨T,F,regs,many⟩)∧Ext h h':=by
 refine WC.mono (Q:=fun r h'=>(∃ b,r= .bool b∧(b=true↔(x.kind=1∧x.a=0∧x.els=0∧Btw [x.to] many)∨(x.kind=2∧Btw [x.a] regs∧Btw [x.to,x.els] many)∨(x.kind=3∧x.to=0∧x.els=0∧Btw [x.a] regs)))∧Ext h h') ?_ ?_
 case refine_2=>
  rintro _ _ ⟨⟨b,rfl,hb⟩,e⟩
  exact⟨congrArg _ (by rw[Bool.eq_iff_iff,hb,endL_iff]),e⟩
 refine WC.of (zG 92) tab92 ?_;simp only[zN,Nat.zero_add,Nat.reduceAdd]
 refine go ?_
 refine WO.bx ?_
 intro p h1 e1 o1
 by_cases k1:x.kind=1
 ·by_cases c1:x.a=0
  case neg=>
   refine go ?_
   refine rt ?_
   exact⟨⟨_,rfl,by simp only[DBI];omega⟩,e1⟩
  by_cases c2:x.els=0
  case neg=>
   refine go ?_
   refine rt ?_
   exact⟨⟨_,rfl,by simp only[DBI];omega⟩,e1⟩
  refine go ?_
  refine WO.bl [x.to] ?_
  intro v h2 e2 o2
  refine go ?_
  refine WO.con (Z2 h2 v _ many o2.sl (by simp)) ?_
  rintro _ _ ⟨⟨b,rfl,hb⟩,rfl⟩
  refine go ?_
  refine rt ?_
  refine⟨⟨_,rfl,?_⟩,e1.trans e2⟩
  rw[hb];simp[k1,c1,c2]
 by_cases k2:x.kind=2
 ·refine go ?_
  refine WO.bl [x.a] ?_
  intro v h2 e2 o2
  have o1:=o1.ext e2
  refine go ?_
  refine WO.con (Z2 h2 v _ regs o2.sl (by simp)) ?_
  rintro _ _ ⟨⟨b,rfl,hb⟩,rfl⟩
  cases b with
  |false=>
   have hn:¬Btw [x.a] regs:=fun hh=>absurd (hb.2 hh) Bool.noConfusion
   refine go ?_
   refine rt ?_
   refine⟨⟨_,rfl,?_⟩,e1.trans e2⟩
   simp[k2,hn]
  |true=>
   have hn:=hb.1 rfl
   refine go ?_
   refine WO.bl [x.to,x.els] ?_
   intro v h3 e3 o3
   refine go ?_
   refine WO.con (Z2 h3 v _ many o3.sl (by simp)) ?_
   rintro _ _ ⟨⟨b,rfl,hb⟩,rfl⟩
   refine go ?_
   refine rt ?_
   refine⟨⟨_,rfl,?_⟩,(e1.trans e2).trans e3⟩
   rw[hb];simp[k2,hn]
 by_cases k3:x.kind=3
 ·by_cases c1:x.to=0
  case neg=>
   refine go ?_
   refine rt ?_
   exact⟨⟨_,rfl,by simp only[DBI];omega⟩,e1⟩
  by_cases c2:x.els=0
  case neg=>
   refine go ?_
   refine rt ?_
   exact⟨⟨_,rfl,by simp only[DBI];omega⟩,e1⟩
  refine go ?_
  refine WO.bl [x.a] ?_
  intro v h2 e2 o2
  refine go ?_
  refine WO.con (Z2 h2 v _ regs o2.sl (by simp)) ?_
  rintro _ _ ⟨⟨b,rfl,hb⟩,rfl⟩
  refine go ?_
  refine rt ?_
  refine⟨⟨_,rfl,?_⟩,e1.trans e2⟩
  rw[hb];simp[k3,c1,c2]
 ·refine go ?_
  refine rt ?_
  exact⟨⟨_,rfl,by simp only[DBI];omega⟩,e1⟩
end Go.Proofs.YtdcgdfbblnljjaaGreatDoor
namespace Go.Proofs.YtdcgdfbblnljjaaGreatDoor
open Go.Am
set_option linter.unusedVariables false
set_option linter.unusedSimpArgs false
set_option maxHeartbeats 1000000
theorem _root_.Go.Am.Ext.reg {h h':AHeap} (e:Ext (inC (zF 0 h)) h'):Ext h (outC h (inC h')):=by
 have x:Ext h (outC h h'):=Ext.outC e
 exact x
noncomputable def body62:ACode:=(.seq (.region [⟨some 2,none,(.box (.tmp 0))⟩,⟨some 3,none,(.box (.tmp 1))⟩,⟨some 4,none,(.mov (.const (.int .i64 0)))⟩]) (.seq (.region [⟨some 5,none,(.fld 0 (.tmp 2))⟩,⟨some 6,none,(.load false 1 (.tmp 5))⟩,⟨some 7,none,(.fld 0 (.tmp 3))⟩,⟨some 8,none,(.load false 1 (.tmp 7))⟩,⟨some 9,none,(.idx 4 (.tmp 6) (.tmp 8))⟩,⟨some 10,none,(.fld 3 (.tmp 9))⟩,⟨some 11,none,(.load false 1 (.tmp 10))⟩,⟨some 12,none,(.len (.tmp 11))⟩,⟨some 4,none,(.mov (.tmp 12))⟩]) .ret))
set_option maxRecDepth 100000 in
theorem tab62:tb.code 62=some ⟨13,[(4,none)],body62⟩:=by kernel_rfl
theorem zAi (h:AHeap) (vt vf vb:Value) (T:List LType) (F:List LFn) (sig:Int) (st:SlT h vt T) (sf:SlF h vf F) (hb:∃ a n k,vb= .slice a n k) (hs:0≤sig∧sig<(T.length:Int)) (hp:(T.getD sig.toNat default).parts.length≤1000):
  WC Tryz.prog tb 62 [.agg #[vt,vf],.agg #[I sig,vb]] h fun r h'=>r=I ((T.getD sig.toNat default).parts.length:Int)∧Ext h h':=by
 obtain⟨ta,tn,tk,rfl⟩:=zE st
 obtain⟨ga,gn,gk,rfl⟩:=zE sf
 obtain⟨ba,bn,bk,rfl⟩:=hb
 refine WC.of (zG 62) tab62 ?_;simp only[zN,Nat.zero_add,Nat.reduceAdd]
 refine go ?_
 refine WO.bx ?_
 intro p h1 e1 o1
 refine go ?_
 refine WO.bx ?_
 intro q h2 e2 o2
 have o1:=o1.ext e2
 have st2:=(st.ext e1).ext e2
 obtain⟨cs,⟨va,rfl,sa,hla⟩,pc,hss⟩:=ZR (i:=sig.toNat) st2 (by omega)
 refine go ?_
 refine rt ?_
 exact⟨rfl,e1.trans e2⟩
noncomputable def body63_0:ACode:=(.seq (.seq (.region [⟨some 5,none,(.mov (.tmp 4))⟩,⟨some 6,none,(.mov (.tmp 0))⟩,⟨some 7,none,(.len (.tmp 6))⟩,⟨some 8,none,(.bin .lss (.tmp 5) (.tmp 7))⟩]) (.cond (.tmp 8) .skip (.exit 0))) (.seq (.block 1 (.region [⟨some 11,none,(.mov (.tmp 3))⟩,⟨some 12,none,(.mov (.tmp 0))⟩,⟨some 13,none,(.mov (.tmp 4))⟩,⟨some 14,none,(.idx 5 (.tmp 12) (.tmp 13))⟩,⟨some 15,none,(.fld 0 (.tmp 14))⟩,⟨some 16,none,(.load false 1 (.tmp 15))⟩,⟨some 17,none,(.len (.tmp 16))⟩,⟨some 18,none,(.bin .add (.tmp 11) (.tmp 17))⟩,⟨some 3,none,(.mov (.tmp 18))⟩])) (.region [⟨some 9,none,(.mov (.tmp 4))⟩,⟨some 10,none,(.bin .add (.tmp 9) (.const (.int .i64 1)))⟩,⟨some 4,none,(.mov (.tmp 10))⟩])))
noncomputable def body63:ACode:=(.seq (.region [⟨some 2,none,(.mov (.const (.int .i64 0)))⟩]) (.seq (.region [⟨some 3,none,(.mov (.const (.int .i64 0)))⟩]) (.seq (.seq (.region [⟨some 4,none,(.mov (.const (.int .i64 0)))⟩]) (.block 0 (.loop body63_0))) (.seq (.region [⟨some 19,none,(.mov (.tmp 3))⟩,⟨some 2,none,(.mov (.tmp 19))⟩]) .ret))))
set_option maxRecDepth 100000 in
theorem tab63:tb.code 63=some ⟨20,[(2,none)],body63⟩:=by kernel_rfl
theorem zCc (l:List LBlk) {i:Nat} (h:i<l.length):zW (l.take (i+1))=zW (l.take i)+((l.getD i default).ins.length:Int):=by
 unfold zW
 rw[List.take_add_one,List.getElem?_eq_getElem h]
 simp only[List.map_append,List.sum_append,Option.toList_some,List.map_cons,List.map_nil,List.sum_cons,List.sum_nil,List.getD,List.getElem?_eq_getElem h,Option.getD_some,Int.add_zero]
theorem zBE {l:List LBlk} (h:∀ b∈l,b.ins.length≤1000):0≤zW l∧zW l≤1000 * l.length:=by
 unfold zW
 induction l with
 |nil=>simp
 |cons b l ih=>
  have h1:=h b (by simp)
  have:=ih fun x hx=>h x (by simp[hx])
  simp only[List.map_cons,List.sum_cons,List.length_cons];omega
theorem zAu (h:AHeap) (v:Value) (l:List LBlk) (s:SlB h v l) (hl:l.length≤1000) (hi:∀ b∈l,b.ins.length≤1000):
  WC Tryz.prog tb 63 [v] h fun r h'=>r=I (zW l)∧h=h':=by
 refine WC.of (zG 63) tab63 ?_;simp only[zN,Nat.zero_add,Nat.reduceAdd]
 refine go ?_
 refine WX.loopA [5,6,7,8,11,12,13,14,15,16,17,18,3,9,10,4] (by kernel_rfl) (fun i=>l.length - i) (fun i t h1=>h=h1∧zB t 4=I i∧i≤l.length∧zB t 3=I (zW (l.take i))) 0 ?_ ?_
 ·exact⟨rfl,sl_,Nat.zero_le _,sl_⟩
 rintro i t _ hsame ⟨rfl,s4,hin,s3⟩
 have hbd:=zBE (l:=l.take i) fun b hb=>hi b (List.mem_of_mem_take hb)
 have htl:(l.take i).length≤i:=List.length_take_le _ _
 refine go ?_
 refine WX.br (fun hc=> ?_) (fun hc=> ?_)<;>simp only[DB]at hc
 ·have hi':i<l.length:=by omega
  obtain⟨cs,⟨vi,rfl,si,hli⟩,pc,hs⟩:=zX s hi'
  have hmt:=zCc l hi'
  have hin2:=hi _ (zL (l:=l) hi')
  refine go ?_
  exact zA (i+1) (by omega) ⟨rfl,sln,by omega,by rw[hmt];exact sl_⟩
 ·have hii:i=l.length:=by omega
  subst hii
  rw[List.take_length]at s3
  refine go ?_
  refine rt ?_
  exact⟨rfl,rfl⟩
noncomputable def body76_0:ACode:=(.seq (.seq (.region [⟨some 61,none,(.mov (.tmp 7))⟩,⟨some 62,none,(.fld 1 (.tmp 3))⟩,⟨some 63,none,(.load false 1 (.tmp 62))⟩,⟨some 64,none,(.mov (.tmp 6))⟩,⟨some 65,none,(.idx 5 (.tmp 63) (.tmp 64))⟩,⟨some 66,none,(.fld 0 (.tmp 65))⟩,⟨some 67,none,(.load false 1 (.tmp 66))⟩,⟨some 68,none,(.len (.tmp 67))⟩,⟨some 69,none,(.bin .lss (.tmp 61) (.tmp 68))⟩]) (.cond (.tmp 69) .skip (.exit 2))) (.seq (.block 3 (.seq (.regionC [(⟨some 72,none,(.load true 2 (.tmp 2))⟩,[]),(⟨some 73,none,(.fld 1 (.tmp 3))⟩,[]),(⟨some 74,none,(.load false 1 (.tmp 73))⟩,[]),(⟨some 75,none,(.mov (.tmp 6))⟩,[]),(⟨some 76,none,(.idx 5 (.tmp 74) (.tmp 75))⟩,[]),(⟨some 77,none,(.fld 0 (.tmp 76))⟩,[]),(⟨some 78,none,(.load false 1 (.tmp 77))⟩,[]),(⟨some 79,none,(.mov (.tmp 7))⟩,[]),(⟨some 80,none,(.idx 7 (.tmp 78) (.tmp 79))⟩,[]),(⟨some 81,none,(.load true 7 (.tmp 80))⟩,[]),(⟨some 82,none,(.mov (.tmp 5))⟩,[]),(⟨some 83,none,(.fld 1 (.tmp 3))⟩,[]),(⟨some 84,none,(.load false 1 (.tmp 83))⟩,[]),(⟨some 85,none,(.len (.tmp 84))⟩,[]),(⟨some 86,none,(.call (.func 91) [(.tmp 72),(.tmp 81),(.tmp 82),(.tmp 85)])⟩,[]),(⟨some 87,none,(.un .not (.tmp 86))⟩,[])]) (.cond (.tmp 87) (.seq (.region [⟨some 4,none,(.mov (.const (.bool false)))⟩]) .ret) .skip))) (.region [⟨some 70,none,(.mov (.tmp 7))⟩,⟨some 71,none,(.bin .add (.tmp 70) (.const (.int .i64 1)))⟩,⟨some 7,none,(.mov (.tmp 71))⟩])))
noncomputable def body76_1:ACode:=(.seq (.seq (.region [⟨some 54,none,(.mov (.tmp 6))⟩,⟨some 55,none,(.fld 1 (.tmp 3))⟩,⟨some 56,none,(.load false 1 (.tmp 55))⟩,⟨some 57,none,(.len (.tmp 56))⟩,⟨some 58,none,(.bin .lss (.tmp 54) (.tmp 57))⟩]) (.cond (.tmp 58) .skip (.exit 0))) (.seq (.block 1 (.seq (.seq (.region [⟨some 7,none,(.mov (.const (.int .i64 0)))⟩]) (.block 2 (.loop body76_0))) (.seq (.regionC [(⟨some 88,none,(.fld 1 (.tmp 3))⟩,[]),(⟨some 89,none,(.load false 1 (.tmp 88))⟩,[]),(⟨some 90,none,(.mov (.tmp 6))⟩,[]),(⟨some 91,none,(.idx 5 (.tmp 89) (.tmp 90))⟩,[]),(⟨some 92,none,(.fld 1 (.tmp 91))⟩,[]),(⟨some 93,none,(.load true 4 (.tmp 92))⟩,[]),(⟨some 94,none,(.mov (.tmp 5))⟩,[]),(⟨some 95,none,(.fld 1 (.tmp 3))⟩,[]),(⟨some 96,none,(.load false 1 (.tmp 95))⟩,[]),(⟨some 97,none,(.len (.tmp 96))⟩,[]),(⟨some 98,none,(.call (.func 92) [(.tmp 93),(.tmp 94),(.tmp 97)])⟩,[]),(⟨some 99,none,(.un .not (.tmp 98))⟩,[])]) (.cond (.tmp 99) (.seq (.region [⟨some 4,none,(.mov (.const (.bool false)))⟩]) .ret) .skip)))) (.region [⟨some 59,none,(.mov (.tmp 6))⟩,⟨some 60,none,(.bin .add (.tmp 59) (.const (.int .i64 1)))⟩,⟨some 6,none,(.mov (.tmp 60))⟩])))
noncomputable def body76:ACode:=(.seq (.region [⟨some 2,none,(.box (.tmp 0))⟩,⟨some 3,none,(.box (.tmp 1))⟩,⟨some 4,none,(.mov (.const (.bool false)))⟩]) (.seq (.seq (.region [⟨some 8,none,(.fld 0 (.tmp 3))⟩,⟨some 9,none,(.load false 1 (.tmp 8))⟩,⟨some 10,none,(.bin .lss (.tmp 9) (.const (.int .i64 0)))⟩,⟨some 11,none,(.mov (.tmp 10))⟩,⟨some 12,some (11,false),(.fld 0 (.tmp 3))⟩,⟨some 13,some (11,false),(.load false 1 (.tmp 12))⟩,⟨some 14,some (11,false),(.fld 0 (.tmp 2))⟩,⟨some 15,some (11,false),(.load false 1 (.tmp 14))⟩,⟨some 16,some (11,false),(.len (.tmp 15))⟩,⟨some 17,some (11,false),(.bin .geq (.tmp 13) (.tmp 16))⟩,⟨some 18,none,(.pick (.tmp 11) (.const (.bool true)) (.tmp 17))⟩,⟨some 19,none,(.mov (.tmp 18))⟩,⟨some 20,some (19,false),(.fld 0 (.tmp 2))⟩,⟨some 21,some (19,false),(.load false 1 (.tmp 20))⟩,⟨some 22,some (19,false),(.fld 0 (.tmp 3))⟩,⟨some 23,some (19,false),(.load false 1 (.tmp 22))⟩,⟨some 24,some (19,false),(.idx 4 (.tmp 21) (.tmp 23))⟩,⟨some 25,some (19,false),(.fld 0 (.tmp 24))⟩,⟨some 26,some (19,false),(.load false 1 (.tmp 25))⟩,⟨some 27,some (19,false),(.bin .neq (.tmp 26) (.const (.int .u8 3)))⟩,⟨some 28,none,(.pick (.tmp 19) (.const (.bool true)) (.tmp 27))⟩,⟨some 29,none,(.mov (.tmp 28))⟩,⟨some 30,some (29,false),(.fld 1 (.tmp 3))⟩,⟨some 31,some (29,false),(.load false 1 (.tmp 30))⟩,⟨some 32,some (29,false),(.len (.tmp 31))⟩,⟨some 33,some (29,false),(.bin .lss (.tmp 32) (.const (.int .i64 1)))⟩,⟨some 34,none,(.pick (.tmp 29) (.const (.bool true)) (.tmp 33))⟩,⟨some 35,none,(.mov (.tmp 34))⟩,⟨some 36,some (35,false),(.fld 1 (.tmp 3))⟩,⟨some 37,some (35,false),(.load false 1 (.tmp 36))⟩,⟨some 38,some (35,false),(.len (.tmp 37))⟩,⟨some 39,some (35,false),(.bin .gtr (.tmp 38) (.const (.int .i64 16)))⟩,⟨some 40,none,(.pick (.tmp 35) (.const (.bool true)) (.tmp 39))⟩,⟨some 41,none,(.mov (.tmp 40))⟩,⟨some 42,some (41,false),(.fld 1 (.tmp 3))⟩,⟨some 43,some (41,false),(.load false 1 (.tmp 42))⟩,⟨some 44,some (41,false),(.call (.func 63) [(.tmp 43)])⟩,⟨some 45,some (41,false),(.bin .gtr (.tmp 44) (.const (.int .i64 128)))⟩,⟨some 46,none,(.pick (.tmp 41) (.const (.bool true)) (.tmp 45))⟩]) (.cond (.tmp 46) (.seq (.region [⟨some 4,none,(.mov (.const (.bool false)))⟩]) .ret) .skip)) (.seq (.regionC [(⟨some 47,none,(.load true 2 (.tmp 2))⟩,[]),(⟨some 48,none,(.load true 2 (.tmp 3))⟩,[]),(⟨some 49,none,(.call (.func 62) [(.tmp 47),(.tmp 48)])⟩,[]),(⟨some 50,none,(.fld 1 (.tmp 3))⟩,[]),(⟨some 51,none,(.load false 1 (.tmp 50))⟩,[2]),(⟨some 52,none,(.call (.func 63) [(.tmp 51)])⟩,[]),(⟨some 53,none,(.bin .add (.tmp 49) (.tmp 52))⟩,[]),(⟨some 5,none,(.mov (.tmp 53))⟩,[])]) (.seq (.seq (.region [⟨some 6,none,(.mov (.const (.int .i64 0)))⟩]) (.block 0 (.loop body76_1))) (.seq (.region [⟨some 4,none,(.mov (.const (.bool true)))⟩]) .ret)))))
set_option maxRecDepth 100000 in
theorem tab76:tb.code 76=some ⟨100,[(4,none)],body76⟩:=by kernel_rfl
theorem zEn (h:AHeap) (vt vf:Value) (T:List LType) (F:List LFn) (f:LFn) (cs:List Value) (sm:Small T F) (si:zCZ F) (hf:f∈F) (hm:h.mark≤h.n) (st:SlT h vt T) (sf:SlF h vf F) (hcs:RFn h cs f):
  WC Tryz.prog tb 76 [.agg #[vt,vf],.agg cs.toArray] h fun r h'=>r= .bool (fnL T F.length f)∧Ext h h':=by
 obtain⟨vb,rfl,sb,hlb⟩:=hcs
 obtain⟨ta,tn,tk,rfl⟩:=zE st
 obtain⟨ga,gn,gk,rfl⟩:=zE sf
 obtain⟨ba,bn,bk,rfl⟩:=zE sb
 have hT:=sm.types
 have hF:=sm.funcs
 have hB:=sm.blocks f hf
 have hI:=sm.ins f hf
 have hX:=si f hf
 have hmany:=zBE hI
 refine WC.of (zG 76) tab76 ?_;simp only[zN,Nat.zero_add,Nat.reduceAdd]
 refine go ?_
 refine WO.bx ?_
 intro p h1 e1 o1
 refine go ?_
 refine WO.bx ?_
 intro q h2 e2 o2
 have o1:=o1.ext e2
 have e12:=e1.trans e2
 have st2:=st.ext e12
 have sf2:=SlF.ext sf e12
 have sb2:=SlB.ext sb e12
 have hm2:=zh e12 hm
 have bad:Yv T f=true→fnL T F.length f=false:=fun h=>by unfold fnL;rw[if_pos h]
 have badI:Yv T f=true↔¬((0≤f.sig∧f.sig<(T.length:Int))∧(T.getD f.sig.toNat default).kind=3∧(1≤(f.blocks.length:Int)∧(f.blocks.length:Int)≤16)∧zW f.blocks≤128):=by
  unfold Yv zM
  simp only[Bool.or_eq_true,Bool.not_eq_true',Bool.and_eq_false_iff,decide_eq_false_iff_not,decide_eq_true_eq]
  omega
 by_cases c1:0≤f.sig
 case neg=>
  refine go ?_
  refine rt ?_
  exact⟨by rw[bad (badI.2 fun h=>c1 h.1.1)];rfl,e12⟩
 by_cases c2:f.sig<(T.length:Int)
 case neg=>
  refine go ?_
  refine rt ?_
  exact⟨by rw[bad (badI.2 fun h=>c2 h.1.2)];rfl,e12⟩
 have hpart:=sm.parts _ (zL (l:=T) (i:=f.sig.toNat) (by omega))
 obtain⟨csT,⟨vp,rfl,sp,hlp⟩,pcT,hsT⟩:=ZR (i:=f.sig.toNat) st2 (by omega)
 by_cases c3:(T.getD f.sig.toNat default).kind=3
 case neg=>
  refine go ?_
  refine rt ?_
  exact⟨by rw[bad (badI.2 fun h=>c3 h.2.1)];simp[one,c3],e12⟩
 by_cases c4:1≤(f.blocks.length:Int)
 case neg=>
  refine go ?_
  refine rt ?_
  exact⟨by rw[bad (badI.2 fun h=>c4 h.2.2.1.1)];rfl,e12⟩
 by_cases c5:(f.blocks.length:Int)≤16
 case neg=>
  refine go ?_
  refine rt ?_
  exact⟨by rw[bad (badI.2 fun h=>c5 h.2.2.1.2)];rfl,e12⟩
 refine go ?_
 refine WO.con (zAu h2 _ f.blocks sb2 hB hI) ?_
 rintro _ _ ⟨rfl,rfl⟩
 by_cases c6:zW f.blocks≤128
 case neg=>
  refine go ?_
  refine rt ?_
  exact⟨by rw[bad (badI.2 fun h=>c6 h.2.2.2)];rfl,e12⟩
 have hbadF:Yv T f=false:=by
  cases hh:Yv T f with
  |false=>rfl
  |true=>exact absurd ⟨⟨c1,c2⟩,c3,⟨c4,c5⟩,c6⟩ (badI.1 hh)
 have hfn:fnL T F.length f= !(f.blocks.any fun b=>zAl b (szL T F.length f)):=by unfold fnL;rw[hbadF];rfl
 rw[hfn]
 clear bad badI hbadF hfn
 refine go ?_
 refine WX.regionU2 0 rfl rfl ?_
 have o1X:OwnC h (inC (zF 0 h2)) p [_,_]:=o1
 have o2X:OwnC h1 (inC (zF 0 h2)) q [_,_]:=o2
 have stX:SlT (inC (zF 0 h2)) _ T:=st2
 have sfX:SlF (inC (zF 0 h2)) _ F:=sf2
 have sbX:SlB (inC (zF 0 h2)) _ f.blocks:=sb2
 refine goU ?_
 refine WO.con (zAi (inC (zF 0 h2)) _ _ _ T F f.sig stX sfX ⟨_,_,_,rfl⟩ ⟨c1,c2⟩ (by omega)) ?_
 rintro _ h3 ⟨rfl,e3⟩
 refine WO.nil ?_
 refine zAU e3 yq ?_
 have o2Y:OwnC h1 (inC h3) q [I f.sig,.slice ba bn bk]:=by have:=o2X.ext e3;exact this
 have sbY:SlB (inC h3) (.slice ba bn bk) f.blocks:=by have:=SlB.ext sbX e3;exact this
 refine goU ?_
 refine zB8 o2 (Nat.le_refl _) ?_
 refine goU ?_
 refine WO.con (zAu (inC h3) _ f.blocks sbY hB hI) ?_
 rintro _ _ ⟨rfl,rfl⟩
 refine WO.nil ?_
 refine yo ?_
 refine goU ?_
 have e5:Ext h2 (outC h2 (inC h3)):=e3.reg
 obtain⟨h5,hh5⟩:∃ h5,h5=outC h2 (inC h3):=⟨_,rfl⟩
 rw[←hh5]at e5
 rw[←hh5]
 clear o1X o2X stX sfX sbX o2Y sbY e3 hh5
 have o1:=o1.ext e5
 have o2:=o2.ext e5
 have e15:=e12.trans e5
 have st5:=st2.ext e5
 have sf5:=SlF.ext sf2 e5
 have sb5:=SlB.ext sb2 e5
 have hsz:szL T F.length f=⟨T.length,F.length,((T.getD f.sig.toNat default).parts.length:Int)+zW f.blocks,f.blocks.length⟩:=rfl
 rw[hsz]
 clear hsz pcT sp e12 e1 e2
 generalize ((T.getD f.sig.toNat default).parts.length:Int)+zW f.blocks=regs at *
 obtain⟨s,hs⟩:∃ s:LSz,s=⟨T.length,F.length,regs,f.blocks.length⟩:=⟨_,rfl⟩
 rw[←hs]
 refine go ?_
 refine WX.loopA [54,55,56,57,58,7,61,62,63,64,65,66,67,68,69,72,73,74,75,76,77,78,79,80,81,82,83,84,85,86,87,4,70,71,7,88,89,90,91,92,93,94,95,96,97,98,99,4,59,60,6] (by kernel_rfl) (fun i=>f.blocks.length - i) (fun i t h6=>Ext h5 h6∧zB t 6=I i∧i≤f.blocks.length∧Hid (∀ j,j<i→zAl (f.blocks.getD j default) s=false)) 0 ?_ ?_
 ·exact⟨Ext.refl _,sl_,Nat.zero_le _,⟨fun j hj=>absurd hj (Nat.not_lt_zero _)⟩⟩
 rintro i t h6 hsame ⟨e6,s6,hi,hall⟩
 have o1:=o1.ext e6
 have o2:=o2.ext e6
 have e16:=e15.trans e6
 have st6:=st5.ext e6
 have sf6:=SlF.ext sf5 e6
 have sb6:=SlB.ext sb5 e6
 refine go ?_
 refine WX.br (fun hc=> ?_) (fun hc=> ?_)<;>simp only[DB]at hc
 case refine_2=>
  have hany:(f.blocks.any fun b=>zAl b s)=false:=Zh fun b hb=>by
   obtain⟨j,hj,rfl⟩:=yu hb
   exact hall.out j (by omega)
  refine go ?_
  refine rt ?_
  exact⟨by rw[hany];rfl,e16⟩
 have hi':i<f.blocks.length:=by omega
 obtain⟨csB,⟨vi,rfl,sn,hln⟩,pcB,hsB⟩:=zX sb6 hi'
 have hmemB:=zL (l:=f.blocks) hi'
 have hIB:=hI _ hmemB
 have hXB:=hX _ hmemB
 have bad:zAl (f.blocks.getD i default) s=true→(!f.blocks.any fun b=>zAl b s)=false:=fun hb=>by
  rw[List.any_eq_true.2 ⟨_,hmemB,hb⟩];rfl
 generalize hB0:f.blocks.getD i default=B at *
 refine go ?_
 refine WX.loopA [61,62,63,64,65,66,67,68,69,72,73,74,75,76,77,78,79,80,81,82,83,84,85,86,87,4,70,71,7] (by kernel_rfl) (fun k=>B.ins.length - k) (fun k t h7=>Ext h6 h7∧zB t 7=I k∧k≤B.ins.length∧Hid (∀ j,j<k→zBY (B.ins.getD j default) s=true)) 0 ?_ ?_
 ·exact⟨Ext.refl _,sl_,Nat.zero_le _,⟨fun j hj=>absurd hj (Nat.not_lt_zero _)⟩⟩
 rintro k t2 h7 hsame2 ⟨e7,s7,hk,hallk⟩
 have o1:=o1.ext e7
 have o2:=o2.ext e7
 have e17:=e16.trans e7
 have st7:=st6.ext e7
 have sf7:=SlF.ext sf6 e7
 have sb7:=SlB.ext sb6 e7
 obtain⟨csB,hcsB,pcB,hsB⟩:=zX sb7 hi'
 rw[hB0]at hcsB
 obtain⟨vi,rfl,sn,hln⟩:=hcsB
 refine go ?_
 refine WX.br (fun hd=> ?_) (fun hd=> ?_)<;>simp only[DB]at hd
 ·have hk':k<B.ins.length:=by omega
  have hmemI:=zL (l:=B.ins) hk'
  obtain⟨csI,hcsI,pcI,hsI⟩:=zX sn hk'
  obtain⟨va,vfr,rfl,sa,sfr,hla,hlf,ho,ho2⟩:=id hcsI
  refine go ?_
  refine WX.regionU2 0 rfl rfl ?_
  have o1X:OwnC h (inC (zF 0 h7)) p [_,_]:=o1
  have o2X:OwnC h1 (inC (zF 0 h7)) q [_,_]:=o2
  have stX:SlT (inC (zF 0 h7)) _ T:=st7
  have sfX:SlF (inC (zF 0 h7)) _ F:=sf7
  have sbX:SlB (inC (zF 0 h7)) _ f.blocks:=sb7
  obtain⟨csX,hcsX,pcX,hsX⟩:=zX sbX hi'
  rw[hB0]at hcsX
  obtain⟨viX,rfl,snX,hlnX⟩:=hcsX
  obtain⟨csIX,riX,pcIX,hsIX⟩:=zX snX hk'
  obtain⟨vaX,vfrX,rfl,saX,sfrX,_,_,_,_⟩:=id riX
  obtain⟨xa,xn,xk,rfl⟩:=yM saX
  obtain⟨ya,yn,yk,rfl⟩:=yM sfrX
  refine goU ?_
  refine WO.con (zFg (inC (zF 0 h7)) _ _ T F (B.ins.getD k default) _ regs f.blocks.length stX sfX (by omega) (by omega) riX (hXB _ hmemI)) ?_
  rintro _ h8 ⟨rfl,e8⟩
  refine WO.nil ?_
  refine zAU e8 yq ?_
  refine goU ?_
  have e9:Ext h7 (outC h7 (inC h8)):=e8.reg
  obtain⟨h9,hh9⟩:∃ h9,h9=outC h7 (inC h8):=⟨_,rfl⟩
  rw[←hh9]at e9
  rw[←hh9]
  rw[←hs]
  clear o1X o2X stX sfX sbX pcX snX pcIX riX e8 hh9 saX sfrX
  cases hins:zBY (B.ins.getD k default) s with
  |false=>
   refine go ?_
   refine rt ?_
   refine⟨?_,e17.trans e9⟩
   rw[bad (by unfold zAl;rw[List.any_eq_true.2 ⟨_,hmemI,by rw[hins];rfl⟩];rfl)];rfl
  |true=>
   refine go ?_
   refine zA (k+1) (by omega) ⟨e7.trans e9,sln,by omega,⟨fun j hj=> ?_⟩⟩
   by_cases e:j=k
   ·subst e;exact hins
   ·exact hallk.out j (by omega)
 ·have hanyI:(B.ins.any fun x=> !zBY x s)=false:=Zh fun x hx=>by
   obtain⟨j,hj,rfl⟩:=yu hx
   rw[hallk.out j (by omega)];rfl
  refine go ?_
  refine WX.regionU2 0 rfl rfl ?_
  have o2X:OwnC h1 (inC (zF 0 h7)) q [_,_]:=o2
  have sbX:SlB (inC (zF 0 h7)) _ f.blocks:=sb7
  obtain⟨csX,hcsX,pcX,hsX⟩:=zX sbX hi'
  rw[hB0]at hcsX
  obtain⟨viX,rfl,snX,hlnX⟩:=hcsX
  obtain⟨xa,xn,xk,rfl⟩:=zE snX
  refine goU ?_
  refine WO.con (zGL (inC (zF 0 h7)) B.fin T.length F.length regs f.blocks.length) ?_
  rintro _ h8 ⟨rfl,e8⟩
  refine WO.nil ?_
  refine zAU e8 yq ?_
  refine goU ?_
  have e9:Ext h7 (outC h7 (inC h8)):=e8.reg
  obtain⟨h9,hh9⟩:∃ h9,h9=outC h7 (inC h8):=⟨_,rfl⟩
  rw[←hh9]at e9
  rw[←hh9]
  rw[←hs]
  clear o2X sbX pcX snX e8 hh9
  cases hend:Yw B.fin s with
  |false=>
   refine go ?_
   refine rt ?_
   refine⟨?_,e17.trans e9⟩
   rw[bad (by unfold zAl;rw[hend,hanyI];rfl)];rfl
  |true=>
   refine go ?_
   refine zA (i+1) (by omega) ⟨(e6.trans e7).trans e9,sln,by omega,⟨fun j hj=> ?_⟩⟩
   by_cases e:j=i
   ·subst e;rw[hB0];unfold zAl;rw[hend,hanyI];rfl
   ·exact hall.out j (by omega)
end Go.Proofs.YtdcgdfbblnljjaaGreatDoor
namespace Go.Proofs.YtdcgdfbblnljjaaGreatDoor
open Go.Am
set_option linter.unusedVariables false
set_option linter.unusedSimpArgs false
set_option maxHeartbeats 1000000
theorem _root_.Go.Am.OwnR.lt {α:Type} {c b:Nat} {R:AHeap→List Value→α→Prop} {h:AHeap} {v:Value} {xs:List α} (o:OwnR c R b h v xs) {g n k:Nat} (e:v= .slice (some ⟨g,0,none⟩) n k):b≤g∧g<h.n:=by
 rcases o with ⟨e2,_⟩|⟨g1,_,_,g2,g3,e2,_⟩
 ·rw[e2]at e;cases e
 ·rw[e2]at e;cases e;exact⟨g2,g3⟩
theorem zAH {hb h h':AHeap} {p w:Value} {l:List Int} (o:OwnN hb h w l) (u:UpdC p h h') (hp:∀ g,p= .pointer (some ⟨g,0,none⟩)→g<hb.n):OwnN hb h' w l:=by
 rcases o with o|⟨g,g1,g2,g3,g4⟩
 ·exact .inl o
 ·exact .inr ⟨g,g1,Nat.lt_of_lt_of_le g2 u.1,g3,(u.2 g g2 (fun e=>by have:=hp g e;omega)).trans g4⟩
theorem zAa {hb h:AHeap} {w:Value} {l:List Int} (o:OwnN hb h w l):∃ a n k,w= .slice a n k:=SlC.shape o.sl
theorem zCs {h0 h:AHeap} {p:Value} {cs:List Value} (o:OwnC h0 h p cs):∀ g,p= .pointer (some ⟨g,0,none⟩)→h0.n≤g∧g<h.n:=by
 obtain⟨g,a,b,rfl,_⟩:=o
 intro g' e;cases e;exact⟨a,b⟩
theorem dep_ty {hb h:AHeap} {x:LType} {w:Value} (o:OwnN hb h w x.parts) (hl:(x.parts.length:Int)≤9223372036854775807):Dep RTy h [.int .u8 x.kind,I x.elem,I x.many,w] x (fun k=>hb.n≤k∧k<h.n):=
 fun hx hk hn=>⟨w,rfl,o.depI (fun k o a b e=>hk k o ⟨a,b⟩ e) hn,hl⟩
theorem dep_ins {hb h:AHeap} {x:LIns} {va vf:Value} (oa:OwnN hb h va x.args) (of:OwnN hb h vf x.frm) (hla:(x.args.length:Int)≤1152921504606846976) (hlf:(x.frm.length:Int)≤1152921504606846976) (ho:0≤x.op∧x.op≤255):Dep RIns h [.int .u8 x.op,I x.ty,I x.a,I x.b,I x.n,va,vf] x (fun k=>hb.n≤k∧k<h.n):=
 fun hx hk hn=>⟨va,vf,rfl,oa.depI (fun k o a b e=>hk k o ⟨a,b⟩ e) hn,of.depI (fun k o a b e=>hk k o ⟨a,b⟩ e) hn,hla,hlf,ho⟩
theorem dep_blk {b:Nat} {h:AHeap} {x:LBlk} {vi:Value} (o:OwnR 7 RIns b h vi x.ins) (hl:(x.ins.length:Int)≤1152921504606846976):Dep RBlk h [vi,.int .u8 x.fin.kind,I x.fin.a,I x.fin.to,I x.fin.els] x (fun k=>b≤k∧k<h.n):=
 fun hx hk hn=>⟨vi,rfl,o.dep (fun k o a b e=>hk k o ⟨a,b⟩ e) hn,hl⟩
theorem dep_fn {b:Nat} {h:AHeap} {x:LFn} {vb:Value} (o:OwnR 5 RBlk b h vb x.blocks) (hl:(x.blocks.length:Int)≤1152921504606846976):Dep RFn h [I x.sig,vb] x (fun k=>b≤k∧k<h.n):=
 fun hx hk hn=>⟨vb,rfl,o.dep (fun k o a b e=>hk k o ⟨a,b⟩ e) hn,hl⟩
theorem YC {α:Type} {c b:Nat} {R:AHeap→List Value→α→Prop} {h:AHeap} {v:Value} {xs:List α} (o:OwnR c R b h v xs):∃ a n k,v= .slice a n k:=zE o.sl
theorem Yh {α:Type} [Inhabited α] {l:List α} {i:Nat} (h:i<l.length):l.take (i+1)=l.take i++[l.getD i default]:=by
 rw[List.take_add_one,List.getElem?_eq_getElem h]
 simp[List.getD,List.getElem?_eq_getElem h]
noncomputable def body18_0:ACode:=(.seq (.seq (.region [⟨some 6,none,(.mov (.tmp 4))⟩,⟨some 7,none,(.mov (.tmp 0))⟩,⟨some 8,none,(.len (.tmp 7))⟩,⟨some 9,none,(.bin .lss (.tmp 6) (.tmp 8))⟩]) (.cond (.tmp 9) .skip (.exit 0))) (.seq (.block 1 (.seq (.region [⟨some 12,none,(.mov (.tmp 0))⟩,⟨some 13,none,(.mov (.tmp 4))⟩,⟨some 14,none,(.idx 4 (.tmp 12) (.tmp 13))⟩,⟨some 15,none,(.load true 4 (.tmp 14))⟩,⟨some 5,none,(.alloc [(.int .u8 0),(.int .i64 0),(.int .i64 0),(.slice none 0 0)])⟩,⟨none,none,(.store 4 (.tmp 5) (.tmp 15))⟩]) (.seq (.region [⟨some 16,none,(.buildSlice 0 1 [(.int .i64 0)] [])⟩,⟨some 17,none,(.fld 3 (.tmp 5))⟩,⟨some 18,none,(.load false 1 (.tmp 17))⟩,⟨some 19,none,(.append 1 (.tmp 16) (.tmp 18))⟩,⟨some 20,none,(.fld 3 (.tmp 5))⟩,⟨none,none,(.store 1 (.tmp 20) (.tmp 19))⟩]) (.region [⟨some 21,none,(.mov (.tmp 3))⟩,⟨some 22,none,(.load true 4 (.tmp 5))⟩,⟨some 23,none,(.buildSlice 1 4 [(.int .u8 0),(.int .i64 0),(.int .i64 0),(.slice none 0 0)] [(0,4,(.tmp 22))])⟩,⟨some 24,none,(.append 4 (.tmp 21) (.tmp 23))⟩,⟨some 3,none,(.mov (.tmp 24))⟩])))) (.region [⟨some 10,none,(.mov (.tmp 4))⟩,⟨some 11,none,(.bin .add (.tmp 10) (.const (.int .i64 1)))⟩,⟨some 4,none,(.mov (.tmp 11))⟩])))
noncomputable def body18:ACode:=(.seq (.region [⟨some 2,none,(.mov (.const (.slice none 0 0)))⟩]) (.seq (.region [⟨some 3,none,(.mov (.const (.slice none 0 0)))⟩]) (.seq (.seq (.region [⟨some 4,none,(.mov (.const (.int .i64 0)))⟩]) (.block 0 (.loop body18_0))) (.seq (.region [⟨some 25,none,(.mov (.tmp 3))⟩,⟨some 2,none,(.mov (.tmp 25))⟩]) .ret))))
set_option maxRecDepth 100000 in
theorem tab18:tb.code 18=some ⟨26,[(2,none)],body18⟩:=by kernel_rfl
theorem zHd (h:AHeap) (vt:Value) (T:List LType) (st:SlT h vt T) (hT:T.length≤1000) (hp:∀ x∈T,x.parts.length≤1000):
  WC Tryz.prog tb 18 [vt] h fun r h'=>OwnR 4 RTy h.n h' r T∧Ext h h':=by
 refine WC.of (zG 18) tab18 ?_;simp only[zN,Nat.zero_add,Nat.reduceAdd]
 replace hp:=Hid.mk hp
 refine go ?_
 refine WX.loopA [6,7,8,9,12,13,14,15,5,16,17,18,19,20,21,22,23,24,3,10,11,4] (by kernel_rfl) (fun i=>T.length - i) (fun i t h1=>Ext h h1∧zB t 4=I i∧i≤T.length∧∃ w,zB t 3=w∧OwnR 4 RTy h.n h1 w (T.take i)) 0 ?_ ?_
 ·exact⟨Ext.refl _,sl_,Nat.zero_le _,_,sl_,OwnR.nil⟩
 rintro i t h1 hsame ⟨e1,s4,hi,w,s3,ow⟩
 have st1:=st.ext e1
 refine go ?_
 refine WX.br (fun hc=> ?_) (fun hc=> ?_)<;>simp only[DB]at hc
 ·have hi':i<T.length:=by omega
  obtain⟨cs,⟨va,rfl,sa,hla⟩,pc,hs⟩:=ZR st1 hi'
  have hpl:=hp.out _ (zL (l:=T) hi')
  have hsucc:=Yh (l:=T) hi'
  generalize T.getD i default=x at *
  obtain⟨aa,an,ak,rfl⟩:=yM sa
  refine go ?_
  refine WO.al ?_
  intro p h2 e2 o2
  have hpn:=zCs o2
  refine go ?_
  refine WO.stC0 o2 e2 ?_
  intro h3 e3 o3 u3
  have sa3:=sa.ext e3
  have e23:h2.n≤h3.n:=u3.1
  refine go ?_
  refine WO.bl [] ?_
  intro v4 h4 e4 o4
  have o3:=o3.ext e4
  have sa4:=sa3.ext e4
  refine go ?_
  refine WO.apN (h0:=h3) (.inr o4) sa4 e4 (by simp;omega) ?_
  intro v5 h5 e5 o5
  rw[List.nil_append]at o5
  obtain⟨b5,n5,k5,rfl⟩:=zAa o5
  have o3:=(by assumption:OwnC h1 h3 p _).ext e5
  refine go ?_
  refine WO.stC (cs:=[.slice b5 n5 k5]) (j:=3) (hl:=by simp[zg]) o3 (e3.trans e5) ?_
  intro h6 e6 o6 u6
  have o5':=zAH o5 u6 (fun g e=>by have:=(hpn g e).2;omega)
  have e06:=e1.trans e6
  refine go ?_
  have hn6:h3.n≤h6.n:=by have:=e5.n;have:=u6.1;omega
  have hn1:h1.n≤h3.n:=e3.n
  refine WO.apR x (fun k=>h3.n≤k∧k<h6.n) (ow.ext e6) e06 (Nat.le_refl _) (by have:=e1.n;omega) (by decide) (by rw[List.length_take];omega) (dep_ty o5' hla) (fun k hk=>⟨by have:=e1.n;omega,hk.2⟩) (fun g n k e hk=>by have:=(ow.lt e).2;omega) ?_
  intro v7 h7 lit e7 o7 _ _
  refine go ?_
  exact zA (i+1) (by omega) ⟨e7,sln,by omega,v7,sl_,by rw[hsucc];exact o7⟩
 ·have hii:i=T.length:=by omega
  subst hii
  rw[List.take_length]at ow
  refine go ?_
  refine rt ?_
  exact⟨ow,e1⟩
noncomputable def body19_0:ACode:=(.seq (.seq (.region [⟨some 20,none,(.mov (.tmp 6))⟩,⟨some 21,none,(.mov (.tmp 0))⟩,⟨some 22,none,(.mov (.tmp 4))⟩,⟨some 23,none,(.idx 5 (.tmp 21) (.tmp 22))⟩,⟨some 24,none,(.fld 0 (.tmp 23))⟩,⟨some 25,none,(.load false 1 (.tmp 24))⟩,⟨some 26,none,(.len (.tmp 25))⟩,⟨some 27,none,(.bin .lss (.tmp 20) (.tmp 26))⟩]) (.cond (.tmp 27) .skip (.exit 2))) (.seq (.block 3 (.seq (.region [⟨some 30,none,(.mov (.tmp 0))⟩,⟨some 31,none,(.mov (.tmp 4))⟩,⟨some 32,none,(.idx 5 (.tmp 30) (.tmp 31))⟩,⟨some 33,none,(.fld 0 (.tmp 32))⟩,⟨some 34,none,(.load false 1 (.tmp 33))⟩,⟨some 35,none,(.mov (.tmp 6))⟩,⟨some 36,none,(.idx 7 (.tmp 34) (.tmp 35))⟩,⟨some 37,none,(.load true 7 (.tmp 36))⟩,⟨some 7,none,(.alloc [(.int .u8 0),(.int .i64 0),(.int .i64 0),(.int .i64 0),(.int .i64 0),(.slice none 0 0),(.slice none 0 0)])⟩,⟨none,none,(.store 7 (.tmp 7) (.tmp 37))⟩]) (.seq (.region [⟨some 38,none,(.buildSlice 0 1 [(.int .i64 0)] [])⟩,⟨some 39,none,(.fld 5 (.tmp 7))⟩,⟨some 40,none,(.load false 1 (.tmp 39))⟩,⟨some 41,none,(.append 1 (.tmp 38) (.tmp 40))⟩,⟨some 42,none,(.fld 5 (.tmp 7))⟩,⟨none,none,(.store 1 (.tmp 42) (.tmp 41))⟩]) (.seq (.region [⟨some 43,none,(.buildSlice 0 1 [(.int .i64 0)] [])⟩,⟨some 44,none,(.fld 6 (.tmp 7))⟩,⟨some 45,none,(.load false 1 (.tmp 44))⟩,⟨some 46,none,(.append 1 (.tmp 43) (.tmp 45))⟩,⟨some 47,none,(.fld 6 (.tmp 7))⟩,⟨none,none,(.store 1 (.tmp 47) (.tmp 46))⟩]) (.region [⟨some 48,none,(.fld 0 (.tmp 5))⟩,⟨some 49,none,(.load false 1 (.tmp 48))⟩,⟨some 50,none,(.load true 7 (.tmp 7))⟩,⟨some 51,none,(.buildSlice 1 7 [(.int .u8 0),(.int .i64 0),(.int .i64 0),(.int .i64 0),(.int .i64 0),(.slice none 0 0),(.slice none 0 0)] [(0,7,(.tmp 50))])⟩,⟨some 52,none,(.append 7 (.tmp 49) (.tmp 51))⟩,⟨some 53,none,(.fld 0 (.tmp 5))⟩,⟨none,none,(.store 1 (.tmp 53) (.tmp 52))⟩]))))) (.region [⟨some 28,none,(.mov (.tmp 6))⟩,⟨some 29,none,(.bin .add (.tmp 28) (.const (.int .i64 1)))⟩,⟨some 6,none,(.mov (.tmp 29))⟩])))
noncomputable def body19_1:ACode:=(.seq (.seq (.region [⟨some 8,none,(.mov (.tmp 4))⟩,⟨some 9,none,(.mov (.tmp 0))⟩,⟨some 10,none,(.len (.tmp 9))⟩,⟨some 11,none,(.bin .lss (.tmp 8) (.tmp 10))⟩]) (.cond (.tmp 11) .skip (.exit 0))) (.seq (.block 1 (.seq (.region [⟨some 14,none,(.mov (.tmp 0))⟩,⟨some 15,none,(.mov (.tmp 4))⟩,⟨some 16,none,(.idx 5 (.tmp 14) (.tmp 15))⟩,⟨some 17,none,(.fld 1 (.tmp 16))⟩,⟨some 18,none,(.load true 4 (.tmp 17))⟩,⟨some 19,none,(.build [(.slice none 0 0),(.int .u8 0),(.int .i64 0),(.int .i64 0),(.int .i64 0)] [(1,4,(.tmp 18))])⟩,⟨some 5,none,(.alloc [(.slice none 0 0),(.int .u8 0),(.int .i64 0),(.int .i64 0),(.int .i64 0)])⟩,⟨none,none,(.store 5 (.tmp 5) (.tmp 19))⟩]) (.seq (.seq (.region [⟨some 6,none,(.mov (.const (.int .i64 0)))⟩]) (.block 2 (.loop body19_0))) (.region [⟨some 54,none,(.mov (.tmp 3))⟩,⟨some 55,none,(.load true 5 (.tmp 5))⟩,⟨some 56,none,(.buildSlice 1 5 [(.slice none 0 0),(.int .u8 0),(.int .i64 0),(.int .i64 0),(.int .i64 0)] [(0,5,(.tmp 55))])⟩,⟨some 57,none,(.append 5 (.tmp 54) (.tmp 56))⟩,⟨some 3,none,(.mov (.tmp 57))⟩])))) (.region [⟨some 12,none,(.mov (.tmp 4))⟩,⟨some 13,none,(.bin .add (.tmp 12) (.const (.int .i64 1)))⟩,⟨some 4,none,(.mov (.tmp 13))⟩])))
noncomputable def body19:ACode:=(.seq (.region [⟨some 2,none,(.mov (.const (.slice none 0 0)))⟩]) (.seq (.region [⟨some 3,none,(.mov (.const (.slice none 0 0)))⟩]) (.seq (.seq (.region [⟨some 4,none,(.mov (.const (.int .i64 0)))⟩]) (.block 0 (.loop body19_1))) (.seq (.region [⟨some 58,none,(.mov (.tmp 3))⟩,⟨some 2,none,(.mov (.tmp 58))⟩]) .ret))))
set_option maxRecDepth 100000 in
theorem tab19:tb.code 19=some ⟨59,[(2,none)],body19⟩:=by kernel_rfl
theorem zHP (h:AHeap) (vb:Value) (L:List LBlk) (sb:SlB h vb L) (hL:L.length≤1000) (hI:∀ b∈L,b.ins.length≤1000) (hX:∀ b∈L,∀ x∈b.ins,x.args.length≤20∧x.frm.length≤20):
  WC Tryz.prog tb 19 [vb] h fun r h'=>OwnR 5 RBlk h.n h' r L∧Ext h h':=by
 refine WC.of (zG 19) tab19 ?_;simp only[zN,Nat.zero_add,Nat.reduceAdd]
 replace hI:=Hid.mk hI
 replace hX:=Hid.mk hX
 refine go ?_
 refine WX.loopA [8,9,10,11,14,15,16,17,18,19,5,6,20,21,22,23,24,25,26,27,30,31,32,33,34,35,36,37,7,38,39,40,41,42,43,44,45,46,47,48,49,50,51,52,53,28,29,6,54,55,56,57,3,12,13,4] (by kernel_rfl) (fun i=>L.length - i) (fun i t h1=>Ext h h1∧zB t 4=I i∧i≤L.length∧∃ w,zB t 3=w∧OwnR 5 RBlk h.n h1 w (L.take i)) 0 ?_ ?_
 ·exact⟨Ext.refl _,sl_,Nat.zero_le _,_,sl_,OwnR.nil⟩
 rintro i t h1 hsame ⟨e1,s4,hi,w,s3,ow⟩
 have sb1:=SlB.ext sb e1
 refine go ?_
 refine WX.br (fun hc=> ?_) (fun hc=> ?_)<;>simp only[DB]at hc
 ·have hi':i<L.length:=by omega
  obtain⟨cs,⟨vi,rfl,si,hli⟩,pc,hs⟩:=zX sb1 hi'
  have hIl:=hI.out _ (zL (l:=L) hi')
  have hXl:=hX.out _ (zL (l:=L) hi')
  have hsucc:=Yh (l:=L) hi'
  obtain⟨B,hB0⟩:∃ B,L.getD i default=B:=⟨_,rfl⟩
  rw[hB0]at si hli hIl hXl hsucc pc
  replace hXl:=Hid.mk hXl
  have pf:Piece h1 vb (i * 5) [vi,.int .u8 B.fin.kind,I B.fin.a,I B.fin.to,I B.fin.els]:=pc
  obtain⟨ia,iN,ik,rfl⟩:=zE si
  refine go ?_
  refine WO.al ?_
  intro p h2 e2 o2
  have hpn:=zCs o2
  refine go ?_
  refine WO.stC0 o2 e2 ?_
  intro h3 e3 o3 u3
  have hn3:h2.n≤h3.n:=u3.1
  refine go ?_
  refine WX.loopA [20,21,22,23,24,25,26,27,30,31,32,33,34,35,36,37,7,38,39,40,41,42,43,44,45,46,47,48,49,50,51,52,53,28,29,6] (by kernel_rfl) (fun k=>B.ins.length - k) (fun k t h4=>Ext h1 h4∧h3.n≤h4.n∧zB t 6=I k∧k≤B.ins.length∧∃ v',OwnC h1 h4 p [v',.int .u8 B.fin.kind,I B.fin.a,I B.fin.to,I B.fin.els]∧OwnR 7 RIns h3.n h4 v' (B.ins.take k)) 0 ?_ ?_
  ·exact⟨e3,Nat.le_refl _,sl_,Nat.zero_le _,_,o3,OwnR.nil⟩
  rintro k t2 h4 hsame2 ⟨e4,hn4,s6,hk,v',o4,ov⟩
  have sb4:=SlB.ext sb1 e4
  obtain⟨cs4,hcs4,pc4,hs4⟩:=zX sb4 hi'
  rw[hB0]at hcs4
  obtain⟨vi4,rfl,si4,hli4⟩:=hcs4
  obtain⟨va',vn',vk',rfl⟩:=YC ov
  refine go ?_
  refine WX.br (fun hd=> ?_) (fun hd=> ?_)<;>simp only[DB]at hd
  ·have hk':k<B.ins.length:=by omega
   obtain⟨csx,⟨xa,xf,rfl,sxa,sxf,hla,hlf,ho⟩,pcx,hsx⟩:=zX si4 hk'
   have hxl:=hXl.out _ (zL (l:=B.ins) hk')
   have hsuccI:=Yh (l:=B.ins) hk'
   generalize B.ins.getD k default=x at *
   obtain⟨a1,a2,a3,rfl⟩:=yM sxa
   obtain⟨f1,f2,f3,rfl⟩:=yM sxf
   refine go ?_
   refine WO.al ?_
   intro q h5 e5 o5
   have hqn:=zCs o5
   have o4':=o4.ext e5
   refine go ?_
   refine WO.stC0 o5 e5 ?_
   intro h6 e6 o6 u6
   have hn6:h5.n≤h6.n:=u6.1
   have hn46:=e6.n
   have sxa6:=sxa.ext e6
   have sxf6:=sxf.ext e6
   have o4'':=o4.ext e6
   refine go ?_
   refine WO.bl [] ?_
   intro v7 h7 e7 o7
   have o6:=o6.ext e7
   have sxa7:=sxa6.ext e7
   refine go ?_
   refine WO.apN (h0:=h6) (.inr o7) sxa7 e7 (by simp;omega) ?_
   intro v8 h8 e8 o8
   rw[List.nil_append]at o8
   obtain⟨b8,n8,k8,rfl⟩:=zAa o8
   have o6:=(by assumption:OwnC h4 h6 q _).ext e8
   refine go ?_
   refine WO.stC (cs:=[.slice b8 n8 k8]) (j:=5) (hl:=by simp[zg]) o6 (e6.trans e8) ?_
   intro h9 e9 o9 u9
   have o8:=zAH o8 u9 (fun g e=>by have:=(hqn g e).2;omega)
   have sxf9:=sxf.ext e9
   have hn9:h6.n≤h9.n:=by have:=e8.n;have:=u9.1;omega
   refine go ?_
   refine WO.bl [] ?_
   intro v10 h10 e10 o10
   have o9:=o9.ext e10
   have sxf10:=sxf9.ext e10
   have o8:=o8.ext e10
   refine go ?_
   refine WO.apN (h0:=h9) (.inr o10) sxf10 e10 (by simp;omega) ?_
   intro v11 h11 e11 o11
   rw[List.nil_append]at o11
   obtain⟨b11,n11,k11,rfl⟩:=zAa o11
   have o8:=(by assumption:OwnN h6 h9 (.slice b8 n8 k8) x.args).ext e11
   have o9:=(by assumption:OwnC h4 h9 q _).ext e11
   refine go ?_
   refine WO.stC (cs:=[.slice b11 n11 k11]) (j:=6) (hl:=by simp[zg]) o9 (e9.trans e11) ?_
   intro h12 e12 o12 u12
   have hn12:h9.n≤h12.n:=by have:=e11.n;have:=u12.1;omega
   have o8:=zAH o8 u12 (fun g e=>by have:=(hqn g e).2;omega)
   have o11:=zAH o11 u12 (fun g e=>by have:=(hqn g e).2;omega)
   have o12p:=o4.ext e12
   have ov12:=ov.ext e12
   refine go ?_
   have o11':OwnN h6 h12 (.slice b11 n11 k11) x.frm:=by
    rcases o11 with o|⟨g,g1,g2⟩
    ·exact .inl o
    ·exact .inr ⟨g,by omega,g2⟩
   have hh1:=e3.n
   refine WO.apR x (fun k=>h6.n≤k∧k<h12.n) ov12 (e4.trans e12) hh1 (by omega) (by decide) (by rw[List.length_take];omega) (dep_ins o8 o11' hla hlf ho) (fun k hk=>⟨by omega,hk.2⟩) (fun g n k e hk=>by have:=(ov.lt e).2;omega) ?_
   intro v13 h13 lit e13 o13 hn13 keep13
   obtain⟨b13,n13,k13,rfl⟩:=YC o13
   have o13p:OwnC h1 h13 p [.slice va' vn' vk',.int .u8 B.fin.kind,I B.fin.a,I B.fin.to,I B.fin.els]:=by
    obtain⟨g,g1,g2,hg,g3⟩:=o12p
    refine⟨g,g1,by omega,hg,(keep13 g g2 (fun n k e=> ?_)).trans g3⟩
    have h1:=(ov.lt e).1
    have h2:=(hpn g hg).2
    omega
   refine go ?_
   refine WO.stC (cs:=[.slice b13 n13 k13]) (j:=0) (hl:=by simp[zg]) o13p e13 ?_
   intro h14 e14 o14 u14
   have o13':=o13.upd (h':=h14) (fun k hk1 hk2=>u14.2 k hk2 (fun e=>by have:=(hpn k e).2;omega)) u14.1
   refine go ?_
   refine zA (k+1) (by omega) ⟨e14,by have:=u14.1;omega,sln,by omega,_,o14,?_⟩
   rw[hsuccI];exact o13'
  ·have hkk:k=B.ins.length:=by omega
   subst hkk
   rw[List.take_length]at ov
   refine go ?_
   have hh1:=e3.n
   refine WO.apR B (fun k=>h3.n≤k∧k<h4.n) (ow.ext e4) (e1.trans e4) (Nat.le_refl _) (by have:=e1.n;omega) (by decide) (by rw[List.length_take];omega) (dep_blk ov hli) (fun k hk=>⟨by have:=e1.n;omega,hk.2⟩) (fun g n k e hk=>by have:=(ow.lt e).2;omega) ?_
   intro v5 h5 lit e5 o5 _ _
   refine go ?_
   exact zA (i+1) (by omega) ⟨e5,sln,by omega,v5,sl_,by rw[hsucc];exact o5⟩
 ·have hii:i=L.length:=by omega
  subst hii
  rw[List.take_length]at ow
  refine go ?_
  refine rt ?_
  exact⟨ow,e1⟩
noncomputable def body6_0:ACode:=(.seq (.seq (.region [⟨some 9,none,(.mov (.tmp 4))⟩,⟨some 10,none,(.fld 1 (.tmp 1))⟩,⟨some 11,none,(.load false 1 (.tmp 10))⟩,⟨some 12,none,(.len (.tmp 11))⟩,⟨some 13,none,(.bin .lss (.tmp 9) (.tmp 12))⟩]) (.cond (.tmp 13) .skip (.exit 0))) (.seq (.block 1 (.regionC [(⟨some 16,none,(.fld 1 (.tmp 3))⟩,[]),(⟨some 17,none,(.load false 1 (.tmp 16))⟩,[]),(⟨some 18,none,(.fld 1 (.tmp 1))⟩,[]),(⟨some 19,none,(.load false 1 (.tmp 18))⟩,[]),(⟨some 20,none,(.mov (.tmp 4))⟩,[]),(⟨some 21,none,(.idx 2 (.tmp 19) (.tmp 20))⟩,[]),(⟨some 22,none,(.fld 0 (.tmp 21))⟩,[]),(⟨some 23,none,(.load false 1 (.tmp 22))⟩,[]),(⟨some 24,none,(.fld 1 (.tmp 1))⟩,[]),(⟨some 25,none,(.load false 1 (.tmp 24))⟩,[]),(⟨some 26,none,(.mov (.tmp 4))⟩,[]),(⟨some 27,none,(.idx 2 (.tmp 25) (.tmp 26))⟩,[]),(⟨some 28,none,(.fld 1 (.tmp 27))⟩,[]),(⟨some 29,none,(.load false 1 (.tmp 28))⟩,[]),(⟨some 30,none,(.call (.func 19) [(.tmp 29)])⟩,[1,3,7]),(⟨some 31,none,(.build [(.int .i64 0),(.slice none 0 0)] [(0,1,(.tmp 23)),(1,1,(.tmp 30))])⟩,[]),(⟨some 32,none,(.buildSlice 1 2 [(.int .i64 0),(.slice none 0 0)] [(0,2,(.tmp 31))])⟩,[]),(⟨some 33,none,(.append 2 (.tmp 17) (.tmp 32))⟩,[]),(⟨some 34,none,(.fld 1 (.tmp 3))⟩,[]),(⟨none,none,(.store 1 (.tmp 34) (.tmp 33))⟩,[])])) (.region [⟨some 14,none,(.mov (.tmp 4))⟩,⟨some 15,none,(.bin .add (.tmp 14) (.const (.int .i64 1)))⟩,⟨some 4,none,(.mov (.tmp 15))⟩])))
noncomputable def body6:ACode:=(.seq (.region [⟨some 1,none,(.box (.tmp 0))⟩,⟨some 2,none,(.alloc [(.slice none 0 0),(.slice none 0 0)])⟩]) (.seq (.region [⟨some 5,none,(.fld 0 (.tmp 1))⟩,⟨some 6,none,(.load false 1 (.tmp 5))⟩,⟨some 7,none,(.call (.func 18) [(.tmp 6)])⟩,⟨some 8,none,(.build [(.slice none 0 0),(.slice none 0 0)] [(0,1,(.tmp 7))])⟩,⟨some 3,none,(.alloc [(.slice none 0 0),(.slice none 0 0)])⟩,⟨none,none,(.store 2 (.tmp 3) (.tmp 8))⟩]) (.seq (.seq (.region [⟨some 4,none,(.mov (.const (.int .i64 0)))⟩]) (.block 0 (.loop body6_0))) (.seq (.region [⟨some 35,none,(.load true 2 (.tmp 3))⟩,⟨none,none,(.store 2 (.tmp 2) (.tmp 35))⟩]) .ret))))
set_option maxRecDepth 100000 in
theorem tab6:tb.code 6=some ⟨36,[(2,some (true,2))],body6⟩:=by kernel_rfl
theorem rTwin_ok (h:AHeap) (vt vf:Value) (T:List LType) (F:List LFn) (sm:Small T F) (smi:zCZ F) (hm:h.mark≤h.n) (st:SlT h vt T) (sf:SlF h vf F):
  WC Tryz.prog tb 6 [.agg #[vt,vf]] h fun r h'=>(∃ vt' vf',r= .agg #[vt',vf']∧SlT h' vt' T∧SlF h' vf' F)∧Ext h h':=by
 have hT:=sm.types
 have hF:=sm.funcs
 obtain⟨ta,tn,tk,rfl⟩:=zE st
 obtain⟨ga,gn,gk,rfl⟩:=zE sf
 refine WC.of (zG 6) tab6 ?_;simp only[zN,Nat.zero_add,Nat.reduceAdd]
 refine go ?_
 refine WO.bx ?_
 intro p1 h1 e1 o1
 refine go ?_
 refine WO.al ?_
 intro p2 h2 e2 o2
 have hp2:=zCs o2
 have o1:=o1.ext e2
 have e02:=e1.trans e2
 have st2:=st.ext e02
 refine go ?_
 refine WO.con (zHd h2 _ T st2 (by omega) (fun x hx=>by have:=sm.parts x hx;omega)) ?_
 rintro w h3 ⟨ow,e3⟩
 have swT:=ow.sl
 obtain⟨wa,wn,wk,rfl⟩:=YC ow
 have o1:=o1.ext e3
 have o2:=o2.ext e3
 have e03:=e02.trans e3
 have sf3:=SlF.ext sf e03
 have hm3:=zh e03 hm
 refine go ?_
 refine WO.al ?_
 intro p4 h4 e4 o4
 have hpn:=zCs o4
 refine go ?_
 refine WO.stC0 o4 e4 ?_
 intro h5 e5 o5 u5
 have hn5:h4.n≤h5.n:=u5.1
 have hn4:=e5.n
 have o1:=o1.ext e5
 have o2:=o2.ext e5
 refine go ?_
 refine WX.loopA [9,10,11,12,13,16,17,18,19,20,21,22,23,24,25,26,27,28,29,30,31,32,33,34,14,15,4] (by kernel_rfl) (fun i=>F.length - i) (fun i t h6=>Ext h3 h6∧h5.n≤h6.n∧zB t 4=I i∧i≤F.length∧∃ v',OwnC h3 h6 p4 [.slice wa wn wk,v']∧OwnR 2 RFn h5.n h6 v' (F.take i)) 0 ?_ ?_
 ·exact⟨e5,Nat.le_refl _,sl_,Nat.zero_le _,_,o5,OwnR.nil⟩
 rintro i t h6 hsame ⟨e6,hn6,s4,hi,v',o6,ov⟩
 have o1:=(by assumption:OwnC h h3 p1 _).ext e6
 have o2:=(by assumption:OwnC h1 h3 p2 _).ext e6
 have sf6:=SlF.ext sf3 e6
 obtain⟨va',vn',vk',rfl⟩:=YC ov
 refine go ?_
 refine WX.br (fun hd=> ?_) (fun hd=> ?_)<;>simp only[DB]at hd
 ·have hi':i<F.length:=by omega
  have hmem:=zL (l:=F) hi'
  have hsucc:=Yh (l:=F) hi'
  refine go ?_
  refine WX.regionU2 1 rfl rfl ?_
  have o1X:OwnC h (inC (zF 1 h6)) p1 [.slice ta tn tk,.slice ga gn gk]:=by have:=o1.ext (yY 1 h6);exact this
  have o6X:OwnC h3 (inC (zF 1 h6)) p4 [.slice wa wn wk,.slice va' vn' vk']:=by have:=o6.ext (yY 1 h6);exact this
  have sfX:SlF (inC (zF 1 h6)) (.slice ga gn gk) F:=by have:=SlF.ext sf6 (yY 1 h6);exact this
  obtain⟨cs,⟨vb,rfl,sb,hlb⟩,pc,hs⟩:=zX sfX hi'
  have hB:=sm.blocks _ hmem
  have hI:=sm.ins _ hmem
  have hX:=smi _ hmem
  generalize F.getD i default=f at *
  obtain⟨ba,bn,bk,rfl⟩:=zE sb
  refine goU ?_
  refine WO.con (zHP (inC (zF 1 h6)) _ f.blocks sb hB hI hX) ?_
  rintro v h7 ⟨ow7,e7⟩
  obtain⟨ca,cn,ck,rfl⟩:=YC ow7
  refine WO.nil ?_
  refine zAU e7 yq ?_
  have hn7:h6.n+1≤h7.n:=e7.n
  refine goU ?_
  have hbn:(inC (zF 1 h6)).n=h6.n+1:=rfl
  refine WU2.apR (hB:=h3) (p:=p4) (cells:=[.slice wa wn wk,.slice va' vn' vk']) f (fun k=>h6.n+1≤k∧k<h7.n) e7 ov e6 (by rw[e6.mark];exact hm3) (by omega) hn6 (by decide) (by rw[List.length_take];omega) o6 (fun g e=>by have:=(hpn g e).2;omega) (dep_fn (b:=h6.n+1) ow7 (by omega)) (fun k hk=>⟨by omega,hk.2⟩) (fun g n k e hk=>by have:=(ov.lt e).2;omega) (fun hk=>by omega) (by simp) rfl ?_
  intro H v8 t8 hs8 eH oH _ ovH _ hnH
  refine go ?_
  exact zA (i+1) (by omega) ⟨eH,by omega,sln,by omega,v8,oH,by rw[hsucc];exact ovH⟩
 ·have hii:i=F.length:=by omega
  subst hii
  rw[List.take_length]at ov
  refine go ?_
  refine WO.stC0 o2 (e2.trans (e3.trans e6)) ?_
  intro h7 e7 o7 u7
  refine go ?_
  refine rt ?_
  have keep:∀ k,h2.n≤k→k<h6.n→h7.get k=h6.get k:=fun k hk1 hk2=>u7.2 k hk2 (fun e=>by
   have:=hp2 k e
   omega)
  exact⟨⟨_,_,rfl,((ow.ext e6).upd keep u7.1).sl,(ov.upd (fun k hk1 hk2=>keep k (by have:=e3.n;omega) hk2) u7.1).sl⟩,e1.trans e7⟩
end Go.Proofs.YtdcgdfbblnljjaaGreatDoor
