/- What functions of the program come to in the abstract machine, and plain laws about it; no statement of the seat is proved in this text. -/
import Derived.Test.YtdcgdfbblnljjaaGreatDoorJa
import Derived.Test.YtdcgdfbblnljjaaGreatDoorAmU
namespace Go.Proofs.YtdcgdfbblnljjaaGreatDoor
open Go.Am
set_option linter.unusedVariables false
set_option linter.unusedSimpArgs false
set_option maxHeartbeats 4000000
noncomputable def body17_0:ACode:=(.seq (.seq (.region [⟨some 4,none,(.mov (.tmp 3))⟩,⟨some 5,none,(.mov (.tmp 0))⟩,⟨some 6,none,(.len (.tmp 5))⟩,⟨some 7,none,(.bin .lss (.tmp 4) (.tmp 6))⟩,⟨some 8,none,(.mov (.tmp 7))⟩,⟨some 9,some (8,true),(.mov (.tmp 3))⟩,⟨some 10,some (8,true),(.bin .lss (.tmp 9) (.const (.int .i64 30)))⟩,⟨some 11,none,(.pick (.tmp 8) (.tmp 10) (.const (.bool false)))⟩]) (.cond (.tmp 11) .skip (.exit 0))) (.seq (.block 1 (.seq (.region [⟨some 14,none,(.mov (.tmp 0))⟩,⟨some 15,none,(.mov (.tmp 3))⟩,⟨some 16,none,(.idx 4 (.tmp 14) (.tmp 15))⟩,⟨some 17,none,(.fld 3 (.tmp 16))⟩,⟨some 18,none,(.load false 1 (.tmp 17))⟩,⟨some 19,none,(.len (.tmp 18))⟩,⟨some 20,none,(.bin .gtr (.tmp 19) (.const (.int .i64 20)))⟩]) (.cond (.tmp 20) (.seq (.region [⟨some 2,none,(.mov (.const (.bool true)))⟩]) .ret) .skip))) (.region [⟨some 12,none,(.mov (.tmp 3))⟩,⟨some 13,none,(.bin .add (.tmp 12) (.const (.int .i64 1)))⟩,⟨some 3,none,(.mov (.tmp 13))⟩])))
noncomputable def body17:ACode:=(.seq (.region [⟨some 2,none,(.mov (.const (.bool false)))⟩]) (.seq (.seq (.region [⟨some 3,none,(.mov (.const (.int .i64 0)))⟩]) (.block 0 (.loop body17_0))) (.seq (.region [⟨some 21,none,(.mov (.tmp 0))⟩,⟨some 22,none,(.len (.tmp 21))⟩,⟨some 23,none,(.bin .gtr (.tmp 22) (.const (.int .i64 20)))⟩,⟨some 2,none,(.mov (.tmp 23))⟩]) .ret)))
set_option maxRecDepth 100000 in
theorem tab17:tb.code 17=some ⟨24,[(2,none)],body17⟩:=by kernel_rfl
theorem zHy (h:AHeap) (vt:Value) (T:List LType) (st:SlT h vt T) (hT:(T.length:Int)≤9223372036854775807):
  WC Tryz.prog tb 17 [vt] h fun r h'=>(r= .bool true∨r= .bool false∧T.length≤20∧∀ x∈T,x.parts.length≤20)∧h=h':=by
 refine WC.of (zG 17) tab17 ?_;simp only[zN,Nat.zero_add,Nat.reduceAdd]
 refine go ?_
 refine WX.loopA [4,5,6,7,8,9,10,11,14,15,16,17,18,19,20,2,12,13,3] (by kernel_rfl) (fun i=>T.length - i) (fun i t h1=>h=h1∧zB t 3=I i∧i≤T.length∧∀ j,j<i→(T.getD j default).parts.length≤20) 0 ?_ ?_
 ·exact⟨rfl,sl_,Nat.zero_le _,fun j hj=>absurd hj (Nat.not_lt_zero _)⟩
 rintro i t _ hsame ⟨rfl,s3,hi,hm⟩
 have fin:(20<(T.length:Int))∨(i=T.length∧T.length≤20)∨i<T.length:=by omega
 refine go ?_
 refine WO.sp (fun hb=> ?_) (fun hb=> ?_)<;>simp only[DB]at hb<;>refine go ?_
 ·obtain⟨cs,⟨va,rfl,sa,hla⟩,pc,hs⟩:=ZR st (show i<T.length by omega)
  refine WX.br (fun hc=> ?_) (fun hc=> ?_)<;>simp only[DB]at hc
  ·refine go ?_
   refine WX.br (fun hd=> ?_) (fun hd=> ?_)<;>simp only[DB]at hd
   ·refine go ?_
    refine rt ?_
    exact⟨.inl rfl,rfl⟩
   ·refine go ?_
    refine zA (i+1) (by omega) ⟨rfl,sln,by omega,fun j hj=> ?_⟩
    by_cases e:j=i
    ·subst e;omega
    ·exact hm j (by omega)
  ·refine go ?_
   refine rt ?_
   refine⟨.inl ?_,rfl⟩
   rw[decide_eq_true (show (20:Int)<T.length by omega)];rfl
 ·refine rt ?_
  refine⟨?_,rfl⟩
  by_cases hg:20<(T.length:Int)
  ·left;rw[decide_eq_true hg];rfl
  ·right
   refine⟨by rw[decide_eq_false hg];rfl,by omega,fun x hx=> ?_⟩
   obtain⟨j,hj,rfl⟩:=yu hx
   exact hm j (by omega)
def zCZ (F:List LFn):Prop:=∀ f∈F,∀ b∈f.blocks,∀ x∈b.ins,x.args.length≤20∧x.frm.length≤20
theorem small_of {T:List LType} {F:List LFn} (h1:T.length≤20) (h2:∀ x∈T,x.parts.length≤20) (h3:F.length≤10) (h4:∀ f∈F,f.blocks.length≤20∧∀ b∈f.blocks,b.ins.length≤1000):Small T F:=
 ⟨by omega,fun x hx=>by have:=h2 x hx;omega,by omega,fun f hf=>by have:=(h4 f hf).1;omega,fun f hf=>(h4 f hf).2⟩
noncomputable def body5_0:ACode:=(.seq (.seq (.region [⟨some 62,none,(.mov (.tmp 9))⟩,⟨some 63,none,(.mov (.tmp 8))⟩,⟨some 64,none,(.len (.tmp 63))⟩,⟨some 65,none,(.bin .lss (.tmp 62) (.tmp 64))⟩]) (.cond (.tmp 65) .skip (.exit 4))) (.seq (.block 5 (.seq (.region [⟨some 68,none,(.mov (.tmp 8))⟩,⟨some 69,none,(.mov (.tmp 9))⟩,⟨some 70,none,(.idx 7 (.tmp 68) (.tmp 69))⟩,⟨some 71,none,(.fld 5 (.tmp 70))⟩,⟨some 72,none,(.load false 1 (.tmp 71))⟩,⟨some 73,none,(.len (.tmp 72))⟩,⟨some 74,none,(.bin .gtr (.tmp 73) (.const (.int .i64 20)))⟩,⟨some 75,none,(.mov (.tmp 74))⟩,⟨some 76,some (75,false),(.mov (.tmp 8))⟩,⟨some 77,some (75,false),(.mov (.tmp 9))⟩,⟨some 78,some (75,false),(.idx 7 (.tmp 76) (.tmp 77))⟩,⟨some 79,some (75,false),(.fld 6 (.tmp 78))⟩,⟨some 80,some (75,false),(.load false 1 (.tmp 79))⟩,⟨some 81,some (75,false),(.len (.tmp 80))⟩,⟨some 82,some (75,false),(.bin .gtr (.tmp 81) (.const (.int .i64 20)))⟩,⟨some 83,none,(.pick (.tmp 75) (.const (.bool true)) (.tmp 82))⟩]) (.cond (.tmp 83) (.seq (.region [⟨some 4,none,(.mov (.const (.bool true)))⟩]) .ret) .skip))) (.region [⟨some 66,none,(.mov (.tmp 9))⟩,⟨some 67,none,(.bin .add (.tmp 66) (.const (.int .i64 1)))⟩,⟨some 9,none,(.mov (.tmp 67))⟩])))
noncomputable def body5_1:ACode:=(.seq (.seq (.region [⟨some 34,none,(.mov (.tmp 7))⟩,⟨some 35,none,(.fld 1 (.tmp 2))⟩,⟨some 36,none,(.load false 1 (.tmp 35))⟩,⟨some 37,none,(.mov (.tmp 6))⟩,⟨some 38,none,(.idx 2 (.tmp 36) (.tmp 37))⟩,⟨some 39,none,(.fld 1 (.tmp 38))⟩,⟨some 40,none,(.load false 1 (.tmp 39))⟩,⟨some 41,none,(.len (.tmp 40))⟩,⟨some 42,none,(.bin .lss (.tmp 34) (.tmp 41))⟩]) (.cond (.tmp 42) .skip (.exit 2))) (.seq (.block 3 (.seq (.region [⟨some 45,none,(.fld 1 (.tmp 2))⟩,⟨some 46,none,(.load false 1 (.tmp 45))⟩,⟨some 47,none,(.mov (.tmp 6))⟩,⟨some 48,none,(.idx 2 (.tmp 46) (.tmp 47))⟩,⟨some 49,none,(.fld 1 (.tmp 48))⟩,⟨some 50,none,(.load false 1 (.tmp 49))⟩,⟨some 51,none,(.mov (.tmp 7))⟩,⟨some 52,none,(.idx 5 (.tmp 50) (.tmp 51))⟩,⟨some 53,none,(.fld 0 (.tmp 52))⟩,⟨some 54,none,(.load false 1 (.tmp 53))⟩,⟨some 8,none,(.mov (.tmp 54))⟩]) (.seq (.region [⟨some 55,none,(.mov (.tmp 5))⟩,⟨some 56,none,(.mov (.tmp 8))⟩,⟨some 57,none,(.len (.tmp 56))⟩,⟨some 58,none,(.bin .add (.tmp 55) (.tmp 57))⟩,⟨some 5,none,(.mov (.tmp 58))⟩]) (.seq (.seq (.region [⟨some 59,none,(.mov (.tmp 5))⟩,⟨some 60,none,(.mov (.tmp 1))⟩,⟨some 61,none,(.bin .gtr (.tmp 59) (.tmp 60))⟩]) (.cond (.tmp 61) (.seq (.region [⟨some 4,none,(.mov (.const (.bool true)))⟩]) .ret) .skip)) (.seq (.region [⟨some 9,none,(.mov (.const (.int .i64 0)))⟩]) (.block 4 (.loop body5_0))))))) (.region [⟨some 43,none,(.mov (.tmp 7))⟩,⟨some 44,none,(.bin .add (.tmp 43) (.const (.int .i64 1)))⟩,⟨some 7,none,(.mov (.tmp 44))⟩])))
noncomputable def body5_2:ACode:=(.seq (.seq (.region [⟨some 19,none,(.mov (.tmp 6))⟩,⟨some 20,none,(.fld 1 (.tmp 2))⟩,⟨some 21,none,(.load false 1 (.tmp 20))⟩,⟨some 22,none,(.len (.tmp 21))⟩,⟨some 23,none,(.bin .lss (.tmp 19) (.tmp 22))⟩]) (.cond (.tmp 23) .skip (.exit 0))) (.seq (.block 1 (.seq (.seq (.region [⟨some 26,none,(.fld 1 (.tmp 2))⟩,⟨some 27,none,(.load false 1 (.tmp 26))⟩,⟨some 28,none,(.mov (.tmp 6))⟩,⟨some 29,none,(.idx 2 (.tmp 27) (.tmp 28))⟩,⟨some 30,none,(.fld 1 (.tmp 29))⟩,⟨some 31,none,(.load false 1 (.tmp 30))⟩,⟨some 32,none,(.len (.tmp 31))⟩,⟨some 33,none,(.bin .gtr (.tmp 32) (.const (.int .i64 20)))⟩]) (.cond (.tmp 33) (.seq (.region [⟨some 4,none,(.mov (.const (.bool true)))⟩]) .ret) .skip)) (.seq (.region [⟨some 7,none,(.mov (.const (.int .i64 0)))⟩]) (.block 2 (.loop body5_1))))) (.region [⟨some 24,none,(.mov (.tmp 6))⟩,⟨some 25,none,(.bin .add (.tmp 24) (.const (.int .i64 1)))⟩,⟨some 6,none,(.mov (.tmp 25))⟩])))
noncomputable def body5:ACode:=(.seq (.region [⟨some 2,none,(.box (.tmp 0))⟩,⟨some 4,none,(.mov (.const (.bool false)))⟩]) (.seq (.seq (.region [⟨some 10,none,(.fld 0 (.tmp 2))⟩,⟨some 11,none,(.load false 1 (.tmp 10))⟩,⟨some 12,none,(.call (.func 17) [(.tmp 11)])⟩,⟨some 13,none,(.mov (.tmp 12))⟩,⟨some 14,some (13,false),(.fld 1 (.tmp 2))⟩,⟨some 15,some (13,false),(.load false 1 (.tmp 14))⟩,⟨some 16,some (13,false),(.len (.tmp 15))⟩,⟨some 17,some (13,false),(.bin .gtr (.tmp 16) (.const (.int .i64 10)))⟩,⟨some 18,none,(.pick (.tmp 13) (.const (.bool true)) (.tmp 17))⟩]) (.cond (.tmp 18) (.seq (.region [⟨some 4,none,(.mov (.const (.bool true)))⟩]) .ret) .skip)) (.seq (.region [⟨some 5,none,(.mov (.const (.int .i64 0)))⟩]) (.seq (.seq (.region [⟨some 6,none,(.mov (.const (.int .i64 0)))⟩]) (.block 0 (.loop body5_2))) (.seq (.region [⟨some 4,none,(.mov (.const (.bool false)))⟩]) .ret)))))
set_option maxRecDepth 100000 in
theorem tab5:tb.code 5=some ⟨84,[(4,none)],body5⟩:=by kernel_rfl
theorem zHW (h:AHeap) (vt vf:Value) (T:List LType) (F:List LFn) (most:Int) (hmost:0≤most∧most≤1000) (st:SlT h vt T) (sf:SlF h vf F) (hT:(T.length:Int)≤9223372036854775807) (hF:(F.length:Int)≤9223372036854775807):
  WC Tryz.prog tb 5 [.agg #[vt,vf],I most] h fun r h'=>(r= .bool true∨r= .bool false∧Small T F∧zCZ F)∧Ext h h':=by
 refine WC.of (zG 5) tab5 ?_;simp only[zN,Nat.zero_add,Nat.reduceAdd]
 refine go ?_
 refine WO.bx ?_
 intro p h1 e1 o1
 have st1:=st.ext e1
 have sf1:=SlF.ext sf e1
 refine go ?_
 refine WO.con (zHy h1 vt T st1 hT) ?_
 rintro r _ ⟨hr,rfl⟩
 refine go ?_
 rcases hr with rfl|⟨rfl,hT2,hp2⟩
 ·refine go ?_
  refine rt ?_
  exact⟨.inl rfl,e1⟩
 refine go ?_
 refine WX.br (fun hb=> ?_) (fun hb=> ?_)<;>simp only[DB]at hb<;>refine go ?_
 ·refine rt ?_
  exact⟨.inl rfl,e1⟩
 refine WX.loopA [19,20,21,22,23,26,27,28,29,30,31,32,33,4,7,34,35,36,37,38,39,40,41,42,45,46,47,48,49,50,51,52,53,54,8,55,56,57,58,5,59,60,61,4,9,62,63,64,65,68,69,70,71,72,73,74,75,76,77,78,79,80,81,82,83,4,66,67,9,43,44,7,24,25,6] (by kernel_rfl) (fun i=>F.length - i) (fun i t h2=>h1=h2∧zB t 6=I i∧i≤F.length∧(∃ n,zB t 5=I n∧0≤n∧n≤most)∧∀ j,j<i→(F.getD j default).blocks.length≤20∧∀ b∈(F.getD j default).blocks,b.ins.length≤1000∧∀ x∈b.ins,x.args.length≤20∧x.frm.length≤20) 0 ?_ ?_
 ·exact⟨rfl,sl_,Nat.zero_le _,⟨0,sl_,by omega,by omega⟩,fun j hj=>absurd hj (Nat.not_lt_zero _)⟩
 rintro i t _ hsame ⟨rfl,s6,hi,⟨n,s5,hn0,hn⟩,hm⟩
 refine go ?_
 refine WX.br (fun hc=> ?_) (fun hc=> ?_)<;>simp only[DB]at hc
 ·have hi':i<F.length:=by omega
  obtain⟨csF,⟨vb,rfl,sb,hlb⟩,pcF,hsF⟩:=zX sf1 hi'
  refine go ?_
  refine WX.br (fun hd=> ?_) (fun hd=> ?_)<;>simp only[DB]at hd<;>refine go ?_
  ·refine rt ?_
   exact⟨.inl rfl,e1⟩
  refine WX.loopA [34,35,36,37,38,39,40,41,42,45,46,47,48,49,50,51,52,53,54,8,55,56,57,58,5,59,60,61,4,9,62,63,64,65,68,69,70,71,72,73,74,75,76,77,78,79,80,81,82,83,4,66,67,9,43,44,7] (by kernel_rfl) (fun k=>(F.getD i default).blocks.length - k) (fun k t h2=>h1=h2∧zB t 7=I k∧k≤(F.getD i default).blocks.length∧(∃ n,zB t 5=I n∧0≤n∧n≤most)∧∀ j,j<k→((F.getD i default).blocks.getD j default).ins.length≤1000∧∀ x∈((F.getD i default).blocks.getD j default).ins,x.args.length≤20∧x.frm.length≤20) 0 ?_ ?_
  ·exact⟨rfl,sl_,Nat.zero_le _,⟨n,sl_,hn0,hn⟩,fun j hj=>absurd hj (Nat.not_lt_zero _)⟩
  rintro k t2 _ hsame2 ⟨rfl,s7,hk,⟨n2,s5b,hn20,hn2⟩,hm2⟩
  refine go ?_
  refine WX.br (fun he=> ?_) (fun he=> ?_)<;>simp only[DB]at he
  ·have hk':k<(F.getD i default).blocks.length:=by omega
   obtain⟨csB,⟨vi,rfl,si,hli⟩,pcB,hsB⟩:=zX sb hk'
   refine go ?_
   refine WX.br (fun hf=> ?_) (fun hf=> ?_)<;>simp only[DB]at hf<;>refine go ?_
   ·refine rt ?_
    exact⟨.inl rfl,e1⟩
   refine WX.loopA [62,63,64,65,68,69,70,71,72,73,74,75,76,77,78,79,80,81,82,83,4,66,67,9] (by kernel_rfl) (fun j=>((F.getD i default).blocks.getD k default).ins.length - j) (fun j t h2=>h1=h2∧zB t 9=I j∧j≤((F.getD i default).blocks.getD k default).ins.length∧∀ q,q<j→(((F.getD i default).blocks.getD k default).ins.getD q default).args.length≤20∧(((F.getD i default).blocks.getD k default).ins.getD q default).frm.length≤20) 0 ?_ ?_
   ·exact⟨rfl,sl_,Nat.zero_le _,fun q hq=>absurd hq (Nat.not_lt_zero _)⟩
   rintro j t3 _ hsame3 ⟨rfl,s9,hj,hq9⟩
   refine go ?_
   refine WX.br (fun hg=> ?_) (fun hg=> ?_)<;>simp only[DB]at hg
   ·have hj':j<((F.getD i default).blocks.getD k default).ins.length:=by omega
    obtain⟨csI,⟨va,vfr,rfl,sa,sfr,hla,hlf,ho⟩,pcI,hsI⟩:=zX si hj'
    refine go ?_
    refine WO.sp (fun hh=> ?_) (fun hh=> ?_)<;>simp only[DB]at hh<;>refine go ?_
    ·refine rt ?_
     exact⟨.inl rfl,e1⟩
    refine WX.br (fun hh2=> ?_) (fun hh2=> ?_)<;>simp only[DB]at hh2<;>refine go ?_
    ·refine rt ?_
     exact⟨.inl rfl,e1⟩
    ·refine zA (j+1) (by omega) ⟨rfl,sln,by omega,fun q hq=> ?_⟩
     by_cases e:q=j
     ·subst e;omega
     ·exact hq9 q (by omega)
   ·refine go ?_
    refine zA (k+1) (by omega) ⟨rfl,sln,by omega,⟨n2+(((F.getD i default).blocks.getD k default).ins.length:Int),sl_,by omega,by omega⟩,fun q hq=> ?_⟩
    by_cases e:q=k
    ·subst e
     refine⟨by omega,fun x hx=> ?_⟩
     obtain⟨y,hy,rfl⟩:=yu hx
     exact hq9 y (by omega)
    ·exact hm2 q (by omega)
  ·refine go ?_
   refine zA (i+1) (by omega) ⟨rfl,sln,by omega,⟨n2,sl_,hn20,hn2⟩,fun q hq=> ?_⟩
   by_cases e:q=i
   ·subst e
    refine⟨by omega,fun b hb=> ?_⟩
    obtain⟨y,hy,rfl⟩:=yu hb
    exact hm2 y (by omega)
   ·exact hm q (by omega)
 ·refine go ?_
  refine rt ?_
  have hall:∀ f∈F,f.blocks.length≤20∧∀ b∈f.blocks,b.ins.length≤1000∧∀ x∈b.ins,x.args.length≤20∧x.frm.length≤20:=fun f hf=>by
   obtain⟨y,hy,rfl⟩:=yu hf
   exact hm y (by omega)
  exact⟨.inr ⟨rfl,small_of hT2 hp2 (by omega) fun f hf=>⟨(hall f hf).1,fun b hb=>((hall f hf).2 b hb).1⟩,fun f hf b hb=>((hall f hf).2 b hb).2⟩,e1⟩
end Go.Proofs.YtdcgdfbblnljjaaGreatDoor
namespace Go.Proofs.YtdcgdfbblnljjaaGreatDoor
open Go.Am
set_option linter.unusedVariables false
set_option linter.unusedSimpArgs false
set_option maxHeartbeats 4000000
def ZQ (x:LEnd):List Int:=if x.kind=1 then [x.to] else if x.kind=2 then (if x.to=x.els then [x.to] else [x.to,x.els]) else []
def Fresh (h:AHeap) (v:Value):Prop:=∀ a n c,v= .slice (some a) n c→h.n≤a.block
theorem Fresh.since {h h':AHeap} {v:Value} (f:Fresh h' v) (n:h.n≤h'.n):Fresh h v:=fun a k c e=>Nat.le_trans n (f a k c e)
theorem zDg {h0 h:AHeap} {v:Value} {l:List Int} (o:OwnI h0 h v l):Fresh h0 v:=by
 obtain⟨g,a,_,rfl,_⟩:=o
 intro a n c e;cases e;assumption
noncomputable def body51_0:ACode:=(.seq (.seq (.region [⟨some 29,none,(.mov (.tmp 5))⟩,⟨some 30,none,(.mov (.tmp 4))⟩,⟨some 31,none,(.len (.tmp 30))⟩,⟨some 32,none,(.bin .lss (.tmp 29) (.tmp 31))⟩]) (.cond (.tmp 32) .skip (.exit 2))) (.seq (.block 3 (.seq (.regionC [(⟨some 35,none,(.mov (.tmp 4))⟩,[]),(⟨some 36,none,(.mov (.tmp 5))⟩,[]),(⟨some 37,none,(.idx 1 (.tmp 35) (.tmp 36))⟩,[]),(⟨some 38,none,(.load false 1 (.tmp 37))⟩,[]),(⟨some 39,none,(.mov (.tmp 4))⟩,[]),(⟨some 40,none,(.mov (.tmp 5))⟩,[]),(⟨some 41,none,(.bin .sub (.tmp 40) (.const (.int .i64 1)))⟩,[]),(⟨some 42,none,(.idx 1 (.tmp 39) (.tmp 41))⟩,[]),(⟨some 43,none,(.load false 1 (.tmp 42))⟩,[]),(⟨some 44,none,(.bin .neq (.tmp 38) (.tmp 43))⟩,[])]) (.cond (.tmp 44) (.seq (.region [⟨some 45,none,(.mov (.tmp 0))⟩,⟨some 46,none,(.mov (.tmp 3))⟩,⟨some 47,none,(.mov (.tmp 4))⟩,⟨some 48,none,(.mov (.tmp 5))⟩,⟨some 49,none,(.idx 1 (.tmp 47) (.tmp 48))⟩,⟨some 50,none,(.load false 1 (.tmp 49))⟩,⟨some 51,none,(.idx 1 (.tmp 45) (.tmp 46))⟩,⟨none,none,(.store 1 (.tmp 51) (.tmp 50))⟩]) (.region [⟨some 52,none,(.mov (.tmp 3))⟩,⟨some 53,none,(.bin .add (.tmp 52) (.const (.int .i64 1)))⟩,⟨some 3,none,(.mov (.tmp 53))⟩])) .skip))) (.region [⟨some 33,none,(.mov (.tmp 5))⟩,⟨some 34,none,(.bin .add (.tmp 33) (.const (.int .i64 1)))⟩,⟨some 5,none,(.mov (.tmp 34))⟩])))
noncomputable def body51_1:ACode:=(.seq (.seq (.region [⟨some 10,none,(.mov (.tmp 3))⟩,⟨some 11,none,(.mov (.tmp 0))⟩,⟨some 12,none,(.len (.tmp 11))⟩,⟨some 13,none,(.bin .lss (.tmp 10) (.tmp 12))⟩]) (.cond (.tmp 13) .skip (.exit 0))) (.seq (.block 1 (.seq (.regionC [(⟨some 16,none,(.mov (.tmp 0))⟩,[]),(⟨some 17,none,(.mov (.tmp 3))⟩,[]),(⟨some 18,none,(.idx 1 (.tmp 16) (.tmp 17))⟩,[]),(⟨some 19,none,(.load false 1 (.tmp 18))⟩,[]),(⟨some 20,none,(.mov (.tmp 0))⟩,[]),(⟨some 21,none,(.mov (.tmp 3))⟩,[]),(⟨some 22,none,(.bin .sub (.tmp 21) (.const (.int .i64 1)))⟩,[]),(⟨some 23,none,(.idx 1 (.tmp 20) (.tmp 22))⟩,[]),(⟨some 24,none,(.load false 1 (.tmp 23))⟩,[]),(⟨some 25,none,(.bin .eql (.tmp 19) (.tmp 24))⟩,[])]) (.cond (.tmp 25) (.seq (.region [⟨some 26,none,(.mov (.tmp 0))⟩,⟨some 27,none,(.mov (.tmp 3))⟩,⟨some 28,none,(.slice 1 (.tmp 26) (some (.tmp 27)) none none)⟩,⟨some 4,none,(.mov (.tmp 28))⟩]) (.seq (.seq (.region [⟨some 5,none,(.mov (.const (.int .i64 1)))⟩]) (.block 2 (.loop body51_0))) (.seq (.region [⟨some 54,none,(.mov (.tmp 0))⟩,⟨some 55,none,(.mov (.tmp 3))⟩,⟨some 56,none,(.slice 1 (.tmp 54) (some (.tmp 55)) none none)⟩,⟨none,none,(.clearS 1 [(.int .i64 0)] (.tmp 56))⟩]) (.seq (.region [⟨some 57,none,(.mov (.tmp 0))⟩,⟨some 58,none,(.mov (.tmp 3))⟩,⟨some 59,none,(.slice 1 (.tmp 57) none (some (.tmp 58)) none)⟩,⟨some 2,none,(.mov (.tmp 59))⟩]) .ret)))) .skip))) (.region [⟨some 14,none,(.mov (.tmp 3))⟩,⟨some 15,none,(.bin .add (.tmp 14) (.const (.int .i64 1)))⟩,⟨some 3,none,(.mov (.tmp 15))⟩])))
noncomputable def body51:ACode:=(.seq (.region [⟨some 2,none,(.mov (.const (.slice none 0 0)))⟩]) (.seq (.seq (.region [⟨some 6,none,(.mov (.tmp 0))⟩,⟨some 7,none,(.len (.tmp 6))⟩,⟨some 8,none,(.bin .lss (.tmp 7) (.const (.int .i64 2)))⟩]) (.cond (.tmp 8) (.seq (.region [⟨some 9,none,(.mov (.tmp 0))⟩,⟨some 2,none,(.mov (.tmp 9))⟩]) .ret) .skip)) (.seq (.seq (.region [⟨some 3,none,(.mov (.const (.int .i64 1)))⟩]) (.block 0 (.loop body51_1))) (.seq (.region [⟨some 60,none,(.mov (.tmp 0))⟩,⟨some 2,none,(.mov (.tmp 60))⟩]) .ret))))
set_option maxRecDepth 100000 in
theorem tab51:tb.code 51=some ⟨61,[(2,none)],body51⟩:=by kernel_rfl
theorem zGT (h0 h:AHeap) (v:Value) (a b:Int) (e0:Ext h0 h) (o:OwnI h0 h v [a,b]):
  WC Tryz.prog tb 51 [v] h fun r h'=>SlI h' r (if a=b then [a] else [a,b])∧Fresh h0 r∧Ext h0 h':=by
 have s:SlI h v [a,b]:=o.sl
 have fr:=zDg o
 refine WC.of (zG 51) tab51 ?_;simp only[zN,Nat.zero_add,Nat.reduceAdd]
 refine go ?_
 refine WX.br (fun hb=> ?_) (fun hb=> ?_)<;>simp only[DB]at hb
 ·exact absurd hb (by simp)
 refine go ?_
 refine WX.loopA [10,11,12,13,16,17,18,19,20,21,22,23,24,25,26,27,28,4,5,29,30,31,32,35,36,37,38,39,40,41,42,43,44,45,46,47,48,49,50,51,52,53,3,33,34,5,54,55,56,57,58,59,2,14,15,3] (by kernel_rfl) (fun i=>2 - i) (fun i t h1=>h=h1∧zB t 3=I i∧(i=1∨i=2∧a≠b)) 1 ?_ ?_
 ·exact⟨rfl,sl_,.inl rfl⟩
 rintro i t _ hsame ⟨rfl,s3,hi⟩
 have hlen:([a,b]:List Int).length=2:=rfl
 refine go ?_
 refine WX.br (fun hc=> ?_) (fun hc=> ?_)<;>simp only[DB]at hc
 ·have hi1:i=1:=by rw[hlen]at hc;omega
  subst hi1
  refine go ?_
  refine WX.br (fun hd=> ?_) (fun hd=> ?_)<;>simp only[DB]at hd
  ·have hab:a=b:=by simpa [List.getD]using hd.symm
   subst hab
   obtain⟨g,g1,g2,rfl,g3⟩:=o
   refine go ?_
   refine WO.slLo (i:=1) (v:= .slice (some ⟨g,0,none⟩) [a,a].length 1) (r:= .slice (some ⟨g,1,none⟩) 1 1) (by rfl) ?_
   have s4:SlI h (.slice (some ⟨g,1,none⟩) 1 1) [a]:=⟨rfl,.inr ⟨g,1,_,rfl,yt g3,by rfl,g2⟩⟩
   refine go ?_
   refine WX.loopA [29,30,31,32,35,36,37,38,39,40,41,42,43,44,45,46,47,48,49,50,51,52,53,3,33,34,5] (by kernel_rfl) (fun i=>1) (fun (i:Unit) t h1=>h=h1∧zB t 5=I 1∧zB t 3=I ((1:Nat):Int)) () ?_ ?_
   ·exact⟨rfl,sl_,sl_⟩
   rintro _ t2 _ hsame2 ⟨rfl,s5,s3b⟩
   have hlen1:([a]:List Int).length=1:=rfl
   refine go ?_
   refine WO.slLo (i:=1) (v:= .slice (some ⟨g,0,none⟩) [a,a].length 1) (r:= .slice (some ⟨g,1,none⟩) 1 1) (by rfl) ?_
   have hcl:zAM 1 [I 0] (.slice (some ⟨g,1,none⟩) 1 1) h=some (.tuple #[],h.set g (.row [I a,I 0] true 0)):=by
    show ((zl h ⟨g,1,none⟩ [I 0]).map (Value.tuple #[],·))=_
    have:zl h ⟨g,1,none⟩ [I 0]=some (h.set g (.row [I a,I 0] true 0)):=by
     unfold zl;rw[g3];rfl
    rw[this];rfl
   refine WO.clS hcl ?_
   have e1:Ext h0 (h.set g (.row [I a,I 0] true 0)):=e0.set g1 g2 _
   refine go ?_
   refine WO.slHi (i:=1) (v:= .slice (some ⟨g,0,none⟩) [a,a].length 1) (r:= .slice (some ⟨g,0,none⟩) 1 1) (by rfl) ?_
   refine go ?_
   refine rt ?_
   refine⟨?_,(fun a k c e=>by cases e;exact g1),e1⟩
   rw[if_pos rfl]
   exact⟨rfl,.inr ⟨g,0,[I a,I 0],rfl,by unfold yH;rw[zu,if_pos rfl],by rfl,g2⟩⟩
  ·have hab:a≠b:=fun e=>hd (by simp[List.getD,e])
   refine go ?_
   exact zA 2 (by omega) ⟨rfl,sl_,.inr ⟨rfl,hab⟩⟩
 ·refine go ?_
  refine rt ?_
  have:a≠b:=by rcases hi with rfl|⟨_,h⟩;· exact absurd hc (by simp)
               ·exact h
  exact⟨by rw[if_neg this];exact s,fr,e0⟩
noncomputable def body36:ACode:=(.seq (.region [⟨some 1,none,(.box (.tmp 0))⟩,⟨some 2,none,(.mov (.const (.slice none 0 0)))⟩]) (.seq (.seq (.region [⟨some 3,none,(.fld 0 (.tmp 1))⟩,⟨some 4,none,(.load false 1 (.tmp 3))⟩]) (.block 0 (.seq (.region [⟨some 6,none,(.bin .eql (.tmp 4) (.const (.int .u8 1)))⟩,⟨some 5,none,(.mov (.tmp 6))⟩]) (.cond (.tmp 5) (.seq (.region [⟨some 7,none,(.fld 2 (.tmp 1))⟩,⟨some 8,none,(.load false 1 (.tmp 7))⟩,⟨some 9,none,(.buildSlice 1 1 [(.int .i64 0)] [(0,1,(.tmp 8))])⟩,⟨some 2,none,(.mov (.tmp 9))⟩]) .ret) (.seq (.region [⟨some 11,none,(.bin .eql (.tmp 4) (.const (.int .u8 2)))⟩,⟨some 10,none,(.mov (.tmp 11))⟩]) (.cond (.tmp 10) (.seq (.region [⟨some 12,none,(.fld 2 (.tmp 1))⟩,⟨some 13,none,(.load false 1 (.tmp 12))⟩,⟨some 14,none,(.fld 3 (.tmp 1))⟩,⟨some 15,none,(.load false 1 (.tmp 14))⟩,⟨some 16,none,(.buildSlice 2 1 [(.int .i64 0)] [(0,1,(.tmp 13)),(1,1,(.tmp 15))])⟩,⟨some 17,none,(.call (.func 51) [(.tmp 16)])⟩,⟨some 2,none,(.mov (.tmp 17))⟩]) .ret) .skip)))))) (.seq (.region [⟨some 2,none,(.mov (.const (.slice none 0 0)))⟩]) .ret)))
set_option maxRecDepth 100000 in
theorem tab36:tb.code 36=some ⟨18,[(2,none)],body36⟩:=by kernel_rfl
theorem next_ok (h:AHeap) (x:LEnd):
  WC Tryz.prog tb 36 [.agg #[.int .u8 x.kind,I x.a,I x.to,I x.els]] h fun r h'=>SlI h' r (ZQ x)∧Fresh h r∧Ext h h':=by
 refine WC.of (zG 36) tab36 ?_;simp only[zN,Nat.zero_add,Nat.reduceAdd]
 refine go ?_
 refine WO.bx ?_
 intro p h1 e1 o1
 refine go ?_
 refine WX.br (fun hb=> ?_) (fun hb=> ?_)<;>simp only[DB]at hb<;>refine go ?_
 ·refine WO.bl [x.to] ?_
  intro v h2 e2 o2
  refine go ?_
  refine rt ?_
  refine⟨?_,(zDg o2).since e1.n,e1.trans e2⟩
  rw[ZQ,if_pos hb];exact o2.sl
 refine WX.br (fun hc=> ?_) (fun hc=> ?_)<;>simp only[DB]at hc<;>refine go ?_
 ·refine WO.bl [x.to,x.els] ?_
  intro v h2 e2 o2
  refine go ?_
  refine WO.con (zGT h1 h2 v x.to x.els e2 o2) ?_
  rintro r h3 ⟨s3,f3,e3⟩
  refine go ?_
  refine rt ?_
  refine⟨?_,f3.since e1.n,e1.trans e3⟩
  rw[ZQ,if_neg hb,if_pos hc];exact s3
 ·refine rt ?_
  refine⟨?_,(fun a k c e=>by cases e),e1⟩
  rw[ZQ,if_neg hb,if_neg hc];exact SlI.nil _
def zD (T:List LType) (F:List LFn) (f b:Int):List LBlk×Int:=
 if (yp T F f).2≠0 then ([],(yp T F f).2) else if b<0∨((F.getD f.toNat default).blocks.length:Int)≤b then ([],2) else ((F.getD f.toNat default).blocks,0)
theorem Zx {T:List LType} {F:List LFn} {f:Int} (h:(yp T F f).2=0):0≤f∧f<(F.length:Int)∧ZY T F=0:=by
 have hb2:(zY T F f).2=0:=by
  unfold yp at h
  split at h
  ·rename_i hn;exact absurd h hn
  ·rename_i hn;omega
 unfold zY at hb2
 split at hb2
 ·rename_i hp;exact absurd hb2 hp
 ·rename_i hp
  split at hb2
  ·rename_i hc;unfold zM at hc;simp at hc;exact⟨hc.1,hc.2,by omega⟩
  ·cases hb2
noncomputable def body35:ACode:=(.seq (.region [⟨some 3,none,(.box (.tmp 0))⟩,⟨some 6,none,(.mov (.const (.slice none 0 0)))⟩,⟨some 7,none,(.mov (.const (.int .i64 0)))⟩]) (.seq (.seq (.region [⟨some 11,none,(.load true 2 (.tmp 3))⟩,⟨some 12,none,(.mov (.tmp 1))⟩,⟨some 13,none,(.call (.func 50) [(.tmp 11),(.tmp 12)])⟩,⟨some 10,none,(.mov (.tmp 13))⟩,⟨some 14,none,(.extract (.tmp 10) 0)⟩,⟨some 15,none,(.extract (.tmp 10) 1)⟩,⟨some 8,none,(.mov (.tmp 14))⟩,⟨some 9,none,(.mov (.tmp 15))⟩]) (.seq (.region [⟨some 16,none,(.mov (.tmp 9))⟩,⟨some 17,none,(.bin .neq (.tmp 16) (.const (.int .i64 0)))⟩]) (.cond (.tmp 17) (.seq (.region [⟨some 18,none,(.mov (.tmp 9))⟩,⟨some 6,none,(.mov (.const (.slice none 0 0)))⟩,⟨some 7,none,(.mov (.tmp 18))⟩]) .ret) .skip))) (.seq (.seq (.region [⟨some 19,none,(.mov (.tmp 2))⟩,⟨some 20,none,(.bin .lss (.tmp 19) (.const (.int .i64 0)))⟩,⟨some 21,none,(.mov (.tmp 20))⟩,⟨some 22,some (21,false),(.mov (.tmp 2))⟩,⟨some 23,some (21,false),(.fld 1 (.tmp 3))⟩,⟨some 24,some (21,false),(.load false 1 (.tmp 23))⟩,⟨some 25,some (21,false),(.mov (.tmp 1))⟩,⟨some 26,some (21,false),(.idx 2 (.tmp 24) (.tmp 25))⟩,⟨some 27,some (21,false),(.fld 1 (.tmp 26))⟩,⟨some 28,some (21,false),(.load false 1 (.tmp 27))⟩,⟨some 29,some (21,false),(.len (.tmp 28))⟩,⟨some 30,some (21,false),(.bin .geq (.tmp 22) (.tmp 29))⟩,⟨some 31,none,(.pick (.tmp 21) (.const (.bool true)) (.tmp 30))⟩]) (.cond (.tmp 31) (.seq (.region [⟨some 6,none,(.mov (.const (.slice none 0 0)))⟩,⟨some 7,none,(.mov (.const (.int .i64 2)))⟩]) .ret) .skip)) (.seq (.region [⟨some 32,none,(.fld 1 (.tmp 3))⟩,⟨some 33,none,(.load false 1 (.tmp 32))⟩,⟨some 34,none,(.mov (.tmp 1))⟩,⟨some 35,none,(.idx 2 (.tmp 33) (.tmp 34))⟩,⟨some 36,none,(.fld 1 (.tmp 35))⟩,⟨some 37,none,(.load false 1 (.tmp 36))⟩,⟨some 6,none,(.mov (.tmp 37))⟩,⟨some 7,none,(.mov (.const (.int .i64 0)))⟩]) .ret))))
set_option maxRecDepth 100000 in
theorem tab35:tb.code 35=some ⟨38,[(6,none),(7,none)],body35⟩:=by kernel_rfl
theorem zDd (h:AHeap) (vt vf:Value) (T:List LType) (F:List LFn) (f b:Int) (tt:Tbl h) (hm:h.mark≤h.n) (sm:Small T F) (st:SlT h vt T) (sf:SlF h vf F):
  WC Tryz.prog tb 35 [.agg #[vt,vf],I f,I b] h fun r h'=>(∃ v,r= .tuple #[v,I (zD T F f b).2]∧SlB h' v (zD T F f b).1)∧Ext h h':=by
 refine WC.of (zG 35) tab35 ?_;simp only[zN,Nat.zero_add,Nat.reduceAdd]
 refine go ?_
 refine WO.bx ?_
 intro p h1 e1 o1
 refine go ?_
 refine WO.con (regs_ok h1 vt vf T F f (tt.ext e1) (zh e1 hm) sm (st.ext e1) (SlF.ext sf e1)) ?_
 rintro _ h2 ⟨rfl,e2⟩
 have e12:=e1.trans e2
 have o1:=o1.ext e2
 have sf2:=SlF.ext sf e12
 have hF:=sm.funcs
 refine go ?_
 refine WX.br (fun hb=> ?_) (fun hb=> ?_)<;>simp only[DB]at hb<;>refine go ?_
 ·refine rt ?_
  rw[show zD T F f b=([],(yp T F f).2) from by rw[zD,if_pos hb]]
  exact⟨⟨_,rfl,SlR.nil⟩,e12⟩
 have hb0:(yp T F f).2=0:=by omega
 have hin:=Zx hb0
 obtain⟨csF,⟨vb,rfl,sb,hlb⟩,pcF,hsF⟩:=zX (i:=f.toNat) sf2 (by omega)
 refine WO.sp (fun hc=> ?_) (fun hc=> ?_)<;>simp only[DB]at hc<;>refine go ?_
 ·refine rt ?_
  rw[show zD T F f b=([],2) from by rw[zD,if_neg (by omega),if_pos (.inl hc)]]
  exact⟨⟨_,rfl,SlR.nil⟩,e12⟩
 refine WX.br (fun hd=> ?_) (fun hd=> ?_)<;>simp only[DB]at hd<;>refine go ?_<;>refine rt ?_
 ·rw[show zD T F f b=([],2) from by rw[zD,if_neg (by omega),if_pos (.inr hd)]]
  exact⟨⟨_,rfl,SlR.nil⟩,e12⟩
 ·rw[show zD T F f b=((F.getD f.toNat default).blocks,0) from by rw[zD,if_neg (by omega),if_neg (by omega)]]
  exact⟨⟨_,rfl,sb⟩,e12⟩
def zBq (T:List LType) (F:List LFn) (f b:Int):List Int×Int:=
 if (zD T F f b).2≠0 then ([],(zD T F f b).2) else (ZQ ((zD T F f b).1.getD b.toNat default).fin,0)
theorem yN {T:List LType} {F:List LFn} {f b:Int} (h:(zD T F f b).2=0):0≤b∧b<((zD T F f b).1.length:Int)∧(zD T F f b).1=(F.getD f.toNat default).blocks∧(yp T F f).2=0:=by
 unfold zD at h ⊢
 split at h
 ·rename_i hn;exact absurd h hn
 ·rename_i hn
  rw[if_neg hn]
  split at h
  ·cases h
  ·rename_i hb
   rw[if_neg hb]
   exact⟨by omega,by simp only;omega,rfl,by omega⟩
end Go.Proofs.YtdcgdfbblnljjaaGreatDoor
namespace Go.Proofs.YtdcgdfbblnljjaaGreatDoor
open Go.Am
set_option linter.unusedVariables false
set_option linter.unusedSimpArgs false
set_option maxHeartbeats 4000000
theorem mem_of {l:List Int} {n:Int} {i:Nat} (h:i<l.length) (e:l.getD i 0=n):n∈l:=e▸z0 h
theorem zGQ {l:List Int} {n:Int} (h:∀ i,i<l.length→l.getD i 0≠n):n∉l:=fun hn=>by
 obtain⟨i,hi,e⟩:=ZA hn
 exact h i hi e
noncomputable def body55_0:ACode:=(.seq (.region [⟨some 9,none,(.bin .lss (.tmp 8) (.tmp 7))⟩]) (.seq (.cond (.tmp 9) .skip (.exit 0)) (.seq (.block 1 (.seq (.region [⟨some 10,none,(.mov (.tmp 8))⟩,⟨some 5,none,(.mov (.tmp 10))⟩]) (.seq (.region [⟨some 11,none,(.mov (.tmp 1))⟩,⟨some 12,none,(.mov (.tmp 0))⟩,⟨some 13,none,(.mov (.tmp 5))⟩,⟨some 14,none,(.idx 1 (.tmp 12) (.tmp 13))⟩,⟨some 15,none,(.load false 1 (.tmp 14))⟩,⟨some 16,none,(.bin .eql (.tmp 11) (.tmp 15))⟩]) (.cond (.tmp 16) (.seq (.region [⟨some 17,none,(.mov (.tmp 5))⟩,⟨some 4,none,(.mov (.tmp 17))⟩]) .ret) .skip)))) (.region [⟨some 18,none,(.bin .add (.tmp 8) (.const (.int .i64 1)))⟩,⟨some 8,none,(.mov (.tmp 18))⟩]))))
noncomputable def body55:ACode:=(.seq (.region [⟨some 4,none,(.mov (.const (.int .i64 0)))⟩]) (.seq (.seq (.region [⟨some 6,none,(.mov (.tmp 0))⟩,⟨some 7,none,(.len (.tmp 6))⟩,⟨some 8,none,(.mov (.const (.int .i64 0)))⟩]) (.block 0 (.loop body55_0))) (.seq (.region [⟨some 4,none,(.mov (.const (.int .i64 (-1))))⟩]) .ret)))
set_option maxRecDepth 100000 in
theorem tab55:tb.code 55=some ⟨19,[(4,none)],body55⟩:=by kernel_rfl
theorem index_ok (h:AHeap) (v:Value) (l:List Int) (n:Int) (s:SlI h v l) (hl:(l.length:Int)≤9223372036854775807):
  WC Tryz.prog tb 55 [v,I n] h fun r h'=>(∃ k:Int,r=I k∧decide (0≤k)=decide (n∈l))∧h=h':=by
 refine WC.of (zG 55) tab55 ?_;simp only[zN,Nat.zero_add,Nat.reduceAdd]
 refine go ?_
 refine WX.loopA [9,10,5,11,12,13,14,15,16,17,4,18,8] (by kernel_rfl) (fun i=>l.length - i) (fun i t h1=>h=h1∧zB t 8=I i∧i≤l.length∧∀ j,j<i→l.getD j 0≠n) 0 ?_ ?_
 ·exact⟨rfl,sl_,Nat.zero_le _,fun j hj=>absurd hj (Nat.not_lt_zero _)⟩
 rintro i t _ hsame ⟨rfl,s8,hi,hm⟩
 refine go ?_
 refine WX.br (fun hb=> ?_) (fun hb=> ?_)<;>simp only[DB]at hb
 ·have hi':i<l.length:=by omega
  refine go ?_
  refine WX.br (fun hc=> ?_) (fun hc=> ?_)<;>simp only[DB]at hc<;>refine go ?_
  ·refine rt ?_
   exact⟨⟨i,rfl,by rw[decide_eq_true (mem_of hi' hc.symm)];simp⟩,rfl⟩
  ·refine zA (i+1) (by omega) ⟨rfl,sln,by omega,fun j hj=> ?_⟩
   by_cases e:j=i
   ·subst e;exact fun h=>hc h.symm
   ·exact hm j (by omega)
 ·refine go ?_
  refine rt ?_
  exact⟨⟨-1,rfl,by rw[decide_eq_false (zGQ fun j hj=>hm j (by omega))];rfl⟩,rfl⟩
noncomputable def body38:ACode:=(.seq (.region [⟨some 4,none,(.mov (.const (.bool false)))⟩]) (.seq (.region [⟨some 5,none,(.mov (.tmp 0))⟩,⟨some 6,none,(.mov (.tmp 1))⟩,⟨some 7,none,(.call (.func 55) [(.tmp 5),(.tmp 6)])⟩,⟨some 8,none,(.bin .geq (.tmp 7) (.const (.int .i64 0)))⟩,⟨some 4,none,(.mov (.tmp 8))⟩]) .ret))
set_option maxRecDepth 100000 in
theorem tab38:tb.code 38=some ⟨9,[(4,none)],body38⟩:=by kernel_rfl
theorem zFa (h:AHeap) (v:Value) (l:List Int) (n:Int) (s:SlI h v l) (hl:(l.length:Int)≤9223372036854775807):
  WC Tryz.prog tb 38 [v,I n] h fun r h'=>r= .bool (decide (n∈l))∧h=h':=by
 refine WC.of (zG 38) tab38 ?_;simp only[zN,Nat.zero_add,Nat.reduceAdd]
 refine go ?_
 refine WO.con (index_ok h v l n s hl) ?_
 rintro _ _ ⟨⟨k,rfl,e⟩,rfl⟩
 refine go ?_
 refine rt ?_
 exact⟨by rw[←e];rfl,rfl⟩
end Go.Proofs.YtdcgdfbblnljjaaGreatDoor
namespace Go.Proofs.YtdcgdfbblnljjaaGreatDoor
open Go.Am
set_option linter.unusedVariables false
set_option linter.unusedSimpArgs false
abbrev DS:=List (Int×Int)×List Int
def yj (nx:Int→List Int):Nat→Int→DS→DS
 |0,_,s=>s
 |n+1,b,s=>if (s.1.lookup b).isSome then s else
  (((nx b).foldl (fun (t:DS) (c:Int)=>yj nx n c t) (s.1++[(b,(s.1.length:Int))],s.2)).1,((nx b).foldl (fun (t:DS) (c:Int)=>yj nx n c t) (s.1++[(b,(s.1.length:Int))],s.2)).2++[b])
def ZL (nx:Int→List Int) (n:Nat) (l:List Int) (s:DS):DS:=l.foldl (fun s c=>yj nx n c s) s
def unb (N:Nat) (es:List (Int×Int)):Nat:=((List.range N).filter fun (i:Nat)=>(es.lookup ((i:Nat):Int)).isNone).length
theorem Yt {es:List (Int×Int)} {b v c:Int}:(es++[(b,v)]).lookup c=match es.lookup c with|some w=>some w|none=>if c=b then some v else none:=by
 induction es with
 |nil=>
  simp only[List.nil_append,List.lookup_cons,List.lookup_nil]
  by_cases h:c=b
  ·subst h;simp
  ·have:(c == b)=false:=by simpa using h
   rw[this,if_neg h]
 |cons e es ih=>
  obtain⟨k,w⟩:=e
  simp only[List.cons_append,List.lookup_cons]
  cases hk:(c == k)with
  |true=>rfl
  |false=>simp only;exact ih
theorem zFW {es:List (Int×Int)} {b v c:Int} (h:(es.lookup c).isSome):((es++[(b,v)]).lookup c).isSome:=by
 rw[Yt]
 cases hc:es.lookup c with
 |none=>rw[hc]at h;cases h
 |some w=>rfl
theorem dfs_mono {nx:Int→List Int}:∀ (n:Nat) (b:Int) (s:DS) (c:Int),(s.1.lookup c).isSome→((yj nx n b s).1.lookup c).isSome:=by
 intro n
 induction n with
 |zero=>intro b s c h;exact h
 |succ n ih=>
  intro b s c h
  unfold yj
  split
  ·exact h
  ·simp only
   have:∀ (l:List Int) (s:DS),(s.1.lookup c).isSome→((l.foldl (fun s c=>yj nx n c s) s).1.lookup c).isSome:=by
    intro l
    induction l with
    |nil=>intro s h;exact h
    |cons x l ihl=>intro s h;exact ihl _ (ih x s c h)
   exact this _ _ (zFW h)
theorem zDJ {nx:Int→List Int} {n:Nat} {c:Int}:∀ (l:List Int) (s:DS),(s.1.lookup c).isSome→((ZL nx n l s).1.lookup c).isSome
 |[],s,h=>h
 |x::l,s,h=>zDJ l _ (dfs_mono n x s c h)
theorem zHF {N:Nat} {p q:Nat→Bool} (h:∀ i,i<N→q i=true→p i=true):((List.range N).filter q).length≤((List.range N).filter p).length:=by
 rw[←List.countP_eq_length_filter,←List.countP_eq_length_filter]
 exact List.countP_mono_left fun i hi hq=>h i (List.mem_range.1 hi) hq
theorem zA0 {N:Nat} {es es':List (Int×Int)} (h:∀ c,(es.lookup c).isSome→(es'.lookup c).isSome):unb N es'≤unb N es:=by
 unfold unb
 apply zHF
 intro i _ hi
 cases hc:es.lookup (i:Int)with
 |none=>rfl
 |some w=>
  have:=h i (by rw[hc];rfl)
  rw[Option.isNone_iff_eq_none]at hi
  rw[hi]at this;cases this
theorem zCm {p q:Nat→Bool} {i:Nat} (hp:p i=true) (hq:q i=false):∀ {l:List Nat},(∀ j∈l,q j=true→p j=true)→i∈l→l.countP q<l.countP p
 |[],_,h=>by cases h
 |x::l,hl,h=>by
  have hle:l.countP q≤l.countP p:=List.countP_mono_left fun j hj hqj=>hl j (by simp[hj]) hqj
  by_cases e:x=i
  ·subst e
   simp only[List.countP_cons,hp,hq,if_true]
   simp;omega
  ·have him:i∈l:=by
    rcases List.mem_cons.1 h with h|h
    ·exact absurd h.symm e
    ·exact h
   have:=zCm hp hq (l:=l) (fun j hj=>hl j (by simp[hj])) him
   simp only[List.countP_cons]
   cases hqx:q x with
   |false=>simp;omega
   |true=>rw[hl x (by simp) hqx];simp;omega
theorem zC4 {N:Nat} {es:List (Int×Int)} {b v:Int} (h:es.lookup b=none) (hb:0≤b∧b<(N:Int)):unb N (es++[(b,v)])<unb N es:=by
 unfold unb
 rw[←List.countP_eq_length_filter,←List.countP_eq_length_filter]
 obtain⟨i,rfl⟩:∃ i:Nat,b=i:=⟨b.toNat,by omega⟩
 refine zCm (i:=i) (by simp[h]) (by simp[Yt,h]) (fun j _ hj=> ?_) (List.mem_range.2 (by omega))
 rw[Yt]at hj
 cases hc:es.lookup (j:Int)with
 |none=>rfl
 |some w=>rw[hc]at hj;cases hj
theorem zEa {N:Nat} {es:List (Int×Int)} (h:unb N es=0) {b:Int} (hb:0≤b∧b<(N:Int)):(es.lookup b).isSome:=by
 cases hc:es.lookup b with
 |some w=>rfl
 |none=>have:=zC4 (v:=0) hc hb;omega
theorem zBV {nx:Int→List Int} {N:Nat} (hin:∀ b,0≤b∧b<(N:Int)→∀ c∈nx b,0≤c∧c<(N:Int)):∀ (n:Nat) (b:Int) (s:DS),0≤b∧b<(N:Int)→(yj nx n b s).2.length+unb N (yj nx n b s).1≤s.2.length+unb N s.1:=by
 intro n
 induction n with
 |zero=>intro b s _;exact Nat.le_refl _
 |succ n ih=>
  intro b s hb
  unfold yj
  split
  ·exact Nat.le_refl _
  ·rename_i hns
   have hnone:s.1.lookup b=none:=by
    cases hc:s.1.lookup b with
    |none=>rfl
    |some w=>rw[hc]at hns;exact absurd rfl hns
   have:∀ (l:List Int) (s:DS),(∀ c∈l,0≤c∧c<(N:Int))→(l.foldl (fun s c=>yj nx n c s) s).2.length+unb N (l.foldl (fun s c=>yj nx n c s) s).1≤s.2.length+unb N s.1:=by
    intro l
    induction l with
    |nil=>intro s _;exact Nat.le_refl _
    |cons x l ihl=>intro s hl;exact Nat.le_trans (ihl _ fun c hc=>hl c (by simp[hc])) (ih x s (hl x (by simp)))
   have h1:=this (nx b) (s.1++[(b,(s.1.length:Int))],s.2) (hin b hb)
   have h2:=zC4 (v:=(s.1.length:Int)) hnone hb
   simp only[List.length_append,List.length_singleton]at *
   omega
end Go.Proofs.YtdcgdfbblnljjaaGreatDoor
namespace Go.Am
section
variable {P:Program} {tab:Tab} {t:Trie Value} {h h0:AHeap} {ds:List Deferred} {rd:Option Nat} {l:List AOper} {Q:AFr→AHeap→Prop} {d:Nat}
theorem WO.appendF {x y:Operand} {v w:Value} {xs ys:List Int} (hx:ev t x=v) (hy:ev t y=w) (o:OwnN h0 h v xs) (s:SlI h w ys) (e0:Ext h0 h) (hne:ys≠[]) (hr:xs.length+ys.length≤4294967296)
  (k:∀ h',Ext h0 h'→OwnI h0 h' (.slice (some ⟨h.n,0,none⟩) (xs++ys).length 1) (xs++ys)→Upd v h h'→WO P tab l ⟨t.set d (.slice (some ⟨h.n,0,none⟩) (xs++ys).length 1),ds,rd⟩ h' Q):WO P tab (⟨some d,none,.append 1 x y⟩::l) ⟨t,ds,rd⟩ h Q:=by
 have hsrc:=YG s
 have hroom:room=4294967296:=rfl
 obtain⟨z,zs,rfl⟩:∃ z zs,ys=z::zs:=by
  cases ys with
  |nil=>exact absurd rfl hne
  |cons z zs=>exact⟨z,zs,rfl⟩
 have hone:zQ (I z::zs.map I)=true:=zCk (z::zs)
 have hlen:(I z::zs.map I).length / 1=(z::zs).length:=by simp
 rcases o with ⟨rfl,rfl⟩|⟨g,g1,g2,rfl,g3⟩
 ·have h1:Nat.ble (z::zs).length room=true:=Nat.ble_eq_true_of_le (by rw[hroom];simpa using hr)
  refine WO.op (.slice (some ⟨h.n,0,none⟩) (z::zs).length 1) (h.push (.row ((z::zs).map I) true 0)) rfl ?_ (k _ (e0.push _) ⟨h.n,e0.n,by simp[AHeap.push],rfl,zj _ _⟩ ⟨Nat.le_succ _,fun k hk _=> ?_⟩)
  ·simp only[aop,hx,hy,yZ,hsrc,List.map_cons,hone,hlen,h1,Bool.not_true,cond_true,cond_false]
   rfl
  ·rw[zR,if_neg (by omega)]
 ·have h1:Nat.ble (xs.length+(z::zs).length) room=true:=Nat.ble_eq_true_of_le (by rw[hroom];exact hr)
  have h2:cut (xs.map I) 0 (xs.length * 1)=some (xs.map I):=by rw[ZC (by simp)];simp[List.take_of_length_le]
  have hn:(h.kill g).n=h.n:=rfl
  have h3:Nat.ble 0 (0+xs.length * 1)=true:=Nat.ble_eq_true_of_le (Nat.zero_le _)
  have hl:xs.length+(z::zs).length=(xs++z::zs).length:=(List.length_append ..).symm
  refine WO.op (.slice (some ⟨h.n,0,none⟩) (xs++z::zs).length 1) ((h.kill g).push (.row (xs.map I++(z::zs).map I) true (0 - 0))) rfl ?_
   (k _ ((e0.kill g1).push _) ⟨h.n,e0.n,by simp[AHeap.push,AHeap.kill],rfl,?_⟩ ⟨Nat.le_succ _,fun k hk hv=> ?_⟩)
  ·rw[←hl]
   simp only[aop,hx,hy,yZ,hsrc,List.map_cons,hone,hlen,h1,g3,h2,h3,Bool.not_true,cond_true,cond_false]
   rfl
  ·have:=zj (h.kill g) (.row (xs.map I++(z::zs).map I) true (0 - 0))
   rw[hn]at this
   rw[this];simp
  ·rw[zR,if_neg (by rw[hn];omega),yT,if_neg (fun e=>hv _ _ _ rfl e.symm)]
end
end Go.Am
namespace Go.Proofs.YtdcgdfbblnljjaaGreatDoor
open Go.Am
set_option linter.unusedVariables false
set_option linter.unusedSimpArgs false
set_option maxHeartbeats 4000000
def NotW (p vm vd:Value) (g:Nat):Prop:=p≠ .pointer (some ⟨g,0,none⟩)∧vm≠ .map (some g)∧∀ a n c,vd= .slice (some a) n c→a.block≠g
structure WS (hB h:AHeap) (p vl vm vd:Value) (s:DS):Prop where
 own:OwnC hB h p [vl,vm,vd]
 map:OwnM hB h vm s.1
 dn:OwnN hB h vd s.2
 ext:Ext hB h
def Keep (h h':AHeap) (p vm vd vd':Value):Prop:=h.n≤h'.n∧∀ g,g<h.n→NotW p vm vd g→h'.get g=h.get g∧NotW p vm vd' g
theorem Keep.refl (h:AHeap) (p vm vd:Value):Keep h h p vm vd vd:=⟨Nat.le_refl _,fun _ _ n=>⟨rfl,n⟩⟩
theorem Keep.trans {h h1 h2:AHeap} {p vm vd vd1 vd2:Value} (a:Keep h h1 p vm vd vd1) (b:Keep h1 h2 p vm vd1 vd2):Keep h h2 p vm vd vd2:=
 ⟨Nat.le_trans a.1 b.1,fun g hg nw=>let ⟨x,y⟩:=a.2 g hg nw;let ⟨u,v⟩:=b.2 g (Nat.lt_of_lt_of_le hg a.1) y;⟨u.trans x,v⟩⟩
theorem Keep.ext {h h':AHeap} (e:Ext h h') (p vm vd:Value):Keep h h' p vm vd vd:=⟨e.n,fun g hg n=>⟨e.get g hg,n⟩⟩
def Off (h:AHeap) (p vm vd v:Value) (l:List Int):Prop:=l=[]∨∃ g off,v= .slice (some ⟨g,off,none⟩) l.length 1∧g<h.n∧NotW p vm vd g
theorem sl_empty {h h':AHeap} {v:Value} (s:SlI h v []):SlI h' v []:=by
 refine⟨rfl,.inl ⟨rfl,?_⟩⟩
 rcases s.2 with ⟨_,hv⟩|⟨g,off,row,hv,_⟩
 ·exact hv
 ·exact .inr ⟨_,_,hv⟩
theorem Keep.sl {h h':AHeap} {p vm vd vd' v:Value} {l:List Int} (k:Keep h h' p vm vd vd') (s:SlI h v l) (o:Off h p vm vd v l):SlI h' v l∧Off h' p vm vd' v l:=by
 rcases o with rfl|⟨g,off,rfl,hg,nw⟩
 ·exact⟨sl_empty s,.inl rfl⟩
 ·obtain⟨e1,e2⟩:=k.2 g hg nw
  refine⟨⟨s.1,?_⟩,.inr ⟨g,off,rfl,Nat.lt_of_lt_of_le hg k.1,e2⟩⟩
  rcases s.2 with ⟨h0,hv⟩|⟨g',off',row,hv,hr,hc,hl⟩
  ·exact .inl ⟨h0,hv⟩
  ·cases hv
   exact .inr ⟨g,off,row,rfl,by unfold yH at *;rw[e1];exact hr,hc,Nat.lt_of_lt_of_le hg k.1⟩
theorem zIG {hB h h2:AHeap} {p vl vm vd v:Value} {s:DS} {l:List Int} (w:WS hB h p vl vm vd s) (f:Fresh h v) (sl:SlI h2 v l):Off h2 p vm vd v l:=by
 rcases sl.2 with ⟨h0,hv⟩|⟨g,off,row,hv,hr,hc,hl⟩
 ·exact .inl (List.length_eq_zero_iff.1 h0)
 ·refine .inr ⟨g,off,hv,hl,?_⟩
  have hg:h.n≤g:=f _ _ _ hv
  obtain⟨g1,_,a1,rfl,_⟩:=w.own
  obtain⟨g2,_,_,_,a2,rfl,_⟩:=w.map
  refine⟨fun e=>by cases e;omega,fun e=>by cases e;omega,fun a n c e he=> ?_⟩
  rcases w.dn with ⟨rfl,_⟩|⟨g3,_,a3,rfl,_⟩
  ·cases e
  ·cases e;simp only at he;omega
theorem zEK {h0 h1 h:AHeap} {p v:Value} {a:Option Addr} {n k:Nat} {cs:List Value} {xs:List Int} (o:OwnC h0 h p (.slice a n k::cs)) (i:OwnN h1 h v xs):∀ b m c,v= .slice (some b) m c→p≠ .pointer (some ⟨b.block,0,none⟩):=by
 intro b m c hv hp
 obtain⟨g,_,_,rfl,hg⟩:=o
 rcases i with ⟨rfl,_⟩|⟨g2,_,_,rfl,hg2⟩
 ·cases hv
 ·cases hv;cases hp
  rw[hg]at hg2
  cases xs with
  |nil=>cases hg2
  |cons x xs=>cases hg2
theorem OwnC.upd {h0 h h':AHeap} {p v:Value} {a:Option Addr} {n k:Nat} {cs:List Value} {xs:List Int} (o:OwnC h0 h p (.slice a n k::cs)) (i:OwnN h0 h v xs) (u:Upd v h h'):OwnC h0 h' p (.slice a n k::cs):=by
 have hne:=zEK o i
 obtain⟨g,g1,g2,rfl,hg⟩:=o
 exact⟨g,g1,Nat.lt_of_lt_of_le g2 u.1,rfl,(u.2 g g2 fun b m c hv e=>hne b m c hv (by rw[e])).trans hg⟩
theorem OwnC.updM {h0 h h':AHeap} {p m:Value} {cs:List Value} {es:List (Int×Int)} (o:OwnC h0 h p cs) (i:OwnM h0 h m es) (u:UpdM m h h'):OwnC h0 h' p cs:=by
 obtain⟨g,g1,g2,rfl,hg⟩:=o
 refine⟨g,g1,Nat.lt_of_lt_of_le g2 u.1,rfl,(u.2 g g2 fun e=> ?_).trans hg⟩
 obtain⟨g3,_,_,_,_,rfl,h3,_⟩:=i
 cases e;rw[hg]at h3;cases h3
theorem OwnM.updC {h0 h h':AHeap} {p m:Value} {cs:List Value} {es:List (Int×Int)} (i:OwnM h0 h m es) (o:OwnC h0 h p cs) (u:UpdC p h h'):OwnM h0 h' m es:=by
 obtain⟨g3,c,es',g1,g2,rfl,h3,h4⟩:=i
 refine⟨g3,c,es',g1,Nat.lt_of_lt_of_le g2 u.1,rfl,(u.2 g3 g2 fun e=> ?_).trans h3,h4⟩
 obtain⟨g,_,_,rfl,hg⟩:=o
 cases e;rw[h3]at hg;cases hg
theorem OwnI.updC {h0 h h':AHeap} {p v:Value} {a:Option Addr} {n k:Nat} {cs:List Value} {xs:List Int} (i:OwnI h0 h v xs) (o:OwnC h0 h p (.slice a n k::cs)) (u:UpdC p h h'):OwnI h0 h' v xs:=by
 have hne:=zEK o (.inr i)
 obtain⟨g,g1,g2,rfl,hg⟩:=i
 exact⟨g,g1,Nat.lt_of_lt_of_le g2 u.1,rfl,(u.2 g g2 fun e=>hne _ _ _ rfl e).trans hg⟩
def nxL (L:List LBlk) (b:Int):List Int:=ZQ (L.getD b.toNat default).fin
theorem zAL {nx:Int→List Int} {n:Nat} {b:Int} {s:DS} (h:(s.1.lookup b).isSome):yj nx n b s=s:=by
 cases n with
 |zero=>rfl
 |succ n=>unfold yj;rw[if_pos h]
noncomputable def body68_0:ACode:=(.seq (.region [⟨some 11,none,(.bin .lss (.tmp 10) (.tmp 9))⟩]) (.seq (.cond (.tmp 11) .skip (.exit 0)) (.seq (.block 1 (.seq (.region [⟨some 12,none,(.idx 1 (.tmp 8) (.tmp 10))⟩,⟨some 13,none,(.load false 1 (.tmp 12))⟩,⟨some 7,none,(.mov (.tmp 13))⟩]) (.region [⟨some 14,none,(.mov (.tmp 2))⟩,⟨some 15,none,(.mov (.tmp 0))⟩,⟨some 16,none,(.mov (.tmp 7))⟩,⟨some 17,none,(.call (.tmp 14) [(.tmp 15),(.tmp 16)])⟩]))) (.region [⟨some 18,none,(.bin .add (.tmp 10) (.const (.int .i64 1)))⟩,⟨some 10,none,(.mov (.tmp 18))⟩]))))
noncomputable def body68:ACode:=(.seq (.region [⟨some 8,none,(.mov (.tmp 1))⟩,⟨some 9,none,(.len (.tmp 8))⟩,⟨some 10,none,(.mov (.const (.int .i64 0)))⟩]) (.block 0 (.loop body68_0)))
set_option maxRecDepth 100000 in
theorem tab68:tb.code 68=some ⟨19,[],body68⟩:=by kernel_rfl
theorem zGc (hB:AHeap) (L:List LBlk) (vl:Value) (hin:∀ b,0≤b∧b<(L.length:Int)→∀ c∈nxL L b,0≤c∧c<(L.length:Int)) (n:Nat)
  (IH:∀ (h:AHeap) (p vm vd:Value) (s:DS) (b:Int),WS hB h p vl vm vd s→0≤b∧b<(L.length:Int)→unb L.length s.1≤n→s.2.length+unb L.length s.1≤L.length→
   WC Tryz.prog tb 69 [p,I b] h fun r h'=>∃ vd',WS hB h' p vl vm vd' (yj (nxL L) n b s)∧Keep h h' p vm vd vd')
  (h:AHeap) (p vm vd nlv:Value) (s:DS) (l:List Int) (w:WS hB h p vl vm vd s) (sl:SlI h nlv l) (hl:(l.length:Int)≤1000) (o:Off h p vm vd nlv l) (hr:∀ c∈l,0≤c∧c<(L.length:Int)) (hu:unb L.length s.1≤n) (hd:s.2.length+unb L.length s.1≤L.length):
  WC Tryz.prog tb 68 [p,nlv,.func (.func 69) #[] #[]] h fun r h'=>∃ vd',WS hB h' p vl vm vd' (ZL (nxL L) n l s)∧Keep h h' p vm vd vd':=by
 refine WC.of (zG 68) tab68 ?_;simp only[zN,Nat.zero_add,Nat.reduceAdd]
 refine go ?_
 refine WX.loopA [11,12,13,7,14,15,16,17,18,10] (by kernel_rfl) (fun i=>l.length - i) (fun i t h1=>zB t 10=I i∧i≤l.length∧∃ vd1,WS hB h1 p vl vm vd1 (ZL (nxL L) n (l.take i) s)∧Keep h h1 p vm vd vd1) 0 ?_ ?_
 ·exact⟨sl_,Nat.zero_le _,vd,w,Keep.refl ..⟩
 rintro i t h1 hsame ⟨s10,hi,vd1,w1,k1⟩
 obtain⟨sl1,o1⟩:=k1.sl sl o
 refine go ?_
 refine WX.br (fun hc=> ?_) (fun hc=> ?_)<;>simp only[DB]at hc
 ·have hi':i<l.length:=by omega
  refine go ?_
  have hm:=z0 hi'
  have hu1:unb L.length (ZL (nxL L) n (l.take i) s).1≤n:=Nat.le_trans (zA0 fun c hc=>zDJ _ _ hc) hu
  have hd1:(ZL (nxL L) n (l.take i) s).2.length+unb L.length (ZL (nxL L) n (l.take i) s).1≤L.length:=by
   have:∀ (m:List Int) (s:DS),(∀ c∈m,0≤c∧c<(L.length:Int))→(ZL (nxL L) n m s).2.length+unb L.length (ZL (nxL L) n m s).1≤s.2.length+unb L.length s.1:=by
    intro m
    induction m with
    |nil=>intro s _;exact Nat.le_refl _
    |cons x m ih=>intro s hm;exact Nat.le_trans (ih _ fun c hc=>hm c (by simp[hc])) (zBV hin n x s (hm x (by simp)))
   exact Nat.le_trans (this _ _ fun c hc=>hr c (List.mem_of_mem_take hc)) hd
  refine WO.conV (WV.func (IH h1 p vm vd1 _ (l.getD i 0) w1 (hr _ hm) hu1 hd1)) ?_
  rintro r h2 ⟨vd2,w2,k2⟩
  refine go ?_
  refine zA (i+1) (by omega) ⟨sln,by omega,vd2,?_,k1.trans k2⟩
  have e:ZL (nxL L) n (l.take (i+1)) s=yj (nxL L) n (l.getD i 0) (ZL (nxL L) n (l.take i) s):=by
   unfold ZL
   rw[List.take_add_one,List.foldl_append];simp[List.getD,List.getElem?_eq_getElem hi']
  rw[e];exact w2
 ·refine go ?_
  refine rtN ?_
  have:i=l.length:=by omega
  subst this
  rw[List.take_length]at w1
  exact⟨vd1,w1,k1⟩
end Go.Proofs.YtdcgdfbblnljjaaGreatDoor
namespace Go.Proofs.YtdcgdfbblnljjaaGreatDoor
open Go.Am
set_option linter.unusedVariables false
set_option linter.unusedSimpArgs false
set_option maxHeartbeats 4000000
section
variable {t:Trie Value}
theorem opeL {x:Operand} {v:Value} (hx:Ope t x v:=by first|with_reducible exact Ope.const|((with_reducible apply Ope.tmp);(repeat (first|((with_reducible apply Slot.there);rfl)|((with_reducible apply Slot.same);(with_reducible assumption);rfl)));first|with_reducible exact Slot.here|with_reducible assumption|(unfold Slot;with_reducible assumption))|with_reducible exact Ope.fn|with_reducible exact Ope.glob|fail):ev t x=v:=hx
end
theorem zFQ (x:LEnd):(ZQ x).length≤2:=by
 unfold ZQ
 split
 ·simp
 ·split
  ·split<;>simp
  ·simp
theorem zEU {h0 h:AHeap} {p:Value} {cs:List Value} (o:OwnC h0 h p cs):∃ g,p= .pointer (some ⟨g,0,none⟩):=let ⟨g,_,_,e,_⟩:=o;⟨g,e⟩
theorem zHD {hB h h':AHeap} {p vl vm vd:Value} (u:UpdM vm h h'):Keep h h' p vm vd vd:=⟨u.1,fun g hg n=>⟨u.2 g hg n.2.1,n⟩⟩
theorem keep_upd {h h':AHeap} {p vm vd:Value} {q:Nat} {k c:Nat} (u:Upd vd h h') (hq:q=h.n):Keep h h' p vm vd (.slice (some ⟨q,0,none⟩) k c):=
 ⟨u.1,fun g hg n=>⟨u.2 g hg n.2.2,n.1,n.2.1,fun a k c e=>by cases e;simp only;omega⟩⟩
theorem zHS {h h':AHeap} {p vm vd:Value} (u:UpdC p h h'):Keep h h' p vm vd vd:=⟨u.1,fun g hg n=>⟨u.2 g hg n.1,n⟩⟩
noncomputable def body69:ACode:=(.seq (.seq (.region [⟨some 7,none,(.mov (.tmp 0))⟩,⟨some 8,none,(.nilCheck (.tmp 7))⟩,⟨some 9,none,(.fld 1 (.tmp 8))⟩,⟨some 10,none,(.load false 1 (.tmp 9))⟩,⟨some 11,none,(.mov (.tmp 1))⟩,⟨some 12,none,(.lookup true (.int .i64 0) (.tmp 10) (.tmp 11))⟩,⟨some 6,none,(.mov (.tmp 12))⟩,⟨some 13,none,(.extract (.tmp 6) 0)⟩,⟨some 14,none,(.extract (.tmp 6) 1)⟩,⟨some 4,none,(.mov (.tmp 13))⟩,⟨some 5,none,(.mov (.tmp 14))⟩]) (.seq (.region [⟨some 15,none,(.mov (.tmp 5))⟩]) (.cond (.tmp 15) .ret .skip))) (.seq (.regionC [(⟨some 16,none,(.mov (.tmp 0))⟩,[]),(⟨some 17,none,(.nilCheck (.tmp 16))⟩,[]),(⟨some 18,none,(.fld 1 (.tmp 17))⟩,[]),(⟨some 19,none,(.load false 1 (.tmp 18))⟩,[]),(⟨some 20,none,(.mov (.tmp 1))⟩,[]),(⟨some 21,none,(.mov (.tmp 0))⟩,[]),(⟨some 22,none,(.nilCheck (.tmp 21))⟩,[]),(⟨some 23,none,(.fld 1 (.tmp 22))⟩,[]),(⟨some 24,none,(.load false 1 (.tmp 23))⟩,[]),(⟨some 25,none,(.lenMap (.tmp 24))⟩,[]),(⟨none,none,(.update (.tmp 19) (.tmp 20) (.tmp 25))⟩,[])]) (.seq (.region [⟨some 26,none,(.mov (.tmp 0))⟩,⟨some 27,none,(.mov (.tmp 0))⟩,⟨some 28,none,(.nilCheck (.tmp 27))⟩,⟨some 29,none,(.fld 0 (.tmp 28))⟩,⟨some 30,none,(.load false 1 (.tmp 29))⟩,⟨some 31,none,(.mov (.tmp 1))⟩,⟨some 32,none,(.idx 5 (.tmp 30) (.tmp 31))⟩,⟨some 33,none,(.fld 1 (.tmp 32))⟩,⟨some 34,none,(.load true 4 (.tmp 33))⟩,⟨some 35,none,(.call (.func 36) [(.tmp 34)])⟩,⟨some 36,none,(.call (.func 68) [(.tmp 26),(.tmp 35),(.func 69)])⟩]) (.region [⟨some 37,none,(.mov (.tmp 0))⟩,⟨some 38,none,(.mov (.tmp 0))⟩,⟨some 39,none,(.nilCheck (.tmp 38))⟩,⟨some 40,none,(.fld 2 (.tmp 39))⟩,⟨some 41,none,(.load false 1 (.tmp 40))⟩,⟨some 42,none,(.mov (.tmp 1))⟩,⟨some 43,none,(.buildSlice 1 1 [(.int .i64 0)] [(0,1,(.tmp 42))])⟩,⟨some 44,none,(.append 1 (.tmp 41) (.tmp 43))⟩,⟨some 45,none,(.nilCheck (.tmp 37))⟩,⟨some 46,none,(.fld 2 (.tmp 45))⟩,⟨none,none,(.store 1 (.tmp 46) (.tmp 44))⟩]))))
set_option maxRecDepth 100000 in
theorem tab69:tb.code 69=some ⟨47,[],body69⟩:=by kernel_rfl
theorem block_ok (hB:AHeap) (hmB:hB.mark≤hB.n) (L:List LBlk) (vl:Value) (bl:SlB hB vl L) (hL:L.length≤1000) (hin:∀ b,0≤b∧b<(L.length:Int)→∀ c∈nxL L b,0≤c∧c<(L.length:Int)):∀ (n:Nat) (h:AHeap) (p vm vd:Value) (s:DS) (b:Int),WS hB h p vl vm vd s→0≤b∧b<(L.length:Int)→unb L.length s.1≤n→s.2.length+unb L.length s.1≤L.length→
   WC Tryz.prog tb 69 [p,I b] h fun r h'=>∃ vd',WS hB h' p vl vm vd' (yj (nxL L) n b s)∧Keep h h' p vm vd vd':=by
 obtain⟨la,ln,lk,hvl⟩:=zE bl
 subst hvl
 intro n
 induction n with
 |zero=>
  intro h p vm vd s b w hb hu hd
  obtain⟨v,hv⟩:=Option.isSome_iff_exists.1 (zEa (Nat.le_zero.1 hu) hb)
  obtain⟨gp,rfl⟩:=zEU w.own
  have wo:=w.own
  have wm:=w.map
  refine WC.of (zG 69) tab69 ?_;simp only[zN,Nat.zero_add,Nat.reduceAdd]
  refine go ?_
  refine rt ?_
  exact⟨vd,w,Keep.refl ..⟩
 |succ n IH=>
  intro h p vm vd s b w hb hu hd
  obtain⟨gp,rfl⟩:=zEU w.own
  have wo:=w.own
  have wm:=w.map
  refine WC.of (zG 69) tab69 ?_;simp only[zN,Nat.zero_add,Nat.reduceAdd]
  cases hv:s.1.lookup b with
  |some v=>
   refine go ?_
   refine rt ?_
   exact⟨vd,by rw[zAL (by rw[hv];rfl)];exact w,Keep.refl ..⟩
  |none=>
   have hlt:=zC4 (v:=(s.1.length:Int)) hv hb
   refine go ?_
   refine WX.regionU2 0 rfl rfl ?_
   have o1:OwnC hB (inC (zF 0 h)) (.pointer (some ⟨gp,0,none⟩)) [.slice la ln lk,vm,vd]:=wo
   have m1:OwnM hB (inC (zF 0 h)) vm s.1:=wm
   refine goU ?_
   have hmk:h.mark≤hB.n:=by rw[w.ext.mark];exact hmB
   refine WU2.upd wm w.ext hmk hv ?_
   intro h1 e1 wm1 u1
   have wo1:=OwnC.updM wo wm u1
   have wd1:=w.dn.updM wm u1
   have k1:Keep h h1 (.pointer (some ⟨gp,0,none⟩)) vm vd vd:=zHD (hB:=hB) (vl:=vm) u1
   clear o1 m1 wo wm
   obtain⟨i,rfl⟩:∃ i:Nat,b=i:=⟨b.toNat,by omega⟩
   have bl1:=SlB.ext bl e1
   obtain⟨csB,⟨vi,rfl,si,hli⟩,pcB,hsB⟩:=zX (i:=i) bl1 (by omega)
   refine go ?_
   refine WO.con (next_ok h1 _) ?_
   rintro r h2 ⟨s2,f2,e2⟩
   have wo2:=wo1.ext e2
   have wm2:=wm1.ext e2
   have wd2:=wd1.ext e2
   have e02:=e1.trans e2
   have w1:WS hB h1 (.pointer (some ⟨gp,0,none⟩)) (.slice la ln lk) vm vd (s.1++[((i:Int),(s.1.length:Int))],s.2):=⟨wo1,wm1,wd1,e1⟩
   have w2:WS hB h2 (.pointer (some ⟨gp,0,none⟩)) (.slice la ln lk) vm vd (s.1++[((i:Int),(s.1.length:Int))],s.2):=⟨wo2,wm2,wd2,e02⟩
   have hnx:ZQ (L.getD i default).fin=nxL L (i:Int):=by unfold nxL;rw[Int.toNat_natCast]
   rw[hnx]at s2
   have hnl:(nxL L (i:Int)).length≤2:=by unfold nxL;exact zFQ _
   refine go ?_
   refine WO.con (zGc hB L (.slice la ln lk) hin n IH h2 (.pointer (some ⟨gp,0,none⟩)) vm vd r _ (nxL L (i:Int)) w2 s2 (by omega) (zIG w1 f2 s2) (hin _ hb) (by simp only;omega) (by simp only at hd ⊢;omega)) ?_
   rintro _ h3 ⟨vd3,w3,k3⟩
   have wo3:=w3.own
   refine go ?_
   refine WO.bl [(i:Int)] ?_
   intro v4 h4 e4 o4
   have wd4:=w3.dn.ext e4
   have e34:=w3.ext.trans e4
   refine go ?_
   have hbd:(ZL (nxL L) n (nxL L (i:Int)) (s.1++[((i:Int),(s.1.length:Int))],s.2)).2.length≤1000:=by
    have:∀ (m:List Int) (s:DS),(∀ c∈m,0≤c∧c<(L.length:Int))→(ZL (nxL L) n m s).2.length+unb L.length (ZL (nxL L) n m s).1≤s.2.length+unb L.length s.1:=by
     intro m
     induction m with
     |nil=>intro s _;exact Nat.le_refl _
     |cons x m ih=>intro s hm;exact Nat.le_trans (ih _ fun c hc=>hm c (by simp[hc])) (zBV hin n x s (hm x (by simp)))
    have:=this (nxL L (i:Int)) (s.1++[((i:Int),(s.1.length:Int))],s.2) (hin _ hb)
    simp only at this;omega
   refine WO.appendF (v:=vd3) (w:=v4) (by exact opeL) (by exact opeL) wd4 o4.sl e34 (by simp) (by simp only[List.length_singleton];omega) ?_
   intro h5 e5 o5 u5
   have wo5:=OwnC.upd (wo3.ext e4) wd4 u5
   have wm5:=(w3.map.ext e4).upd wd4 u5
   refine go ?_
   refine WO.stC wo5 e5 ?_ (hl:=Nat.le_refl 3)
   intro h6 e6 wo6 u6
   refine go ?_
   refine rtN ?_
   have hdf:yj (nxL L) (n+1) (i:Int) s=((ZL (nxL L) n (nxL L (i:Int)) (s.1++[((i:Int),(s.1.length:Int))],s.2)).1,(ZL (nxL L) n (nxL L (i:Int)) (s.1++[((i:Int),(s.1.length:Int))],s.2)).2++[(i:Int)]):=by
    conv=>lhs;unfold yj
    rw[if_neg (by rw[hv];exact Bool.noConfusion)];rfl
   rw[hdf]
   refine⟨_,⟨wo6,OwnM.updC wm5 wo5 u6,.inr (OwnI.updC o5 wo5 u6),e6⟩,?_⟩
   exact(((k1.trans (Keep.ext e2 ..)).trans k3).trans (Keep.ext e4 ..)).trans ((keep_upd u5 rfl).trans (zHS u6))
end Go.Proofs.YtdcgdfbblnljjaaGreatDoor
namespace Go.Proofs.YtdcgdfbblnljjaaGreatDoor
open Go.Am
set_option linter.unusedVariables false
set_option linter.unusedSimpArgs false
set_option maxHeartbeats 4000000
theorem zCN (N:Nat) (es:List (Int×Int)):unb N es≤N:=by
 unfold unb
 have:=List.length_filter_le (fun (i:Nat)=>(es.lookup ((i:Nat):Int)).isNone) (List.range N)
 simpa using this
noncomputable def body54:ACode:=(.seq (.region [⟨some 4,none,(.mov (.const (.slice none 0 0)))⟩]) (.seq (.region [⟨some 6,none,(.mov (.tmp 0))⟩,⟨some 7,none,.mkMap⟩,⟨some 8,none,(.build [(.slice none 0 0),(.map none),(.slice none 0 0)] [(0,1,(.tmp 6)),(1,1,(.tmp 7))])⟩,⟨some 9,none,(.box (.tmp 8))⟩,⟨some 5,none,(.mov (.tmp 9))⟩]) (.seq (.region [⟨some 10,none,(.mov (.tmp 5))⟩,⟨some 11,none,(.mov (.tmp 1))⟩,⟨some 12,none,(.call (.func 68) [(.tmp 10),(.tmp 11),(.func 69)])⟩]) (.seq (.region [⟨some 13,none,(.mov (.tmp 5))⟩,⟨some 14,none,(.nilCheck (.tmp 13))⟩,⟨some 15,none,(.fld 2 (.tmp 14))⟩,⟨some 16,none,(.load false 1 (.tmp 15))⟩,⟨some 4,none,(.mov (.tmp 16))⟩]) .ret))))
set_option maxRecDepth 100000 in
theorem tab54:tb.code 54=some ⟨17,[(4,none)],body54⟩:=by kernel_rfl
theorem zGm (h:AHeap) (hm:h.mark≤h.n) (L:List LBlk) (vl fv:Value) (l:List Int) (bl:SlB h vl L) (hL:L.length≤1000) (hin:∀ b,0≤b∧b<(L.length:Int)→∀ c∈nxL L b,0≤c∧c<(L.length:Int)) (sl:SlI h fv l) (hl:(l.length:Int)≤1000) (hr:∀ c∈l,0≤c∧c<(L.length:Int)):
  WC Tryz.prog tb 54 [vl,fv] h fun r h'=>OwnN h h' r (ZL (nxL L) L.length l ([],[])).2∧Ext h h':=by
 obtain⟨la,ln,lk,rfl⟩:=zE bl
 refine WC.of (zG 54) tab54 ?_;simp only[zN,Nat.zero_add,Nat.reduceAdd]
 refine go ?_
 refine WO.mkMap ?_
 intro vm h1 e1 m1
 obtain⟨gm,rfl⟩:∃ g,vm= .map (some g):=let ⟨g,_,_,_,_,e,_⟩:=m1;⟨g,e⟩
 refine go ?_
 refine WO.bx ?_
 intro p h2 e2 o2
 have e12:=e1.trans e2
 have w2:WS h h2 p (.slice la ln lk) (.map (some gm)) (.slice none 0 0) ([],[]):=⟨o2.since e1,m1.ext e2,.inl ⟨rfl,rfl⟩,e12⟩
 have hoff:Off h2 p (.map (some gm)) (.slice none 0 0) fv l:=by
  rcases sl.2 with ⟨h0,hv⟩|⟨g,off,row,hv,hr,hc,hg⟩
  ·exact .inl (List.length_eq_zero_iff.1 h0)
  ·refine .inr ⟨g,off,hv,Nat.lt_of_lt_of_le hg e12.n,?_⟩
   obtain⟨g1,a1,_,hp,_⟩:=w2.own
   obtain⟨g2,_,_,a2,_,hm2,_⟩:=w2.map
   cases hm2
   refine⟨fun e=> ?_,fun e=>by cases e;omega,fun a n c e=>by cases e⟩
   rw[hp]at e;cases e;omega
 refine go ?_
 refine WO.con (zGc h L (.slice la ln lk) hin L.length (fun h' p vm vd s b w hb hu hd=>block_ok h hm L (.slice la ln lk) bl hL hin L.length h' p vm vd s b w hb hu hd) h2 p _ _ fv ([],[]) l w2 (sl.ext e12) hl hoff hr (zCN _ _) (by have:=zCN L.length [];simp only[List.length_nil];omega)) ?_
 rintro _ h3 ⟨vd,w3,k3⟩
 obtain⟨gp,rfl⟩:=zEU w3.own
 have wo3:=w3.own
 refine go ?_
 refine rt ?_
 exact⟨w3.dn,w3.ext⟩
theorem zGw {T:List LType} {n:Int} {f:LFn} (h:fnL T n f=true):f.blocks.length≤16∧∀ b,0≤b∧b<(f.blocks.length:Int)→∀ c∈nxL f.blocks b,0≤c∧c<(f.blocks.length:Int):=by
 unfold fnL at h
 split at h
 ·cases h
 ·rename_i hbad
  have hlen:f.blocks.length≤16:=by
   unfold Yv at hbad
   simp only[Bool.or_eq_true,not_or,Bool.not_eq_true,Bool.not_eq_false']at hbad
   have h1:zM ((f.blocks.length:Int) - 1) 16=true:=by simpa using hbad.1.2
   unfold zM at h1
   simp only[Bool.and_eq_true,decide_eq_true_eq]at h1
   omega
  refine⟨hlen,fun b hb c hc=> ?_⟩
  rw[Bool.not_eq_true',List.any_eq_false]at h
  have hmem:=zL (l:=f.blocks) (i:=b.toNat) (by omega)
  have hblk:=h _ hmem
  unfold zAl at hblk
  simp only[Bool.or_eq_true,not_or,Bool.not_eq_true,Bool.not_eq_false']at hblk
  have he:Yw (f.blocks.getD b.toNat default).fin (szL T n f)=true:=by simpa using hblk.2
  unfold nxL ZQ at hc
  unfold Yw zM szL at he
  split at hc
  ·rename_i hk
   rw[if_pos hk]at he
   simp only[Bool.and_eq_true,decide_eq_true_eq]at he
   simp only[List.mem_singleton]at hc
   omega
  ·rename_i hk
   rw[if_neg hk]at he
   split at hc
   ·rename_i hk2
    rw[if_pos hk2]at he
    simp only[Bool.and_eq_true,decide_eq_true_eq]at he
    split at hc
    ·simp only[List.mem_singleton]at hc;omega
    ·simp only[List.mem_cons,List.mem_nil_iff,or_false]at hc
     rcases hc with rfl|rfl<;>omega
   ·cases hc
theorem yv {T:List LType} {F:List LFn} {f b:Int} (h:(zD T F f b).2=0):(zD T F f b).1.length≤16∧∀ c,0≤c∧c<((zD T F f b).1.length:Int)→∀ d∈nxL (zD T F f b).1 c,0≤d∧d<((zD T F f b).1.length:Int):=by
 obtain⟨_,_,h3,h4⟩:=yN h
 have hin:=Zx h4
 rw[h3]
 exact zGw ((Zp hin.2.2).2.2.2 _ (zL (l:=F) (i:=f.toNat) (by omega)))
end Go.Proofs.YtdcgdfbblnljjaaGreatDoor
namespace Go.Proofs.YtdcgdfbblnljjaaGreatDoor
open Go.Am
set_option linter.unusedVariables false
set_option linter.unusedSimpArgs false
inductive Way (nx:Int→List Int) (a:Int):Int→Prop
 |here:Way nx a a
 |step {b c:Int}:Way nx a b→c∈nx b→Way nx a c
theorem Way.trans {nx:Int→List Int} {a b c:Int} (h:Way nx a b) (k:Way nx b c):Way nx a c:=by
 induction k with
 |here=>exact h
 |step _ hc ih=>exact .step ih hc
def Bg (s:DS) (c:Int):Prop:=(s.1.lookup c).isSome=true
theorem YU {s:DS} {b v c:Int} {d:List Int}:Bg (s.1++[(b,v)],d) c↔Bg s c∨c=b:=by
 unfold Bg
 rw[Yt]
 cases h:s.1.lookup c with
 |some w=>simp
 |none=>by_cases e:c=b<;>simp[e]
structure Thru (nx:Int→List Int) (l:List Int) (s s':DS):Prop where
 mono:∀ c,Bg s c→Bg s' c
 keep:∀ c∈s.2,c∈s'.2
 all:∀ c∈l,Bg s' c
 way:∀ c,Bg s' c→Bg s c∨∃ a∈l,Way nx a c
 done:∀ c,Bg s' c→Bg s c∨c∈s'.2∧∀ d∈nx c,Bg s' d
 of:∀ c∈s'.2,c∈s.2∨Bg s' c
theorem Thru.nil (nx:Int→List Int) (s:DS):Thru nx [] s s:=
 ⟨fun _ h=>h,fun _ h=>h,(fun _ h=>by cases h),fun _ h=> .inl h,fun _ h=> .inl h,fun _ h=> .inl h⟩
theorem Thru.cons {nx:Int→List Int} {x:Int} {l:List Int} {s t u:DS} (a:Thru nx [x] s t) (b:Thru nx l t u):Thru nx (x::l) s u where
 mono:=fun c h=>b.mono c (a.mono c h)
 keep:=fun c h=>b.keep c (a.keep c h)
 all:=fun c h=>by
  rcases List.mem_cons.1 h with rfl|h
  ·exact b.mono _ (a.all _ (by simp))
  ·exact b.all _ h
 way:=fun c h=>by
  rcases b.way c h with h|⟨y,hy,w⟩
  ·rcases a.way c h with h|⟨y,hy,w⟩
   ·exact .inl h
   ·exact .inr ⟨y,by simp at hy;simp[hy],w⟩
  ·exact .inr ⟨y,by simp[hy],w⟩
 done:=fun c h=>by
  rcases b.done c h with h|h
  ·rcases a.done c h with h|⟨h,k⟩
   ·exact .inl h
   ·exact .inr ⟨b.keep _ h,fun d hd=>b.mono _ (k d hd)⟩
  ·exact .inr h
 of:=fun c h=>by
  rcases b.of c h with h|h
  ·rcases a.of c h with h|h
   ·exact .inl h
   ·exact .inr (b.mono _ h)
  ·exact .inr h
theorem dfs_thru {nx:Int→List Int} {N:Nat} (hin:∀ b,0≤b∧b<(N:Int)→∀ c∈nx b,0≤c∧c<(N:Int)):∀ (n:Nat) (b:Int) (s:DS),unb N s.1≤n→0≤b∧b<(N:Int)→Thru nx [b] s (yj nx n b s):=by
 intro n
 induction n with
 |zero=>
  intro b s h hb
  have hbb:Bg s b:=zEa (Nat.le_zero.1 h) hb
  exact⟨fun _ h=>h,fun _ h=>h,fun c hc=>by simp at hc;subst hc;exact hbb,fun _ h=> .inl h,fun _ h=> .inl h,fun _ h=> .inl h⟩
 |succ n ih=>
  intro b s h hb
  by_cases hbb:Bg s b
  ·rw[zAL hbb]
   exact⟨fun _ h=>h,fun _ h=>h,fun c hc=>by simp at hc;subst hc;exact hbb,fun _ h=> .inl h,fun _ h=> .inl h,fun _ h=> .inl h⟩
  ·have hnone:s.1.lookup b=none:=by
    unfold Bg at hbb;cases hq:s.1.lookup b with
    |none=>rfl
    |some w=>rw[hq]at hbb;exact absurd rfl hbb
   have hlt:=zC4 (v:=(s.1.length:Int)) hnone hb
   have go:∀ (l:List Int) (t:DS),unb N t.1≤n→(∀ c∈l,0≤c∧c<(N:Int))→Thru nx l t (l.foldl (fun (t:DS) (c:Int)=>yj nx n c t) t):=by
    intro l
    induction l with
    |nil=>intro t _ _;exact .nil _ _
    |cons x l ihl=>
     intro t ht hl
     have hx:=ih x t ht (hl x (by simp))
     exact hx.cons (ihl _ (Nat.le_trans (zA0 fun c hc=>hx.mono c hc) ht) fun c hc=>hl c (by simp[hc]))
   have k:=go (nx b) (s.1++[(b,(s.1.length:Int))],s.2) (by simp only;omega) (hin b hb)
   have hu:yj nx (n+1) b s=(((nx b).foldl (fun (t:DS) (c:Int)=>yj nx n c t) (s.1++[(b,(s.1.length:Int))],s.2)).1,((nx b).foldl (fun (t:DS) (c:Int)=>yj nx n c t) (s.1++[(b,(s.1.length:Int))],s.2)).2++[b]):=by
    conv=>lhs;unfold yj
    rw[if_neg (by rw[hnone];exact Bool.noConfusion)]
   rw[hu]
   generalize (nx b).foldl (fun (t:DS) (c:Int)=>yj nx n c t) (s.1++[(b,(s.1.length:Int))],s.2)=t at k ⊢
   have hb2:Bg t b:=k.mono _ (YU.2 (.inr rfl))
   refine⟨fun c h=>k.mono _ (YU.2 (.inl h)),fun c h=>by simp only[List.mem_append];exact .inl (k.keep c h),fun c hc=>by simp at hc;subst hc;exact hb2,fun c hc=> ?_,fun c hc=> ?_,fun c hc=> ?_⟩
   ·rcases k.way c hc with h|⟨a,ha,w⟩
    ·rcases YU.1 h with h|rfl
     ·exact .inl h
     ·exact .inr ⟨c,by simp,.here⟩
    ·exact .inr ⟨b,by simp,Way.trans (.step .here ha) w⟩
   ·rcases k.done c hc with h|⟨h,hd⟩
    ·rcases YU.1 h with h|rfl
     ·exact .inl h
     ·exact .inr ⟨by simp,fun d hd=>k.all d hd⟩
    ·exact .inr ⟨by simp only[List.mem_append];exact .inl h,hd⟩
   ·simp only[List.mem_append,List.mem_singleton]at hc
    rcases hc with hc|rfl
    ·exact k.of c hc
    ·exact .inr hb2
theorem zBW {nx:Int→List Int} {N n:Nat} (hin:∀ b,0≤b∧b<(N:Int)→∀ c∈nx b,0≤c∧c<(N:Int)):∀ (l:List Int) (s:DS),unb N s.1≤n→(∀ c∈l,0≤c∧c<(N:Int))→Thru nx l s (ZL nx n l s)
 |[],s,_,_=> .nil _ _
 |x::l,s,h,hl=>by
  have hx:=dfs_thru hin n x s h (hl x (by simp))
  exact hx.cons (zBW hin l _ (Nat.le_trans (zA0 fun c hc=>hx.mono c hc) h) fun c hc=>hl c (by simp[hc]))
theorem zGg {nx:Int→List Int} {N:Nat} (hin:∀ b,0≤b∧b<(N:Int)→∀ c∈nx b,0≤c∧c<(N:Int)) {l:List Int} (hl:∀ c∈l,0≤c∧c<(N:Int)) {c:Int}:c∈(ZL nx N l ([],[])).2↔∃ a∈l,Way nx a c:=by
 have k:=zBW (n:=N) hin l ([],[]) (zCN _ _) hl
 have no:∀ d,¬Bg (([],[]):DS) d:=fun d h=>by unfold Bg at h;exact Bool.noConfusion h
 constructor
 ·intro h
  rcases k.of c h with h|h
  ·cases h
  ·rcases k.way c h with h|h
   ·exact absurd h (no _)
   ·exact h
 ·rintro⟨a,ha,w⟩
  have:Bg (ZL nx N l ([],[])) c:=by
   induction w with
   |here=>exact k.all _ ha
   |step _ hc ih=>
    rcases k.done _ ih with h|⟨_,h⟩
    ·exact absurd h (no _)
    ·exact h _ hc
  rcases k.done c this with h|h
  ·exact absurd h (no _)
  ·exact h.1
end Go.Proofs.YtdcgdfbblnljjaaGreatDoor
namespace Go.Proofs.YtdcgdfbblnljjaaGreatDoor
open Go.Am
set_option linter.unusedVariables false
set_option linter.unusedSimpArgs false
theorem zCw {T:List LType} {F:List LFn} {f b:Int}:(zBq T F f b).2=(zD T F f b).2:=by
 unfold zBq;split
 ·rfl
 ·rename_i h;simp only[ne_eq,Decidable.not_not]at h;exact h.symm
theorem zBJ {T:List LType} {F:List LFn} {f b:Int} (h:(zD T F f b).2=0) {c:Int} (hc:0≤c∧c<((zD T F f b).1.length:Int)):zD T F f c=zD T F f b:=by
 obtain⟨h1,h2,h3,h4⟩:=yN h
 rw[h3]at h2 hc
 unfold zD
 rw[if_neg (by rw[h4];exact fun e=>e rfl),if_neg (by omega),if_neg (by rw[h4];exact fun e=>e rfl),if_neg (by omega)]
end Go.Proofs.YtdcgdfbblnljjaaGreatDoor
namespace Go.Proofs.YtdcgdfbblnljjaaGreatDoor
open Go.Am
set_option linter.unusedVariables false
set_option linter.unusedSimpArgs false
set_option maxHeartbeats 1000000
def zS (L:List LBlk) (b:Int) (k:Nat):List Int:=((List.range k).filter fun (i:Nat)=>decide (b∈ZQ (L.getD i default).fin)).map fun (i:Nat)=>(i:Int)
theorem zFE (L:List LBlk) (b:Int) (k:Nat):zS L b (k+1)=if b∈ZQ (L.getD k default).fin then zS L b k++[(k:Int)] else zS L b k:=by
 unfold zS
 rw[List.range_succ,List.filter_append,List.map_append]
 by_cases h:b∈ZQ (L.getD k default).fin
 ·rw[if_pos h,List.filter_cons_of_pos (by simpa using h)];rfl
 ·rw[if_neg h,List.filter_cons_of_neg (by simpa using h)];simp
theorem zAe (L:List LBlk) (b:Int) (k:Nat):(zS L b k).length≤k:=by
 unfold zS
 rw[List.length_map]
 exact Nat.le_trans (List.length_filter_le _ _) (by simp)
end Go.Proofs.YtdcgdfbblnljjaaGreatDoor
namespace Go.Proofs.YtdcgdfbblnljjaaGreatDoor
open Go.Am
set_option linter.unusedVariables false
set_option linter.unusedSimpArgs false
set_option maxHeartbeats 400000
noncomputable def body129:ACode:=(.seq (.region [⟨some 2,none,(.mov (.const (.bool false)))⟩]) (.seq (.region [⟨some 3,none,(.mov (.tmp 0))⟩,⟨some 4,none,(.mov (.tmp 0))⟩,⟨some 5,none,(.bin .neq (.tmp 3) (.tmp 4))⟩,⟨some 2,none,(.mov (.tmp 5))⟩]) .ret))
set_option maxRecDepth 100000 in
theorem tab129:tb.code 129=some ⟨6,[(2,none)],body129⟩:=by kernel_rfl
theorem isNaN_ok (h:AHeap) (n:Int):WC Tryz.prog tb 129 [I n] h fun r h'=>r= .bool false∧h=h':=by
 refine WC.of (zG 129) tab129 ?_;simp only[zN,Nat.zero_add,Nat.reduceAdd]
 refine go ?_
 refine rt ?_
 exact⟨by simp[one],rfl⟩
noncomputable def body99:ACode:=(.seq (.region [⟨some 4,none,(.mov (.const (.bool false)))⟩]) (.seq (.region [⟨some 5,none,(.mov (.tmp 0))⟩,⟨some 6,none,(.call (.func 129) [(.tmp 5)])⟩,⟨some 7,none,(.mov (.tmp 6))⟩,⟨some 8,some (7,true),(.mov (.tmp 1))⟩,⟨some 9,some (7,true),(.call (.func 129) [(.tmp 8)])⟩,⟨some 10,some (7,true),(.un .not (.tmp 9))⟩,⟨some 11,none,(.pick (.tmp 7) (.tmp 10) (.const (.bool false)))⟩,⟨some 12,none,(.mov (.tmp 11))⟩,⟨some 13,some (12,false),(.mov (.tmp 0))⟩,⟨some 14,some (12,false),(.mov (.tmp 1))⟩,⟨some 15,some (12,false),(.bin .lss (.tmp 13) (.tmp 14))⟩,⟨some 16,none,(.pick (.tmp 12) (.const (.bool true)) (.tmp 15))⟩,⟨some 4,none,(.mov (.tmp 16))⟩]) .ret))
set_option maxRecDepth 100000 in
theorem tab99:tb.code 99=some ⟨17,[(4,none)],body99⟩:=by kernel_rfl
theorem yy (h:AHeap) (a b:Int):WC Tryz.prog tb 99 [I a,I b] h fun r h'=>r= .bool (decide (a<b))∧h=h':=by
 refine WC.of (zG 99) tab99 ?_;simp only[zN,Nat.zero_add,Nat.reduceAdd]
 refine go ?_
 refine WO.con (isNaN_ok h a) ?_
 rintro _ _ ⟨rfl,rfl⟩
 refine go ?_
 refine rt ?_
 exact⟨by simp[one],rfl⟩
noncomputable def body93_0:ACode:=(.seq (.seq (.regionC [(⟨some 16,none,(.mov (.tmp 7))⟩,[]),(⟨some 17,none,(.mov (.tmp 1))⟩,[]),(⟨some 18,none,(.bin .gtr (.tmp 16) (.tmp 17))⟩,[]),(⟨some 19,none,(.mov (.tmp 18))⟩,[]),(⟨some 20,some (19,true),(.mov (.tmp 0))⟩,[]),(⟨some 21,some (19,true),(.mov (.tmp 7))⟩,[]),(⟨some 22,some (19,true),(.idx 1 (.tmp 20) (.tmp 21))⟩,[]),(⟨some 23,some (19,true),(.load false 1 (.tmp 22))⟩,[]),(⟨some 24,some (19,true),(.mov (.tmp 0))⟩,[]),(⟨some 25,some (19,true),(.mov (.tmp 7))⟩,[]),(⟨some 26,some (19,true),(.bin .sub (.tmp 25) (.const (.int .i64 1)))⟩,[]),(⟨some 27,some (19,true),(.idx 1 (.tmp 24) (.tmp 26))⟩,[]),(⟨some 28,some (19,true),(.load false 1 (.tmp 27))⟩,[]),(⟨some 29,some (19,true),(.call (.func 99) [(.tmp 23),(.tmp 28)])⟩,[]),(⟨some 30,none,(.pick (.tmp 19) (.tmp 29) (.const (.bool false)))⟩,[])]) (.cond (.tmp 30) .skip (.exit 2))) (.seq (.block 3 (.regionC [(⟨some 33,none,(.mov (.tmp 0))⟩,[]),(⟨some 34,none,(.mov (.tmp 7))⟩,[]),(⟨some 35,none,(.mov (.tmp 0))⟩,[]),(⟨some 36,none,(.mov (.tmp 7))⟩,[]),(⟨some 37,none,(.bin .sub (.tmp 36) (.const (.int .i64 1)))⟩,[]),(⟨some 38,none,(.mov (.tmp 0))⟩,[]),(⟨some 39,none,(.mov (.tmp 7))⟩,[]),(⟨some 40,none,(.bin .sub (.tmp 39) (.const (.int .i64 1)))⟩,[]),(⟨some 41,none,(.idx 1 (.tmp 38) (.tmp 40))⟩,[]),(⟨some 42,none,(.load false 1 (.tmp 41))⟩,[]),(⟨some 43,none,(.mov (.tmp 0))⟩,[]),(⟨some 44,none,(.mov (.tmp 7))⟩,[]),(⟨some 45,none,(.idx 1 (.tmp 43) (.tmp 44))⟩,[]),(⟨some 46,none,(.load false 1 (.tmp 45))⟩,[]),(⟨some 47,none,(.idx 1 (.tmp 33) (.tmp 34))⟩,[]),(⟨none,none,(.store 1 (.tmp 47) (.tmp 42))⟩,[]),(⟨some 48,none,(.idx 1 (.tmp 35) (.tmp 37))⟩,[]),(⟨none,none,(.store 1 (.tmp 48) (.tmp 46))⟩,[])])) (.region [⟨some 31,none,(.mov (.tmp 7))⟩,⟨some 32,none,(.bin .sub (.tmp 31) (.const (.int .i64 1)))⟩,⟨some 7,none,(.mov (.tmp 32))⟩])))
noncomputable def body93_1:ACode:=(.seq (.seq (.region [⟨some 10,none,(.mov (.tmp 6))⟩,⟨some 11,none,(.mov (.tmp 2))⟩,⟨some 12,none,(.bin .lss (.tmp 10) (.tmp 11))⟩]) (.cond (.tmp 12) .skip (.exit 0))) (.seq (.block 1 (.seq (.region [⟨some 15,none,(.mov (.tmp 6))⟩,⟨some 7,none,(.mov (.tmp 15))⟩]) (.block 2 (.loop body93_0)))) (.region [⟨some 13,none,(.mov (.tmp 6))⟩,⟨some 14,none,(.bin .add (.tmp 13) (.const (.int .i64 1)))⟩,⟨some 6,none,(.mov (.tmp 14))⟩])))
noncomputable def body93:ACode:=(.seq (.region [⟨some 8,none,(.mov (.tmp 1))⟩,⟨some 9,none,(.bin .add (.tmp 8) (.const (.int .i64 1)))⟩,⟨some 6,none,(.mov (.tmp 9))⟩]) (.block 0 (.loop body93_1)))
set_option maxRecDepth 100000 in
theorem tab93:tb.code 93=some ⟨49,[],body93⟩:=by kernel_rfl
theorem zDp (hB h:AHeap) (v:Value) (xs:List Int) (a b:Int) (e0:Ext hB h) (hmB:hB.mark≤hB.n) (o:OwnI hB h v xs) (h0:0≤a) (hab:a≤b) (hb:b≤xs.length) (hlen:xs.length≤1000000000):
  WC Tryz.prog tb 93 [v,I a,I b] h fun r h'=>∃ ys,OwnI hB h' v ys∧PI a b xs ys∧Srt a b ys∧Ext hB h'∧Upd v h h':=by
 refine WC.of (zG 93) tab93 ?_;simp only[zN,Nat.zero_add,Nat.reduceAdd]
 refine go ?_
 refine WX.loopA [10,11,12,15,7,16,17,18,19,20,21,22,23,24,25,26,27,28,29,30,33,34,35,36,37,38,39,40,41,42,43,44,45,46,47,48,31,32,7,13,14,6] (by kernel_rfl) (fun x=>(b - x.2).toNat) (fun (x:List Int×Int) t h1=>zB t 6=I x.2∧a+1≤x.2∧(x.2≤b∨x.2=a+1)∧OwnI hB h1 v x.1∧Ext hB h1∧Upd v h h1∧PI a b xs x.1∧Srt a x.2 x.1) (xs,a+1) ?_ ?_
 ·exact⟨sl_,by simp only;omega,.inr rfl,o,e0,⟨Nat.le_refl _,fun _ _ _=>rfl⟩,PI.refl ..,Srt.small (by simp only;omega)⟩
 rintro⟨ys,i⟩ t h1 hsame ⟨s6,hi1,hi2,o1,e1,u1,p1,r1⟩
 simp only at s6 hi1 hi2 o1 e1 u1 p1 r1
 have hyl:=p1.len
 refine go ?_
 refine WX.br (fun hc=> ?_) (fun hc=> ?_)<;>simp only[DB]at hc
 ·refine go ?_
  refine WX.loopA [16,17,18,19,20,21,22,23,24,25,26,27,28,29,30,33,34,35,36,37,38,39,40,41,42,43,44,45,46,47,48,31,32,7] (by kernel_rfl) (fun x=>(x.2 - a).toNat) (fun (x:List Int×Int) t h2=>zB t 7=I x.2∧a≤x.2∧x.2≤i∧OwnI hB h2 v x.1∧Ext hB h2∧Upd v h h2∧PI a b xs x.1∧∀ p q,a≤p→p≤q→q≤i→q≠x.2→atI x.1 p≤atI x.1 q) (ys,i) ?_ ?_
  ·exact⟨sl_,by simp only;omega,by simp only;omega,o1,e1,u1,p1,fun p q h1 h2 h3 h4=>r1 p q h1 h2 (by simp only at h4;omega)⟩
  rintro⟨zs,j⟩ t2 h2 hsame2 ⟨s7,hj1,hj2,o2,e2,u2,p2,r2⟩
  simp only at s7 hj1 hj2 o2 e2 u2 p2 r2
  have hzl:=p2.len
  refine goC ?_
  refine WX.regionU2 0 rfl rfl ?_
  have sr:SlI (inC (zF 0 h2)) v zs:=o2.sl
  refine goU ?_
  refine WO.sp (fun hd=> ?_) (fun hd=> ?_)<;>simp only[DB]at hd<;>refine goU ?_
  ·refine WO.con (yy _ (atI zs j) (atI zs (j - 1))) ?_
   rintro _ _ ⟨rfl,rfl⟩
   refine WO.nil ?_
   refine yo ?_
   refine goU ?_
   rw[YY]
   refine WX.br (fun he=> ?_) (fun he=> ?_)<;>simp only[DB]at he<;>refine goC ?_
   ·refine WX.regionU2 0 rfl rfl ?_
    have sr2:SlI (inC (zF 0 h2)) v zs:=o2.sl
    refine goU ?_
    refine WU2.swA j (j - 1) o2 e2 (by rw[e2.mark];exact hmB) ?_
    intro h3 e3 o3 u3
    refine go ?_
    exact zA (swp zs j (j - 1),j - 1) (by simp only;omega) ⟨sl_,by simp only;omega,by simp only;omega,o3,e3,u2.trans u3,p2.trans (PI.swp (by omega) (by omega) (by omega) (by omega)),zEp h0 hd hj2 (by omega) he r2⟩
   ·refine go ?_
    refine zA (zs,i+1) (by simp only;omega) ⟨sl_,by simp only;omega,by simp only;omega,o2,e2,u2,p2,fun p q h1 h2 h3=> ?_⟩
    by_cases hq:q=j
    ·subst hq
     by_cases hp:p=q
     ·subst hp;exact Int.le_refl _
     ·have:=r2 p (q - 1) h1 (by omega) (by omega) (by omega)
      simp only;omega
    ·exact r2 p q h1 h2 (by simp only at h3;omega) hq
  ·rw[YY]
   refine goC ?_
   refine zA (zs,i+1) (by simp only;omega) ⟨sl_,by simp only;omega,by simp only;omega,o2,e2,u2,p2,fun p q h1 h2 h3=> ?_⟩
   by_cases hq:q=j
   ·have hp:p=q:=by omega
    subst hp;exact Int.le_refl _
   ·exact r2 p q h1 h2 (by simp only at h3;omega) hq
 ·refine go ?_
  refine rtN ?_
  exact⟨ys,o1,p1,fun p q h1 h2 h3=>r1 p q h1 h2 (by omega),e1,u1⟩
end Go.Proofs.YtdcgdfbblnljjaaGreatDoor
namespace Go.Proofs.YtdcgdfbblnljjaaGreatDoor
open Go.Am
set_option linter.unusedVariables false
set_option linter.unusedSimpArgs false
set_option maxHeartbeats 400000
noncomputable def zHV:ACode:=(.seq (.seq (.regionC [(⟨some 30,none,(.mov (.tmp 10))⟩,[]),(⟨some 31,none,(.mov (.tmp 11))⟩,[]),(⟨some 32,none,(.bin .leq (.tmp 30) (.tmp 31))⟩,[]),(⟨some 33,none,(.mov (.tmp 32))⟩,[]),(⟨some 34,some (33,true),(.mov (.tmp 0))⟩,[]),(⟨some 35,some (33,true),(.mov (.tmp 10))⟩,[]),(⟨some 36,some (33,true),(.idx 1 (.tmp 34) (.tmp 35))⟩,[]),(⟨some 37,some (33,true),(.load false 1 (.tmp 36))⟩,[]),(⟨some 38,some (33,true),(.mov (.tmp 0))⟩,[]),(⟨some 39,some (33,true),(.mov (.tmp 1))⟩,[]),(⟨some 40,some (33,true),(.idx 1 (.tmp 38) (.tmp 39))⟩,[]),(⟨some 41,some (33,true),(.load false 1 (.tmp 40))⟩,[]),(⟨some 42,some (33,true),(.call (.func 99) [(.tmp 37),(.tmp 41)])⟩,[]),(⟨some 43,none,(.pick (.tmp 33) (.tmp 42) (.const (.bool false)))⟩,[])]) (.cond (.tmp 43) .skip (.exit 0))) (.block 1 (.region [⟨some 44,none,(.mov (.tmp 10))⟩,⟨some 45,none,(.bin .add (.tmp 44) (.const (.int .i64 1)))⟩,⟨some 10,none,(.mov (.tmp 45))⟩])))
noncomputable def zHh:ACode:=(.seq (.seq (.regionC [(⟨some 46,none,(.mov (.tmp 10))⟩,[]),(⟨some 47,none,(.mov (.tmp 11))⟩,[]),(⟨some 48,none,(.bin .leq (.tmp 46) (.tmp 47))⟩,[]),(⟨some 49,none,(.mov (.tmp 48))⟩,[]),(⟨some 50,some (49,true),(.mov (.tmp 0))⟩,[]),(⟨some 51,some (49,true),(.mov (.tmp 11))⟩,[]),(⟨some 52,some (49,true),(.idx 1 (.tmp 50) (.tmp 51))⟩,[]),(⟨some 53,some (49,true),(.load false 1 (.tmp 52))⟩,[]),(⟨some 54,some (49,true),(.mov (.tmp 0))⟩,[]),(⟨some 55,some (49,true),(.mov (.tmp 1))⟩,[]),(⟨some 56,some (49,true),(.idx 1 (.tmp 54) (.tmp 55))⟩,[]),(⟨some 57,some (49,true),(.load false 1 (.tmp 56))⟩,[]),(⟨some 58,some (49,true),(.call (.func 99) [(.tmp 53),(.tmp 57)])⟩,[]),(⟨some 59,some (49,true),(.un .not (.tmp 58))⟩,[]),(⟨some 60,none,(.pick (.tmp 49) (.tmp 59) (.const (.bool false)))⟩,[])]) (.cond (.tmp 60) .skip (.exit 2))) (.block 3 (.region [⟨some 61,none,(.mov (.tmp 11))⟩,⟨some 62,none,(.bin .sub (.tmp 61) (.const (.int .i64 1)))⟩,⟨some 11,none,(.mov (.tmp 62))⟩])))
noncomputable def zHt:ACode:=(.seq (.seq (.regionC [(⟨some 99,none,(.mov (.tmp 10))⟩,[]),(⟨some 100,none,(.mov (.tmp 11))⟩,[]),(⟨some 101,none,(.bin .leq (.tmp 99) (.tmp 100))⟩,[]),(⟨some 102,none,(.mov (.tmp 101))⟩,[]),(⟨some 103,some (102,true),(.mov (.tmp 0))⟩,[]),(⟨some 104,some (102,true),(.mov (.tmp 10))⟩,[]),(⟨some 105,some (102,true),(.idx 1 (.tmp 103) (.tmp 104))⟩,[]),(⟨some 106,some (102,true),(.load false 1 (.tmp 105))⟩,[]),(⟨some 107,some (102,true),(.mov (.tmp 0))⟩,[]),(⟨some 108,some (102,true),(.mov (.tmp 1))⟩,[]),(⟨some 109,some (102,true),(.idx 1 (.tmp 107) (.tmp 108))⟩,[]),(⟨some 110,some (102,true),(.load false 1 (.tmp 109))⟩,[]),(⟨some 111,some (102,true),(.call (.func 99) [(.tmp 106),(.tmp 110)])⟩,[]),(⟨some 112,none,(.pick (.tmp 102) (.tmp 111) (.const (.bool false)))⟩,[])]) (.cond (.tmp 112) .skip (.exit 6))) (.block 7 (.region [⟨some 113,none,(.mov (.tmp 10))⟩,⟨some 114,none,(.bin .add (.tmp 113) (.const (.int .i64 1)))⟩,⟨some 10,none,(.mov (.tmp 114))⟩])))
noncomputable def zH6:ACode:=(.seq (.seq (.regionC [(⟨some 115,none,(.mov (.tmp 10))⟩,[]),(⟨some 116,none,(.mov (.tmp 11))⟩,[]),(⟨some 117,none,(.bin .leq (.tmp 115) (.tmp 116))⟩,[]),(⟨some 118,none,(.mov (.tmp 117))⟩,[]),(⟨some 119,some (118,true),(.mov (.tmp 0))⟩,[]),(⟨some 120,some (118,true),(.mov (.tmp 11))⟩,[]),(⟨some 121,some (118,true),(.idx 1 (.tmp 119) (.tmp 120))⟩,[]),(⟨some 122,some (118,true),(.load false 1 (.tmp 121))⟩,[]),(⟨some 123,some (118,true),(.mov (.tmp 0))⟩,[]),(⟨some 124,some (118,true),(.mov (.tmp 1))⟩,[]),(⟨some 125,some (118,true),(.idx 1 (.tmp 123) (.tmp 124))⟩,[]),(⟨some 126,some (118,true),(.load false 1 (.tmp 125))⟩,[]),(⟨some 127,some (118,true),(.call (.func 99) [(.tmp 122),(.tmp 126)])⟩,[]),(⟨some 128,some (118,true),(.un .not (.tmp 127))⟩,[]),(⟨some 129,none,(.pick (.tmp 118) (.tmp 128) (.const (.bool false)))⟩,[])]) (.cond (.tmp 129) .skip (.exit 8))) (.block 9 (.region [⟨some 130,none,(.mov (.tmp 11))⟩,⟨some 131,none,(.bin .sub (.tmp 130) (.const (.int .i64 1)))⟩,⟨some 11,none,(.mov (.tmp 131))⟩])))
noncomputable def zHY:ACode:=(.block 5 (.seq (.block 6 (.loop zHt)) (.seq (.block 8 (.loop zH6)) (.seq (.seq (.region [⟨some 132,none,(.mov (.tmp 10))⟩,⟨some 133,none,(.mov (.tmp 11))⟩,⟨some 134,none,(.bin .gtr (.tmp 132) (.tmp 133))⟩]) (.cond (.tmp 134) (.exit 4) .skip)) (.seq (.regionC [(⟨some 135,none,(.mov (.tmp 0))⟩,[]),(⟨some 136,none,(.mov (.tmp 10))⟩,[]),(⟨some 137,none,(.mov (.tmp 0))⟩,[]),(⟨some 138,none,(.mov (.tmp 11))⟩,[]),(⟨some 139,none,(.mov (.tmp 0))⟩,[]),(⟨some 140,none,(.mov (.tmp 11))⟩,[]),(⟨some 141,none,(.idx 1 (.tmp 139) (.tmp 140))⟩,[]),(⟨some 142,none,(.load false 1 (.tmp 141))⟩,[]),(⟨some 143,none,(.mov (.tmp 0))⟩,[]),(⟨some 144,none,(.mov (.tmp 10))⟩,[]),(⟨some 145,none,(.idx 1 (.tmp 143) (.tmp 144))⟩,[]),(⟨some 146,none,(.load false 1 (.tmp 145))⟩,[]),(⟨some 147,none,(.idx 1 (.tmp 135) (.tmp 136))⟩,[]),(⟨none,none,(.store 1 (.tmp 147) (.tmp 142))⟩,[]),(⟨some 148,none,(.idx 1 (.tmp 137) (.tmp 138))⟩,[]),(⟨none,none,(.store 1 (.tmp 148) (.tmp 146))⟩,[])]) (.seq (.region [⟨some 149,none,(.mov (.tmp 10))⟩,⟨some 150,none,(.bin .add (.tmp 149) (.const (.int .i64 1)))⟩,⟨some 10,none,(.mov (.tmp 150))⟩]) (.region [⟨some 151,none,(.mov (.tmp 11))⟩,⟨some 152,none,(.bin .sub (.tmp 151) (.const (.int .i64 1)))⟩,⟨some 11,none,(.mov (.tmp 152))⟩])))))))
noncomputable def body101:ACode:=(.seq (.region [⟨some 8,none,(.mov (.const (.int .i64 0)))⟩,⟨some 9,none,(.mov (.const (.bool false)))⟩]) (.seq (.regionC [(⟨some 12,none,(.mov (.tmp 0))⟩,[]),(⟨some 13,none,(.mov (.tmp 1))⟩,[]),(⟨some 14,none,(.mov (.tmp 0))⟩,[]),(⟨some 15,none,(.mov (.tmp 3))⟩,[]),(⟨some 16,none,(.mov (.tmp 0))⟩,[]),(⟨some 17,none,(.mov (.tmp 3))⟩,[]),(⟨some 18,none,(.idx 1 (.tmp 16) (.tmp 17))⟩,[]),(⟨some 19,none,(.load false 1 (.tmp 18))⟩,[]),(⟨some 20,none,(.mov (.tmp 0))⟩,[]),(⟨some 21,none,(.mov (.tmp 1))⟩,[]),(⟨some 22,none,(.idx 1 (.tmp 20) (.tmp 21))⟩,[]),(⟨some 23,none,(.load false 1 (.tmp 22))⟩,[]),(⟨some 24,none,(.idx 1 (.tmp 12) (.tmp 13))⟩,[]),(⟨none,none,(.store 1 (.tmp 24) (.tmp 19))⟩,[]),(⟨some 25,none,(.idx 1 (.tmp 14) (.tmp 15))⟩,[]),(⟨none,none,(.store 1 (.tmp 25) (.tmp 23))⟩,[])]) (.seq (.region [⟨some 26,none,(.mov (.tmp 1))⟩,⟨some 27,none,(.bin .add (.tmp 26) (.const (.int .i64 1)))⟩,⟨some 28,none,(.mov (.tmp 2))⟩,⟨some 29,none,(.bin .sub (.tmp 28) (.const (.int .i64 1)))⟩,⟨some 10,none,(.mov (.tmp 27))⟩,⟨some 11,none,(.mov (.tmp 29))⟩]) (.seq (.block 0 (.loop zHV)) (.seq (.block 2 (.loop zHh)) (.seq (.seq (.region [⟨some 63,none,(.mov (.tmp 10))⟩,⟨some 64,none,(.mov (.tmp 11))⟩,⟨some 65,none,(.bin .gtr (.tmp 63) (.tmp 64))⟩]) (.cond (.tmp 65) (.seq (.regionC [(⟨some 66,none,(.mov (.tmp 0))⟩,[]),(⟨some 67,none,(.mov (.tmp 11))⟩,[]),(⟨some 68,none,(.mov (.tmp 0))⟩,[]),(⟨some 69,none,(.mov (.tmp 1))⟩,[]),(⟨some 70,none,(.mov (.tmp 0))⟩,[]),(⟨some 71,none,(.mov (.tmp 1))⟩,[]),(⟨some 72,none,(.idx 1 (.tmp 70) (.tmp 71))⟩,[]),(⟨some 73,none,(.load false 1 (.tmp 72))⟩,[]),(⟨some 74,none,(.mov (.tmp 0))⟩,[]),(⟨some 75,none,(.mov (.tmp 11))⟩,[]),(⟨some 76,none,(.idx 1 (.tmp 74) (.tmp 75))⟩,[]),(⟨some 77,none,(.load false 1 (.tmp 76))⟩,[]),(⟨some 78,none,(.idx 1 (.tmp 66) (.tmp 67))⟩,[]),(⟨none,none,(.store 1 (.tmp 78) (.tmp 73))⟩,[]),(⟨some 79,none,(.idx 1 (.tmp 68) (.tmp 69))⟩,[]),(⟨none,none,(.store 1 (.tmp 79) (.tmp 77))⟩,[])]) (.seq (.region [⟨some 80,none,(.mov (.tmp 11))⟩,⟨some 8,none,(.mov (.tmp 80))⟩,⟨some 9,none,(.mov (.const (.bool true)))⟩]) .ret)) .skip)) (.seq (.regionC [(⟨some 81,none,(.mov (.tmp 0))⟩,[]),(⟨some 82,none,(.mov (.tmp 10))⟩,[]),(⟨some 83,none,(.mov (.tmp 0))⟩,[]),(⟨some 84,none,(.mov (.tmp 11))⟩,[]),(⟨some 85,none,(.mov (.tmp 0))⟩,[]),(⟨some 86,none,(.mov (.tmp 11))⟩,[]),(⟨some 87,none,(.idx 1 (.tmp 85) (.tmp 86))⟩,[]),(⟨some 88,none,(.load false 1 (.tmp 87))⟩,[]),(⟨some 89,none,(.mov (.tmp 0))⟩,[]),(⟨some 90,none,(.mov (.tmp 10))⟩,[]),(⟨some 91,none,(.idx 1 (.tmp 89) (.tmp 90))⟩,[]),(⟨some 92,none,(.load false 1 (.tmp 91))⟩,[]),(⟨some 93,none,(.idx 1 (.tmp 81) (.tmp 82))⟩,[]),(⟨none,none,(.store 1 (.tmp 93) (.tmp 88))⟩,[]),(⟨some 94,none,(.idx 1 (.tmp 83) (.tmp 84))⟩,[]),(⟨none,none,(.store 1 (.tmp 94) (.tmp 92))⟩,[])]) (.seq (.region [⟨some 95,none,(.mov (.tmp 10))⟩,⟨some 96,none,(.bin .add (.tmp 95) (.const (.int .i64 1)))⟩,⟨some 10,none,(.mov (.tmp 96))⟩]) (.seq (.region [⟨some 97,none,(.mov (.tmp 11))⟩,⟨some 98,none,(.bin .sub (.tmp 97) (.const (.int .i64 1)))⟩,⟨some 11,none,(.mov (.tmp 98))⟩]) (.seq (.block 4 (.loop zHY)) (.seq (.regionC [(⟨some 153,none,(.mov (.tmp 0))⟩,[]),(⟨some 154,none,(.mov (.tmp 11))⟩,[]),(⟨some 155,none,(.mov (.tmp 0))⟩,[]),(⟨some 156,none,(.mov (.tmp 1))⟩,[]),(⟨some 157,none,(.mov (.tmp 0))⟩,[]),(⟨some 158,none,(.mov (.tmp 1))⟩,[]),(⟨some 159,none,(.idx 1 (.tmp 157) (.tmp 158))⟩,[]),(⟨some 160,none,(.load false 1 (.tmp 159))⟩,[]),(⟨some 161,none,(.mov (.tmp 0))⟩,[]),(⟨some 162,none,(.mov (.tmp 11))⟩,[]),(⟨some 163,none,(.idx 1 (.tmp 161) (.tmp 162))⟩,[]),(⟨some 164,none,(.load false 1 (.tmp 163))⟩,[]),(⟨some 165,none,(.idx 1 (.tmp 153) (.tmp 154))⟩,[]),(⟨none,none,(.store 1 (.tmp 165) (.tmp 160))⟩,[]),(⟨some 166,none,(.idx 1 (.tmp 155) (.tmp 156))⟩,[]),(⟨none,none,(.store 1 (.tmp 166) (.tmp 164))⟩,[])]) (.seq (.region [⟨some 167,none,(.mov (.tmp 11))⟩,⟨some 8,none,(.mov (.tmp 167))⟩,⟨some 9,none,(.mov (.const (.bool false)))⟩]) .ret))))))))))))
set_option maxRecDepth 100000 in
theorem tab101:tb.code 101=some ⟨168,[(8,none),(9,none)],body101⟩:=by kernel_rfl
theorem zES (hB h:AHeap) (v:Value) (xs:List Int) (a b pv:Int) (e0:Ext hB h) (hmB:hB.mark≤hB.n) (o:OwnI hB h v xs) (h0:0≤a) (hp:a≤pv∧pv<b) (hb:b≤xs.length) (hlen:xs.length≤1000000000):
  WC Tryz.prog tb 101 [v,I a,I b,I pv] h fun r h'=>∃ ys m w,r= .tuple #[I m,.bool w]∧SS hB h v a b xs ys h'∧(a≤m∧m<b)∧(∀ k,a≤k→k<m→atI ys k≤atI ys m)∧(∀ k,m<k→k<b→atI ys m≤atI ys k):=by
 have s0:=SS.start a b o e0
 refine WC.of (zG 101) tab101 ?_;simp only[zN,Nat.zero_add,Nat.reduceAdd]
 refine go ?_
 refine WX.regionU2 0 rfl rfl ?_
 have srX:SlI (inC (zF 0 h)) v xs:=(o).sl
 refine goU ?_
 refine WU2.swA (a) (pv) (s0).own (s0).ext (by rw[(s0).ext.mark];exact hmB) ?_
 intro h1 e1 o1 u1
 have s1:=s0.swp e1 o1 u1 h0 hb (by omega) (by omega)
 clear o1 e1 u1
 generalize swp xs a pv=ys at s1
 have hl1:=s1.len
 refine go ?_
 refine WX.loopA [30,31,32,33,34,35,36,37,38,39,40,41,42,43,44,45,10] (by kernel_rfl) (fun i=>(b - i).toNat) (fun (i:Int) t h2=>h1=h2∧zB t 10=I i∧(a+1≤i∧i≤b)∧∀ k,a<k→k<i→atI ys k<atI ys a) (a+1) ?_ ?_
 ·exact⟨rfl,sl_,by omega,fun k h1 h2=>by omega⟩
 rintro i t _ hsame ⟨rfl,s10,hi,hlow⟩
 refine go ?_
 refine WX.cutA [30,31,32,33,34,35,36,37,38,39,40,41,42,43] (by kernel_rfl) (fun t h'=>h1=h'∧zB t 43= .bool (decide (i≤b - 1∧(atI ys i<atI ys a)))) ?_ ?_
 ·refine WX.regionU2 0 rfl rfl ?_
  have srX:SlI (inC (zF 0 h1)) v ys:=(s1.own).sl
  refine goU ?_
  refine WO.sp (fun hd=> ?_) (fun hd=> ?_)<;>simp only[DB]at hd<;>refine goU ?_
  ·refine WO.con (yy _ (atI ys i) (atI ys a)) ?_
   rintro _ _ ⟨rfl,rfl⟩
   refine WO.nil ?_
   refine yo ?_
   refine goU ?_
   exact zI ⟨rfl,by rw[show decide (i≤b - 1∧(atI ys i<atI ys a))=decide (atI ys i<atI ys a) from zCC hd];exact sl_⟩
  ·exact zI ⟨rfl,by rw[show decide (i≤b - 1∧(atI ys i<atI ys a))=false from decide_eq_false (fun hh=>absurd hh.1 (by omega))];exact sl_⟩
 rintro t2 _ hs2 ⟨rfl,q2⟩
 refine go ?_
 refine WX.br (fun he=> ?_) (fun he=> ?_)<;>simp only[DB]at he
 ·refine go ?_
  refine zA (i+1) (by omega) ⟨rfl,sl_,by omega,fun k h1 h2=> ?_⟩
  by_cases e:k=i
  ·rw[e];exact he.2
  ·exact hlow k h1 (by omega)
 refine go ?_
 refine WX.loopA [46,47,48,49,50,51,52,53,54,55,56,57,58,59,60,61,62,11] (by kernel_rfl) (fun j=>(j+1 - a).toNat) (fun (j:Int) t h2=>h1=h2∧zB t 11=I j∧(i - 1≤j∧j≤b - 1)∧∀ k,j<k→k<b→atI ys a≤atI ys k) (b - 1) ?_ ?_
 ·exact⟨rfl,sl_,by omega,fun k h1 h2=>by omega⟩
 rintro j t _ hsame ⟨rfl,s11,hj,hhigh⟩
 refine go ?_
 refine WX.cutA [46,47,48,49,50,51,52,53,54,55,56,57,58,59,60] (by kernel_rfl) (fun t h'=>h1=h'∧zB t 60= .bool (decide (i≤j∧¬(atI ys j<atI ys a)))) ?_ ?_
 ·refine WX.regionU2 0 rfl rfl ?_
  have srX:SlI (inC (zF 0 h1)) v ys:=(s1.own).sl
  refine goU ?_
  refine WO.sp (fun hd=> ?_) (fun hd=> ?_)<;>simp only[DB]at hd<;>refine goU ?_
  ·refine WO.con (yy _ (atI ys j) (atI ys a)) ?_
   rintro _ _ ⟨rfl,rfl⟩
   refine WO.nil ?_
   refine yo ?_
   refine goU ?_
   exact zI ⟨rfl,by rw[show decide (i≤j∧¬(atI ys j<atI ys a))= !decide (atI ys j<atI ys a) from zBK hd];exact sl_⟩
  ·exact zI ⟨rfl,by rw[show decide (i≤j∧¬(atI ys j<atI ys a))=false from decide_eq_false (fun hh=>absurd hh.1 (by omega))];exact sl_⟩
 rintro t3 _ hs3 ⟨rfl,q3⟩
 refine go ?_
 refine WX.br (fun hf=> ?_) (fun hf=> ?_)<;>simp only[DB]at hf
 ·refine go ?_
  refine zA (j - 1) (by omega) ⟨rfl,sl_,by omega,fun k h1 h2=> ?_⟩
  by_cases e:k=j
  ·rw[e];omega
  ·exact hhigh k (by omega) h2
 refine go ?_
 refine WX.br (fun hg=> ?_) (fun hg=> ?_)<;>simp only[DB]at hg
 ·refine go ?_
  refine WX.regionU2 0 rfl rfl ?_
  have srX:SlI (inC (zF 0 h1)) v ys:=(s1.own).sl
  refine goU ?_
  refine WU2.swA (j) (a) (s1).own (s1).ext (by rw[(s1).ext.mark];exact hmB) ?_
  intro h3 e3 o3 u3
  have s3:=s1.swp e3 o3 u3 h0 hb (by omega) (by omega)
  refine go ?_
  refine rt ?_
  refine⟨_,_,_,rfl,s3,by omega,fun k h1 h2=> ?_,fun k h1 h2=> ?_⟩
  ·rw[yK (by omega) (by omega) (by omega),yK (by omega) (by omega) (by omega)]
   by_cases e:k=a
   ·rw[if_pos e,if_neg (by omega),if_pos rfl];have:=hlow j (by omega) (by omega);omega
   ·rw[if_neg e,if_neg (by omega),if_neg (by omega),if_pos rfl];have:=hlow k (by omega) (by omega);omega
  ·rw[yK (by omega) (by omega) (by omega),yK (by omega) (by omega) (by omega)]
   rw[if_neg (by omega:¬k=a),if_neg (by omega:¬k=j)]
   have:=hhigh k (by omega) (by omega)
   by_cases e:j=a
   ·rw[if_pos e,e];exact this
   ·rw[if_neg e,if_pos rfl];exact this
 refine go ?_
 refine WX.regionU2 0 rfl rfl ?_
 have srX:SlI (inC (zF 0 h1)) v ys:=(s1.own).sl
 refine goU ?_
 refine WU2.swA (i) (j) (s1).own (s1).ext (by rw[(s1).ext.mark];exact hmB) ?_
 intro h3 e3 o3 u3
 have s3:=s1.swp e3 o3 u3 h0 hb (by omega) (by omega)
 have hi2:¬atI ys i<atI ys a:=fun hh=>he ⟨by omega,hh⟩
 have hj2:atI ys j<atI ys a:=Int.not_le.1 fun hh=>hf ⟨by omega,hh⟩
 have hij:i≠j:=fun e=>by subst e;exact hi2 hj2
 have hP:(a+1≤i+1∧i+1≤j - 1+1∧j - 1≤b - 1)∧(∀ k,a<k→k<i+1→atI (swp ys i j) k<atI (swp ys i j) a)∧∀ k,j - 1<k→k<b→atI (swp ys i j) a≤atI (swp ys i j) k:=by
  have ea:atI (swp ys i j) a=atI ys a:=by rw[yK (by omega) (by omega) (by omega),if_neg (by omega),if_neg (by omega)]
  rw[ea]
  refine⟨by omega,fun k h1 h2=> ?_,fun k h1 h2=> ?_⟩
  ·rw[yK (by omega) (by omega) (by omega),if_neg (by omega)]
   by_cases e:k=i
   ·rw[if_pos e];exact hj2
   ·rw[if_neg e];exact hlow k h1 (by omega)
  ·rw[yK (by omega) (by omega) (by omega)]
   by_cases e:k=j
   ·rw[if_pos e];omega
   ·rw[if_neg e,if_neg (by omega)];exact hhigh k (by omega) h2
 clear o3 e3 u3 hlow hhigh
 generalize swp ys i j=zs at s3 hP
 refine go ?_
 refine WX.loopA [99,100,101,102,103,104,105,106,107,108,109,110,111,112,113,114,10,115,116,117,118,119,120,121,122,123,124,125,126,127,128,129,130,131,11,132,133,134,135,136,137,138,139,140,141,142,143,144,145,146,147,148,149,150,10,151,152,11] (by kernel_rfl) (fun x=>(x.2.2+1 - x.2.1).toNat) (fun (x:List Int×Int×Int) t h4=>SS hB h v a b xs x.1 h4∧zB t 10=I x.2.1∧zB t 11=I x.2.2∧(a+1≤x.2.1∧x.2.1≤x.2.2+1∧x.2.2≤b - 1)∧(∀ k,a<k→k<x.2.1→atI x.1 k<atI x.1 a)∧∀ k,x.2.2<k→k<b→atI x.1 a≤atI x.1 k) (zs,i+1,j - 1) ?_ ?_
 ·exact⟨s3,sl_,sl_,hP.1,hP.2.1,hP.2.2⟩
 clear hP s3 s10 s11 he hf hg hi2 hj2 hij q2 q3 hi hj
 rintro⟨ws,p,q⟩ t h4 hsame ⟨s4,s10,s11,hpq,hlow,hhigh⟩
 simp only at s4 s10 s11 hpq hlow hhigh
 have hl4:=s4.len
 refine go ?_
 refine WX.loopA [99,100,101,102,103,104,105,106,107,108,109,110,111,112,113,114,10] (by kernel_rfl) (fun i=>(b - i).toNat) (fun (i:Int) t h2=>h4=h2∧zB t 10=I i∧(p≤i∧i≤q+1)∧∀ k,a<k→k<i→atI ws k<atI ws a) p ?_ ?_
 ·exact⟨rfl,sl_,by omega,hlow⟩
 rintro i2 t _ hsame ⟨rfl,s10,hi,hlow2⟩
 refine go ?_
 refine WX.cutA [99,100,101,102,103,104,105,106,107,108,109,110,111,112] (by kernel_rfl) (fun t h'=>h4=h'∧zB t 112= .bool (decide (i2≤q∧(atI ws i2<atI ws a)))) ?_ ?_
 ·refine WX.regionU2 0 rfl rfl ?_
  have srX:SlI (inC (zF 0 h4)) v ws:=(s4.own).sl
  refine goU ?_
  refine WO.sp (fun hd=> ?_) (fun hd=> ?_)<;>simp only[DB]at hd<;>refine goU ?_
  ·refine WO.con (yy _ (atI ws i2) (atI ws a)) ?_
   rintro _ _ ⟨rfl,rfl⟩
   refine WO.nil ?_
   refine yo ?_
   refine goU ?_
   exact zI ⟨rfl,by rw[show decide (i2≤q∧(atI ws i2<atI ws a))=decide (atI ws i2<atI ws a) from zCC hd];exact sl_⟩
  ·exact zI ⟨rfl,by rw[show decide (i2≤q∧(atI ws i2<atI ws a))=false from decide_eq_false (fun hh=>absurd hh.1 (by omega))];exact sl_⟩
 rintro t5 _ hs5 ⟨rfl,q5⟩
 refine go ?_
 refine WX.br (fun he=> ?_) (fun he=> ?_)<;>simp only[DB]at he
 ·refine go ?_
  refine zA (i2+1) (by omega) ⟨rfl,sl_,by omega,fun k h1 h2=> ?_⟩
  by_cases e:k=i2
  ·rw[e];exact he.2
  ·exact hlow2 k h1 (by omega)
 refine go ?_
 refine WX.loopA [115,116,117,118,119,120,121,122,123,124,125,126,127,128,129,130,131,11] (by kernel_rfl) (fun j=>(j+1 - a).toNat) (fun (j:Int) t h2=>h4=h2∧zB t 11=I j∧(i2 - 1≤j∧j≤q)∧∀ k,j<k→k<b→atI ws a≤atI ws k) q ?_ ?_
 ·exact⟨rfl,sl_,by omega,hhigh⟩
 rintro j2 t _ hsame ⟨rfl,s11,hj,hhigh2⟩
 refine go ?_
 refine WX.cutA [115,116,117,118,119,120,121,122,123,124,125,126,127,128,129] (by kernel_rfl) (fun t h'=>h4=h'∧zB t 129= .bool (decide (i2≤j2∧¬(atI ws j2<atI ws a)))) ?_ ?_
 ·refine WX.regionU2 0 rfl rfl ?_
  have srX:SlI (inC (zF 0 h4)) v ws:=(s4.own).sl
  refine goU ?_
  refine WO.sp (fun hd=> ?_) (fun hd=> ?_)<;>simp only[DB]at hd<;>refine goU ?_
  ·refine WO.con (yy _ (atI ws j2) (atI ws a)) ?_
   rintro _ _ ⟨rfl,rfl⟩
   refine WO.nil ?_
   refine yo ?_
   refine goU ?_
   exact zI ⟨rfl,by rw[show decide (i2≤j2∧¬(atI ws j2<atI ws a))= !decide (atI ws j2<atI ws a) from zBK hd];exact sl_⟩
  ·exact zI ⟨rfl,by rw[show decide (i2≤j2∧¬(atI ws j2<atI ws a))=false from decide_eq_false (fun hh=>absurd hh.1 (by omega))];exact sl_⟩
 rintro t6 _ hs6 ⟨rfl,q6⟩
 refine go ?_
 refine WX.br (fun hf=> ?_) (fun hf=> ?_)<;>simp only[DB]at hf
 ·refine go ?_
  refine zA (j2 - 1) (by omega) ⟨rfl,sl_,by omega,fun k h1 h2=> ?_⟩
  by_cases e:k=j2
  ·rw[e];omega
  ·exact hhigh2 k (by omega) h2
 refine go ?_
 refine WX.br (fun hg=> ?_) (fun hg=> ?_)<;>simp only[DB]at hg
 ·refine go ?_
  refine WX.regionU2 0 rfl rfl ?_
  have srX:SlI (inC (zF 0 h4)) v ws:=(s4.own).sl
  refine goU ?_
  refine WU2.swA (j2) (a) (s4).own (s4).ext (by rw[(s4).ext.mark];exact hmB) ?_
  intro h3 e3 o3 u3
  have s3:=s4.swp e3 o3 u3 h0 hb (by omega) (by omega)
  refine go ?_
  refine rt ?_
  refine⟨_,_,_,rfl,s3,by omega,fun k h1 h2=> ?_,fun k h1 h2=> ?_⟩
  ·rw[yK (by omega) (by omega) (by omega),yK (by omega) (by omega) (by omega)]
   by_cases e:k=a
   ·rw[if_pos e,if_neg (by omega),if_pos rfl];have:=hlow2 j2 (by omega) (by omega);omega
   ·rw[if_neg e,if_neg (by omega),if_neg (by omega),if_pos rfl];have:=hlow2 k (by omega) (by omega);omega
  ·rw[yK (by omega) (by omega) (by omega),yK (by omega) (by omega) (by omega)]
   rw[if_neg (by omega:¬k=a),if_neg (by omega:¬k=j2)]
   have:=hhigh2 k (by omega) (by omega)
   by_cases e:j2=a
   ·rw[if_pos e,e];exact this
   ·rw[if_neg e,if_pos rfl];exact this
 refine go ?_
 refine WX.regionU2 0 rfl rfl ?_
 have srX:SlI (inC (zF 0 h4)) v ws:=(s4.own).sl
 refine goU ?_
 refine WU2.swA (i2) (j2) (s4).own (s4).ext (by rw[(s4).ext.mark];exact hmB) ?_
 intro h3 e3 o3 u3
 have s3:=s4.swp e3 o3 u3 h0 hb (by omega) (by omega)
 have hi2:¬atI ws i2<atI ws a:=fun hh=>he ⟨by omega,hh⟩
 have hj2:atI ws j2<atI ws a:=Int.not_le.1 fun hh=>hf ⟨by omega,hh⟩
 have hij:i2≠j2:=fun e=>by subst e;exact hi2 hj2
 have ea:atI (swp ws i2 j2) a=atI ws a:=by rw[yK (by omega) (by omega) (by omega),if_neg (by omega),if_neg (by omega)]
 refine go ?_
 refine zA (swp ws i2 j2,i2+1,j2 - 1) (by simp only;omega) ⟨s3,sl_,sl_,by simp only;omega,fun k h1 h2=> ?_,fun k h1 h2=> ?_⟩
 ·simp only at h2 ⊢
  rw[ea,yK (by omega) (by omega) (by omega),if_neg (by omega)]
  by_cases e:k=i2
  ·rw[if_pos e];exact hj2
  ·rw[if_neg e];exact hlow2 k h1 (by omega)
 ·simp only at h1 ⊢
  rw[ea,yK (by omega) (by omega) (by omega)]
  by_cases e:k=j2
  ·rw[if_pos e];omega
  ·rw[if_neg e,if_neg (by omega)];exact hhigh2 k (by omega) h2
end Go.Proofs.YtdcgdfbblnljjaaGreatDoor
namespace Go.Proofs.YtdcgdfbblnljjaaGreatDoor
open Go.Am
set_option linter.unusedVariables false
set_option linter.unusedSimpArgs false
set_option maxHeartbeats 400000
noncomputable def zIL:ACode:=(.seq (.seq (.regionC [(⟨some 29,none,(.mov (.tmp 9))⟩,[]),(⟨some 30,none,(.mov (.tmp 10))⟩,[]),(⟨some 31,none,(.bin .leq (.tmp 29) (.tmp 30))⟩,[]),(⟨some 32,none,(.mov (.tmp 31))⟩,[]),(⟨some 33,some (32,true),(.mov (.tmp 0))⟩,[]),(⟨some 34,some (32,true),(.mov (.tmp 1))⟩,[]),(⟨some 35,some (32,true),(.idx 1 (.tmp 33) (.tmp 34))⟩,[]),(⟨some 36,some (32,true),(.load false 1 (.tmp 35))⟩,[]),(⟨some 37,some (32,true),(.mov (.tmp 0))⟩,[]),(⟨some 38,some (32,true),(.mov (.tmp 9))⟩,[]),(⟨some 39,some (32,true),(.idx 1 (.tmp 37) (.tmp 38))⟩,[]),(⟨some 40,some (32,true),(.load false 1 (.tmp 39))⟩,[]),(⟨some 41,some (32,true),(.call (.func 99) [(.tmp 36),(.tmp 40)])⟩,[]),(⟨some 42,some (32,true),(.un .not (.tmp 41))⟩,[]),(⟨some 43,none,(.pick (.tmp 32) (.tmp 42) (.const (.bool false)))⟩,[])]) (.cond (.tmp 43) .skip (.exit 2))) (.block 3 (.region [⟨some 44,none,(.mov (.tmp 9))⟩,⟨some 45,none,(.bin .add (.tmp 44) (.const (.int .i64 1)))⟩,⟨some 9,none,(.mov (.tmp 45))⟩])))
noncomputable def zHL:ACode:=(.seq (.seq (.regionC [(⟨some 46,none,(.mov (.tmp 9))⟩,[]),(⟨some 47,none,(.mov (.tmp 10))⟩,[]),(⟨some 48,none,(.bin .leq (.tmp 46) (.tmp 47))⟩,[]),(⟨some 49,none,(.mov (.tmp 48))⟩,[]),(⟨some 50,some (49,true),(.mov (.tmp 0))⟩,[]),(⟨some 51,some (49,true),(.mov (.tmp 1))⟩,[]),(⟨some 52,some (49,true),(.idx 1 (.tmp 50) (.tmp 51))⟩,[]),(⟨some 53,some (49,true),(.load false 1 (.tmp 52))⟩,[]),(⟨some 54,some (49,true),(.mov (.tmp 0))⟩,[]),(⟨some 55,some (49,true),(.mov (.tmp 10))⟩,[]),(⟨some 56,some (49,true),(.idx 1 (.tmp 54) (.tmp 55))⟩,[]),(⟨some 57,some (49,true),(.load false 1 (.tmp 56))⟩,[]),(⟨some 58,some (49,true),(.call (.func 99) [(.tmp 53),(.tmp 57)])⟩,[]),(⟨some 59,none,(.pick (.tmp 49) (.tmp 58) (.const (.bool false)))⟩,[])]) (.cond (.tmp 59) .skip (.exit 4))) (.block 5 (.region [⟨some 60,none,(.mov (.tmp 10))⟩,⟨some 61,none,(.bin .sub (.tmp 60) (.const (.int .i64 1)))⟩,⟨some 10,none,(.mov (.tmp 61))⟩])))
noncomputable def zHA:ACode:=(.block 1 (.seq (.block 2 (.loop zIL)) (.seq (.block 4 (.loop zHL)) (.seq (.seq (.region [⟨some 62,none,(.mov (.tmp 9))⟩,⟨some 63,none,(.mov (.tmp 10))⟩,⟨some 64,none,(.bin .gtr (.tmp 62) (.tmp 63))⟩]) (.cond (.tmp 64) (.exit 0) .skip)) (.seq (.regionC [(⟨some 65,none,(.mov (.tmp 0))⟩,[]),(⟨some 66,none,(.mov (.tmp 9))⟩,[]),(⟨some 67,none,(.mov (.tmp 0))⟩,[]),(⟨some 68,none,(.mov (.tmp 10))⟩,[]),(⟨some 69,none,(.mov (.tmp 0))⟩,[]),(⟨some 70,none,(.mov (.tmp 10))⟩,[]),(⟨some 71,none,(.idx 1 (.tmp 69) (.tmp 70))⟩,[]),(⟨some 72,none,(.load false 1 (.tmp 71))⟩,[]),(⟨some 73,none,(.mov (.tmp 0))⟩,[]),(⟨some 74,none,(.mov (.tmp 9))⟩,[]),(⟨some 75,none,(.idx 1 (.tmp 73) (.tmp 74))⟩,[]),(⟨some 76,none,(.load false 1 (.tmp 75))⟩,[]),(⟨some 77,none,(.idx 1 (.tmp 65) (.tmp 66))⟩,[]),(⟨none,none,(.store 1 (.tmp 77) (.tmp 72))⟩,[]),(⟨some 78,none,(.idx 1 (.tmp 67) (.tmp 68))⟩,[]),(⟨none,none,(.store 1 (.tmp 78) (.tmp 76))⟩,[])]) (.seq (.region [⟨some 79,none,(.mov (.tmp 9))⟩,⟨some 80,none,(.bin .add (.tmp 79) (.const (.int .i64 1)))⟩,⟨some 9,none,(.mov (.tmp 80))⟩]) (.region [⟨some 81,none,(.mov (.tmp 10))⟩,⟨some 82,none,(.bin .sub (.tmp 81) (.const (.int .i64 1)))⟩,⟨some 10,none,(.mov (.tmp 82))⟩])))))))
noncomputable def body100:ACode:=(.seq (.region [⟨some 8,none,(.mov (.const (.int .i64 0)))⟩]) (.seq (.regionC [(⟨some 11,none,(.mov (.tmp 0))⟩,[]),(⟨some 12,none,(.mov (.tmp 1))⟩,[]),(⟨some 13,none,(.mov (.tmp 0))⟩,[]),(⟨some 14,none,(.mov (.tmp 3))⟩,[]),(⟨some 15,none,(.mov (.tmp 0))⟩,[]),(⟨some 16,none,(.mov (.tmp 3))⟩,[]),(⟨some 17,none,(.idx 1 (.tmp 15) (.tmp 16))⟩,[]),(⟨some 18,none,(.load false 1 (.tmp 17))⟩,[]),(⟨some 19,none,(.mov (.tmp 0))⟩,[]),(⟨some 20,none,(.mov (.tmp 1))⟩,[]),(⟨some 21,none,(.idx 1 (.tmp 19) (.tmp 20))⟩,[]),(⟨some 22,none,(.load false 1 (.tmp 21))⟩,[]),(⟨some 23,none,(.idx 1 (.tmp 11) (.tmp 12))⟩,[]),(⟨none,none,(.store 1 (.tmp 23) (.tmp 18))⟩,[]),(⟨some 24,none,(.idx 1 (.tmp 13) (.tmp 14))⟩,[]),(⟨none,none,(.store 1 (.tmp 24) (.tmp 22))⟩,[])]) (.seq (.region [⟨some 25,none,(.mov (.tmp 1))⟩,⟨some 26,none,(.bin .add (.tmp 25) (.const (.int .i64 1)))⟩,⟨some 27,none,(.mov (.tmp 2))⟩,⟨some 28,none,(.bin .sub (.tmp 27) (.const (.int .i64 1)))⟩,⟨some 9,none,(.mov (.tmp 26))⟩,⟨some 10,none,(.mov (.tmp 28))⟩]) (.seq (.block 0 (.loop zHA)) (.seq (.region [⟨some 83,none,(.mov (.tmp 9))⟩,⟨some 8,none,(.mov (.tmp 83))⟩]) .ret)))))
set_option maxRecDepth 100000 in
theorem tab100:tb.code 100=some ⟨84,[(8,none)],body100⟩:=by kernel_rfl
theorem zD6 (hB h:AHeap) (v:Value) (xs:List Int) (a b pv:Int) (e0:Ext hB h) (hmB:hB.mark≤hB.n) (o:OwnI hB h v xs) (h0:0≤a) (hp:a≤pv∧pv<b) (hb:b≤xs.length) (hlen:xs.length≤1000000000):
  WC Tryz.prog tb 100 [v,I a,I b,I pv] h fun r h'=>∃ ys m,r=I m∧SS hB h v a b xs ys h'∧(a+1≤m∧m≤b)∧(∀ k,a≤k→k<m→atI ys k≤atI xs pv)∧(∀ k,m≤k→k<b→atI xs pv<atI ys k):=by
 have s0:=SS.start a b o e0
 refine WC.of (zG 100) tab100 ?_;simp only[zN,Nat.zero_add,Nat.reduceAdd]
 refine go ?_
 refine WX.regionU2 0 rfl rfl ?_
 have srX:SlI (inC (zF 0 h)) v xs:=(o).sl
 refine goU ?_
 refine WU2.swA (a) (pv) (s0).own (s0).ext (by rw[(s0).ext.mark];exact hmB) ?_
 intro h1 e1 o1 u1
 have s1:=s0.swp e1 o1 u1 h0 hb (by omega) (by omega)
 clear o1 e1 u1
 have ha:atI (swp xs a pv) a=atI xs pv:=by
  rw[yK (by omega) (by omega) (by omega)]
  by_cases e:a=pv
  ·rw[if_pos e,e]
  ·rw[if_neg e,if_pos rfl]
 generalize swp xs a pv=ys at s1 ha
 generalize atI xs pv=P at ha ⊢
 have hl1:=s1.len
 refine go ?_
 refine WX.loopA [29,30,31,32,33,34,35,36,37,38,39,40,41,42,43,44,45,9,46,47,48,49,50,51,52,53,54,55,56,57,58,59,60,61,10,62,63,64,65,66,67,68,69,70,71,72,73,74,75,76,77,78,79,80,9,81,82,10] (by kernel_rfl) (fun x=>(x.2.2+1 - x.2.1).toNat) (fun (x:List Int×Int×Int) t h4=>SS hB h v a b xs x.1 h4∧zB t 9=I x.2.1∧zB t 10=I x.2.2∧(a+1≤x.2.1∧x.2.1≤x.2.2+1∧x.2.2≤b - 1)∧atI x.1 a=P∧(∀ k,a<k→k<x.2.1→atI x.1 k≤P)∧∀ k,x.2.2<k→k<b→P<atI x.1 k) (ys,a+1,b - 1) ?_ ?_
 ·exact⟨s1,sl_,sl_,by simp only;omega,ha,fun k h1 h2=>by simp only at h2;omega,fun k h1 h2=>by simp only at h1;omega⟩
 clear s1 ha hl1
 rintro⟨ws,p,q⟩ t h4 hsame ⟨s4,s9,s10,hpq,ha,hlow,hhigh⟩
 simp only at s4 s9 s10 hpq ha hlow hhigh
 have hl4:=s4.len
 refine go ?_
 refine WX.loopA [29,30,31,32,33,34,35,36,37,38,39,40,41,42,43,44,45,9] (by kernel_rfl) (fun i=>(b - i).toNat) (fun (i:Int) t h2=>h4=h2∧zB t 9=I i∧(p≤i∧i≤q+1)∧∀ k,a<k→k<i→atI ws k≤P) p ?_ ?_
 ·exact⟨rfl,sl_,by omega,hlow⟩
 rintro i2 t _ hsame ⟨rfl,s9,hi,hlow2⟩
 refine go ?_
 refine WX.cutA [29,30,31,32,33,34,35,36,37,38,39,40,41,42,43] (by kernel_rfl) (fun t h'=>h4=h'∧zB t 43= .bool (decide (i2≤q∧¬(atI ws a<atI ws i2)))) ?_ ?_
 ·refine WX.regionU2 0 rfl rfl ?_
  have srX:SlI (inC (zF 0 h4)) v ws:=(s4.own).sl
  refine goU ?_
  refine WO.sp (fun hd=> ?_) (fun hd=> ?_)<;>simp only[DB]at hd<;>refine goU ?_
  ·refine WO.con (yy _ (atI ws a) (atI ws i2)) ?_
   rintro _ _ ⟨rfl,rfl⟩
   refine WO.nil ?_
   refine yo ?_
   refine goU ?_
   exact zI ⟨rfl,by rw[show decide (i2≤q∧¬(atI ws a<atI ws i2))= !decide (atI ws a<atI ws i2) from zBK hd];exact sl_⟩
  ·exact zI ⟨rfl,by rw[show decide (i2≤q∧¬(atI ws a<atI ws i2))=false from decide_eq_false (fun hh=>absurd hh.1 (by omega))];exact sl_⟩
 rintro t5 _ hs5 ⟨rfl,q5⟩
 refine go ?_
 refine WX.br (fun he=> ?_) (fun he=> ?_)<;>simp only[DB]at he
 ·refine go ?_
  refine zA (i2+1) (by omega) ⟨rfl,sl_,by omega,fun k h1 h2=> ?_⟩
  by_cases e:k=i2
  ·rw[e];omega
  ·exact hlow2 k h1 (by omega)
 refine go ?_
 refine WX.loopA [46,47,48,49,50,51,52,53,54,55,56,57,58,59,60,61,10] (by kernel_rfl) (fun j=>(j+1 - a).toNat) (fun (j:Int) t h2=>h4=h2∧zB t 10=I j∧(i2 - 1≤j∧j≤q)∧∀ k,j<k→k<b→P<atI ws k) q ?_ ?_
 ·exact⟨rfl,sl_,by omega,hhigh⟩
 rintro j2 t _ hsame ⟨rfl,s10,hj,hhigh2⟩
 refine go ?_
 refine WX.cutA [46,47,48,49,50,51,52,53,54,55,56,57,58,59] (by kernel_rfl) (fun t h'=>h4=h'∧zB t 59= .bool (decide (i2≤j2∧(atI ws a<atI ws j2)))) ?_ ?_
 ·refine WX.regionU2 0 rfl rfl ?_
  have srX:SlI (inC (zF 0 h4)) v ws:=(s4.own).sl
  refine goU ?_
  refine WO.sp (fun hd=> ?_) (fun hd=> ?_)<;>simp only[DB]at hd<;>refine goU ?_
  ·refine WO.con (yy _ (atI ws a) (atI ws j2)) ?_
   rintro _ _ ⟨rfl,rfl⟩
   refine WO.nil ?_
   refine yo ?_
   refine goU ?_
   exact zI ⟨rfl,by rw[show decide (i2≤j2∧(atI ws a<atI ws j2))=decide (atI ws a<atI ws j2) from zCC hd];exact sl_⟩
  ·exact zI ⟨rfl,by rw[show decide (i2≤j2∧(atI ws a<atI ws j2))=false from decide_eq_false (fun hh=>absurd hh.1 (by omega))];exact sl_⟩
 rintro t6 _ hs6 ⟨rfl,q6⟩
 refine go ?_
 refine WX.br (fun hf=> ?_) (fun hf=> ?_)<;>simp only[DB]at hf
 ·refine go ?_
  refine zA (j2 - 1) (by omega) ⟨rfl,sl_,by omega,fun k h1 h2=> ?_⟩
  by_cases e:k=j2
  ·rw[e];omega
  ·exact hhigh2 k (by omega) h2
 refine go ?_
 refine WX.br (fun hg=> ?_) (fun hg=> ?_)<;>simp only[DB]at hg
 ·refine go ?_
  refine rt ?_
  refine⟨_,_,rfl,s4,by omega,fun k h1 h2=> ?_,fun k h1 h2=> ?_⟩
  ·by_cases e:k=a
   ·rw[e,ha];exact Int.le_refl _
   ·exact hlow2 k (by omega) h2
  ·exact hhigh2 k (by omega) h2
 have hi2:P<atI ws i2:=by
  rw[←ha];exact Int.not_le.1 fun hh=>he ⟨by omega,hh⟩
 have hj2:atI ws j2≤P:=by
  rw[←ha];exact Int.not_lt.1 fun hh=>hf ⟨by omega,hh⟩
 have hij:i2≠j2:=fun e=>by subst e;omega
 refine go ?_
 refine WX.regionU2 0 rfl rfl ?_
 have srX:SlI (inC (zF 0 h4)) v ws:=(s4.own).sl
 refine goU ?_
 refine WU2.swA (i2) (j2) (s4).own (s4).ext (by rw[(s4).ext.mark];exact hmB) ?_
 intro h3 e3 o3 u3
 have s3:=s4.swp e3 o3 u3 h0 hb (by omega) (by omega)
 refine go ?_
 refine zA (swp ws i2 j2,i2+1,j2 - 1) (by simp only;omega) ⟨s3,sl_,sl_,by simp only;omega,?_,fun k h1 h2=> ?_,fun k h1 h2=> ?_⟩
 ·simp only
  rw[yK (by omega) (by omega) (by omega),if_neg (by omega),if_neg (by omega)];exact ha
 ·simp only at h2 ⊢
  rw[yK (by omega) (by omega) (by omega),if_neg (by omega)]
  by_cases e:k=i2
  ·rw[if_pos e];exact hj2
  ·rw[if_neg e];exact hlow2 k h1 (by omega)
 ·simp only at h1 ⊢
  rw[yK (by omega) (by omega) (by omega)]
  by_cases e:k=j2
  ·rw[if_pos e];omega
  ·rw[if_neg e,if_neg (by omega)];exact hhigh2 k (by omega) h2
noncomputable def body97_0:ACode:=(.seq (.seq (.region [⟨some 11,none,(.mov (.tmp 6))⟩,⟨some 12,none,(.mov (.tmp 7))⟩,⟨some 13,none,(.bin .lss (.tmp 11) (.tmp 12))⟩]) (.cond (.tmp 13) .skip (.exit 0))) (.block 1 (.seq (.regionC [(⟨some 14,none,(.mov (.tmp 0))⟩,[]),(⟨some 15,none,(.mov (.tmp 6))⟩,[]),(⟨some 16,none,(.mov (.tmp 0))⟩,[]),(⟨some 17,none,(.mov (.tmp 7))⟩,[]),(⟨some 18,none,(.mov (.tmp 0))⟩,[]),(⟨some 19,none,(.mov (.tmp 7))⟩,[]),(⟨some 20,none,(.idx 1 (.tmp 18) (.tmp 19))⟩,[]),(⟨some 21,none,(.load false 1 (.tmp 20))⟩,[]),(⟨some 22,none,(.mov (.tmp 0))⟩,[]),(⟨some 23,none,(.mov (.tmp 6))⟩,[]),(⟨some 24,none,(.idx 1 (.tmp 22) (.tmp 23))⟩,[]),(⟨some 25,none,(.load false 1 (.tmp 24))⟩,[]),(⟨some 26,none,(.idx 1 (.tmp 14) (.tmp 15))⟩,[]),(⟨none,none,(.store 1 (.tmp 26) (.tmp 21))⟩,[]),(⟨some 27,none,(.idx 1 (.tmp 16) (.tmp 17))⟩,[]),(⟨none,none,(.store 1 (.tmp 27) (.tmp 25))⟩,[])]) (.seq (.region [⟨some 28,none,(.mov (.tmp 6))⟩,⟨some 29,none,(.bin .add (.tmp 28) (.const (.int .i64 1)))⟩,⟨some 6,none,(.mov (.tmp 29))⟩]) (.region [⟨some 30,none,(.mov (.tmp 7))⟩,⟨some 31,none,(.bin .sub (.tmp 30) (.const (.int .i64 1)))⟩,⟨some 7,none,(.mov (.tmp 31))⟩])))))
noncomputable def body97:ACode:=(.seq (.region [⟨some 8,none,(.mov (.tmp 1))⟩,⟨some 6,none,(.mov (.tmp 8))⟩]) (.seq (.region [⟨some 9,none,(.mov (.tmp 2))⟩,⟨some 10,none,(.bin .sub (.tmp 9) (.const (.int .i64 1)))⟩,⟨some 7,none,(.mov (.tmp 10))⟩]) (.block 0 (.loop body97_0))))
set_option maxRecDepth 100000 in
theorem tab97:tb.code 97=some ⟨32,[],body97⟩:=by kernel_rfl
theorem zF9 (hB h:AHeap) (v:Value) (xs:List Int) (a b:Int) (e0:Ext hB h) (hmB:hB.mark≤hB.n) (o:OwnI hB h v xs) (h0:0≤a) (hab:a≤b) (hb:b≤xs.length) (hlen:xs.length≤1000000000):
  WC Tryz.prog tb 97 [v,I a,I b] h fun r h'=>∃ ys,SS hB h v a b xs ys h':=by
 have s0:=SS.start a b o e0
 refine WC.of (zG 97) tab97 ?_;simp only[zN,Nat.zero_add,Nat.reduceAdd]
 refine go ?_
 refine WX.loopA [11,12,13,14,15,16,17,18,19,20,21,22,23,24,25,26,27,28,29,6,30,31,7] (by kernel_rfl) (fun x=>(x.2.2+1 - x.2.1).toNat) (fun (x:List Int×Int×Int) t h4=>SS hB h v a b xs x.1 h4∧zB t 6=I x.2.1∧zB t 7=I x.2.2∧(a≤x.2.1∧x.2.2≤b - 1)∧(x.2.1≤b∧a - 1≤x.2.2)) (xs,a,b - 1) ?_ ?_
 ·exact⟨s0,sl_,sl_,by simp only;omega,by simp only;omega⟩
 rintro⟨ws,p,q⟩ t h4 hsame ⟨s4,s6,s7,hpq,hpq2⟩
 simp only at s4 s6 s7 hpq hpq2
 have hl4:=s4.len
 refine go ?_
 refine WX.br (fun he=> ?_) (fun he=> ?_)<;>simp only[DB]at he
 ·refine go ?_
  refine WX.regionU2 0 rfl rfl ?_
  have srX:SlI (inC (zF 0 h4)) v ws:=(s4.own).sl
  refine goU ?_
  refine WU2.swA (p) (q) (s4).own (s4).ext (by rw[(s4).ext.mark];exact hmB) ?_
  intro h3 e3 o3 u3
  have s3:=s4.swp e3 o3 u3 h0 hb (by omega) (by omega)
  refine go ?_
  exact zA (swp ws p q,p+1,q - 1) (by simp only;omega) ⟨s3,sl_,sl_,by simp only;omega,by simp only;omega⟩
 ·refine go ?_
  refine rtN ?_
  exact⟨ws,s4⟩
def Edge (lo hi k c:Int):Prop:=lo≤k∧(c=2 * k+1∨c=2 * k+2)∧c<hi
def zDQ (first lo hi:Int) (xs:List Int):Prop:=∀ k c,Edge lo hi k c→atI xs (first+c)≤atI xs (first+k)
theorem heap_max {first hi:Int} {xs:List Int} (h:zDQ first 0 hi xs):∀ (n:Nat) (k:Int),k=n→k<hi→atI xs (first+k)≤atI xs (first+0):=by
 intro n
 induction n using Nat.strongRecOn with
 |_ n ih=>
  intro k hk hlt
  by_cases e:k=0
  ·rw[e];exact Int.le_refl _
  ·have h1:=h ((k - 1) / 2) k ⟨by omega,by omega,hlt⟩
   have h2:=ih ((k - 1) / 2).toNat (by omega) ((k - 1) / 2) (by omega) (by omega)
   omega
noncomputable def zG4:ACode:=(.block 1 (.seq (.region [⟨some 11,none,(.mov (.tmp 8))⟩,⟨some 12,none,(.bin .mul (.const (.int .i64 2)) (.tmp 11))⟩,⟨some 13,none,(.bin .add (.tmp 12) (.const (.int .i64 1)))⟩,⟨some 9,none,(.mov (.tmp 13))⟩]) (.seq (.seq (.region [⟨some 14,none,(.mov (.tmp 9))⟩,⟨some 15,none,(.mov (.tmp 2))⟩,⟨some 16,none,(.bin .geq (.tmp 14) (.tmp 15))⟩]) (.cond (.tmp 16) (.exit 0) .skip)) (.seq (.seq (.regionC [(⟨some 17,none,(.mov (.tmp 9))⟩,[]),(⟨some 18,none,(.bin .add (.tmp 17) (.const (.int .i64 1)))⟩,[]),(⟨some 19,none,(.mov (.tmp 2))⟩,[]),(⟨some 20,none,(.bin .lss (.tmp 18) (.tmp 19))⟩,[]),(⟨some 21,none,(.mov (.tmp 20))⟩,[]),(⟨some 22,some (21,true),(.mov (.tmp 0))⟩,[]),(⟨some 23,some (21,true),(.mov (.tmp 3))⟩,[]),(⟨some 24,some (21,true),(.mov (.tmp 9))⟩,[]),(⟨some 25,some (21,true),(.bin .add (.tmp 23) (.tmp 24))⟩,[]),(⟨some 26,some (21,true),(.idx 1 (.tmp 22) (.tmp 25))⟩,[]),(⟨some 27,some (21,true),(.load false 1 (.tmp 26))⟩,[]),(⟨some 28,some (21,true),(.mov (.tmp 0))⟩,[]),(⟨some 29,some (21,true),(.mov (.tmp 3))⟩,[]),(⟨some 30,some (21,true),(.mov (.tmp 9))⟩,[]),(⟨some 31,some (21,true),(.bin .add (.tmp 29) (.tmp 30))⟩,[]),(⟨some 32,some (21,true),(.bin .add (.tmp 31) (.const (.int .i64 1)))⟩,[]),(⟨some 33,some (21,true),(.idx 1 (.tmp 28) (.tmp 32))⟩,[]),(⟨some 34,some (21,true),(.load false 1 (.tmp 33))⟩,[]),(⟨some 35,some (21,true),(.call (.func 99) [(.tmp 27),(.tmp 34)])⟩,[]),(⟨some 36,none,(.pick (.tmp 21) (.tmp 35) (.const (.bool false)))⟩,[])]) (.cond (.tmp 36) (.region [⟨some 37,none,(.mov (.tmp 9))⟩,⟨some 38,none,(.bin .add (.tmp 37) (.const (.int .i64 1)))⟩,⟨some 9,none,(.mov (.tmp 38))⟩]) .skip)) (.seq (.seq (.regionC [(⟨some 39,none,(.mov (.tmp 0))⟩,[]),(⟨some 40,none,(.mov (.tmp 3))⟩,[]),(⟨some 41,none,(.mov (.tmp 8))⟩,[]),(⟨some 42,none,(.bin .add (.tmp 40) (.tmp 41))⟩,[]),(⟨some 43,none,(.idx 1 (.tmp 39) (.tmp 42))⟩,[]),(⟨some 44,none,(.load false 1 (.tmp 43))⟩,[]),(⟨some 45,none,(.mov (.tmp 0))⟩,[]),(⟨some 46,none,(.mov (.tmp 3))⟩,[]),(⟨some 47,none,(.mov (.tmp 9))⟩,[]),(⟨some 48,none,(.bin .add (.tmp 46) (.tmp 47))⟩,[]),(⟨some 49,none,(.idx 1 (.tmp 45) (.tmp 48))⟩,[]),(⟨some 50,none,(.load false 1 (.tmp 49))⟩,[]),(⟨some 51,none,(.call (.func 99) [(.tmp 44),(.tmp 50)])⟩,[]),(⟨some 52,none,(.un .not (.tmp 51))⟩,[])]) (.cond (.tmp 52) .ret .skip)) (.seq (.regionC [(⟨some 53,none,(.mov (.tmp 0))⟩,[]),(⟨some 54,none,(.mov (.tmp 3))⟩,[]),(⟨some 55,none,(.mov (.tmp 8))⟩,[]),(⟨some 56,none,(.bin .add (.tmp 54) (.tmp 55))⟩,[]),(⟨some 57,none,(.mov (.tmp 0))⟩,[]),(⟨some 58,none,(.mov (.tmp 3))⟩,[]),(⟨some 59,none,(.mov (.tmp 9))⟩,[]),(⟨some 60,none,(.bin .add (.tmp 58) (.tmp 59))⟩,[]),(⟨some 61,none,(.mov (.tmp 0))⟩,[]),(⟨some 62,none,(.mov (.tmp 3))⟩,[]),(⟨some 63,none,(.mov (.tmp 9))⟩,[]),(⟨some 64,none,(.bin .add (.tmp 62) (.tmp 63))⟩,[]),(⟨some 65,none,(.idx 1 (.tmp 61) (.tmp 64))⟩,[]),(⟨some 66,none,(.load false 1 (.tmp 65))⟩,[]),(⟨some 67,none,(.mov (.tmp 0))⟩,[]),(⟨some 68,none,(.mov (.tmp 3))⟩,[]),(⟨some 69,none,(.mov (.tmp 8))⟩,[]),(⟨some 70,none,(.bin .add (.tmp 68) (.tmp 69))⟩,[]),(⟨some 71,none,(.idx 1 (.tmp 67) (.tmp 70))⟩,[]),(⟨some 72,none,(.load false 1 (.tmp 71))⟩,[]),(⟨some 73,none,(.idx 1 (.tmp 53) (.tmp 56))⟩,[]),(⟨none,none,(.store 1 (.tmp 73) (.tmp 66))⟩,[]),(⟨some 74,none,(.idx 1 (.tmp 57) (.tmp 60))⟩,[]),(⟨none,none,(.store 1 (.tmp 74) (.tmp 72))⟩,[])]) (.region [⟨some 75,none,(.mov (.tmp 9))⟩,⟨some 8,none,(.mov (.tmp 75))⟩])))))))
noncomputable def body124:ACode:=(.seq (.region [⟨some 10,none,(.mov (.tmp 1))⟩,⟨some 8,none,(.mov (.tmp 10))⟩]) (.block 0 (.loop zG4)))
set_option maxRecDepth 100000 in
theorem tab124:tb.code 124=some ⟨76,[],body124⟩:=by kernel_rfl
theorem zGr (hB h:AHeap) (v:Value) (xs:List Int) (lo hi first:Int) (e0:Ext hB h) (hmB:hB.mark≤hB.n) (o:OwnI hB h v xs) (h0:0≤lo) (hlo:lo≤1000000000) (hf:0≤first) (hb:first+hi≤xs.length) (hlen:xs.length≤1000000000) (hh:zDQ first (lo+1) hi xs):
  WC Tryz.prog tb 124 [v,I lo,I hi,I first] h fun r h'=>∃ ys,SS hB h v (first+lo) (first+hi) xs ys h'∧zDQ first lo hi ys:=by
 have s0:=SS.start (first+lo) (first+hi) o e0
 refine WC.of (zG 124) tab124 ?_;simp only[zN,Nat.zero_add,Nat.reduceAdd]
 refine go ?_
 refine WX.loopA [11,12,13,9,14,15,16,17,18,19,20,21,22,23,24,25,26,27,28,29,30,31,32,33,34,35,36,37,38,9,39,40,41,42,43,44,45,46,47,48,49,50,51,52,53,54,55,56,57,58,59,60,61,62,63,64,65,66,67,68,69,70,71,72,73,74,75,8] (by kernel_rfl) (fun x=>(hi+1 - x.2).toNat) (fun (x:List Int×Int) t h4=>SS hB h v (first+lo) (first+hi) xs x.1 h4∧zB t 8=I x.2∧(lo≤x.2∧(x.2=lo∨x.2<hi))∧(∀ k c,Edge lo hi k c→k≠x.2→atI x.1 (first+c)≤atI x.1 (first+k))∧∀ k c,Edge lo hi k x.2→Edge lo hi x.2 c→atI x.1 (first+c)≤atI x.1 (first+k)) (xs,lo) ?_ ?_
 ·refine⟨s0,sl_,⟨Int.le_refl _,.inl rfl⟩,fun k c hk hne=>hh k c ⟨by have:=hk.1;simp only at hne;omega,hk.2⟩,fun k c h1 h2=> ?_⟩
  obtain⟨a1,a2,a3⟩:=h1;simp only at a2;omega
 rintro⟨ws,r⟩ t h4 hsame ⟨s4,s8,hr,i1,i2⟩
 simp only at s4 s8 hr i1 i2
 have hl4:=s4.len
 refine go ?_
 refine WX.br (fun he=> ?_) (fun he=> ?_)<;>simp only[DB]at he
 ·refine go ?_
  refine rtN ?_
  refine⟨ws,s4,fun k c hk=> ?_⟩
  by_cases e:k=r
  ·obtain⟨a1,a2,a3⟩:=hk;subst e;omega
  ·exact i1 k c hk e
 refine go ?_
 refine WX.cutA [17,18,19,20,21,22,23,24,25,26,27,28,29,30,31,32,33,34,35,36] (by kernel_rfl) (fun t h'=>h4=h'∧zB t 36= .bool (decide (2 * r+1+1<hi∧(atI ws (first+(2 * r+1))<atI ws (first+(2 * r+1)+1))))) ?_ ?_
 ·refine WX.regionU2 0 rfl rfl ?_
  have srX:SlI (inC (zF 0 h4)) v ws:=(s4.own).sl
  refine goU ?_
  refine WO.sp (fun hd=> ?_) (fun hd=> ?_)<;>simp only[DB]at hd<;>refine goU ?_
  ·refine WO.con (yy _ (atI ws (first+(2 * r+1))) (atI ws (first+(2 * r+1)+1))) ?_
   rintro _ _ ⟨rfl,rfl⟩
   refine WO.nil ?_
   refine yo ?_
   refine goU ?_
   exact zI ⟨rfl,by rw[show decide (2 * r+1+1<hi∧(atI ws (first+(2 * r+1))<atI ws (first+(2 * r+1)+1)))=decide (atI ws (first+(2 * r+1))<atI ws (first+(2 * r+1)+1)) from zCC hd];exact sl_⟩
  ·exact zI ⟨rfl,by rw[show decide (2 * r+1+1<hi∧(atI ws (first+(2 * r+1))<atI ws (first+(2 * r+1)+1)))=false from decide_eq_false (fun hh=>absurd hh.1 (by omega))];exact sl_⟩
 rintro t5 _ hs5 ⟨rfl,q5⟩
 have hcut:∀ c:Int,(c=2 * r+1∨c=2 * r+2)→c<hi→(∀ d,Edge lo hi r d→atI ws (first+d)≤atI ws (first+c))→∀ (t:Trie Value) (K:AExit→AFr→AHeap→Prop),True:=fun _ _ _ _ _ _=>trivial
 refine go ?_
 refine WX.cutA [37,38,9] (by kernel_rfl) (fun t h'=>h4=h'∧∃ c:Int,zB t 9=I c∧(c=2 * r+1∨c=2 * r+2)∧c<hi∧∀ d,Edge lo hi r d→atI ws (first+d)≤atI ws (first+c)) ?_ ?_
 ·refine WX.br (fun hg=> ?_) (fun hg=> ?_)<;>simp only[DB]at hg<;>refine go ?_
  ·refine zI ⟨rfl,2 * r+1+1,sl_,by omega,by omega,fun d hd=> ?_⟩
   obtain⟨_,a2,_⟩:=hd
   have e1:first+(2 * r+1)+1=first+(2 * r+1+1):=by omega
   rw[e1]at hg
   rcases a2 with rfl|rfl
   ·omega
   ·have:first+(2 * r+2)=first+(2 * r+1+1):=by omega
    rw[this];exact Int.le_refl _
  ·refine zI ⟨rfl,2 * r+1,sl_,by omega,by omega,fun d hd=> ?_⟩
   obtain⟨_,a2,a3⟩:=hd
   rcases a2 with rfl|rfl
   ·exact Int.le_refl _
   ·have e1:first+(2 * r+1)+1=first+(2 * r+2):=by omega
    rw[e1]at hg
    exact Int.not_lt.1 fun hh=>hg ⟨by omega,hh⟩
 clear hcut
 rintro t7 _ hs7 ⟨rfl,c,q7,hc,hc2,hmax⟩
 refine go ?_
 refine WX.regionU2 0 rfl rfl ?_
 have srX:SlI (inC (zF 0 h4)) v ws:=(s4.own).sl
 refine goU ?_
 refine WO.con (yy _ (atI ws (first+r)) (atI ws (first+c))) ?_
 rintro _ _ ⟨rfl,rfl⟩
 refine WO.nil ?_
 refine yo ?_
 refine goU ?_
 rw[YY]
 refine WX.br (fun hg=> ?_) (fun hg=> ?_)<;>simp only[DB]at hg
 ·refine go ?_
  refine rt ?_
  refine⟨ws,s4,fun k d hk=> ?_⟩
  by_cases e:k=r
  ·subst e;have:=hmax d hk;omega
  ·exact i1 k d hk e
 refine go ?_
 refine WX.regionU2 0 rfl rfl ?_
 have srX:SlI (inC (zF 0 h4)) v ws:=(s4.own).sl
 refine goU ?_
 refine WU2.swA (first+r) (first+c) (s4).own (s4).ext (by rw[(s4).ext.mark];exact hmB) ?_
 intro h3 e3 o3 u3
 have s3:=s4.swp e3 o3 u3 (by omega) hb (by omega) (by omega)
 refine go ?_
 have hat:∀ k,0≤k→atI (swp ws (first+r) (first+c)) (first+k)=if k=c then atI ws (first+r) else if k=r then atI ws (first+c) else atI ws (first+k):=by
  intro k hk
  rw[yK (by omega) (by omega) (by omega)]
  have e1:(first+k=first+c)↔k=c:=by omega
  have e2:(first+k=first+r)↔k=r:=by omega
  simp only[e1,e2]
 refine zA (swp ws (first+r) (first+c),c) (by simp only;omega) ⟨s3,sl_,by simp only;omega,fun k d hk hne=> ?_,fun k d hk hd=> ?_⟩
 ·simp only at hne ⊢
  have hk':=hk
  obtain⟨a1,a2,a3⟩:=hk'
  rw[hat d (by omega),hat k (by omega),if_neg hne]
  by_cases e:k=r
  ·rw[if_pos e]
   subst e
   by_cases e2:d=c
   ·rw[if_pos e2];omega
   ·rw[if_neg e2,if_neg (by omega)];exact hmax d hk
  ·rw[if_neg e,if_neg (by omega:¬d=c)]
   by_cases e2:d=r
   ·rw[if_pos e2];subst e2;exact i2 k c hk ⟨hr.1,hc,hc2⟩
   ·rw[if_neg e2];exact i1 k d hk e
 ·simp only at hk hd ⊢
  obtain⟨a1,a2,a3⟩:=hk
  have ek:k=r:=by omega
  have hd':=hd
  obtain⟨b1,b2,b3⟩:=hd'
  rw[hat d (by omega),hat k (by omega),if_neg (by omega),if_neg (by omega),if_neg (by omega),if_pos ek]
  exact i1 c d hd (by omega)
noncomputable def body94_0:ACode:=(.seq (.seq (.region [⟨some 18,none,(.mov (.tmp 9))⟩,⟨some 19,none,(.bin .geq (.tmp 18) (.const (.int .i64 0)))⟩]) (.cond (.tmp 19) .skip (.exit 0))) (.seq (.block 1 (.region [⟨some 22,none,(.mov (.tmp 0))⟩,⟨some 23,none,(.mov (.tmp 9))⟩,⟨some 24,none,(.mov (.tmp 8))⟩,⟨some 25,none,(.mov (.tmp 6))⟩,⟨some 26,none,(.call (.func 124) [(.tmp 22),(.tmp 23),(.tmp 24),(.tmp 25)])⟩])) (.region [⟨some 20,none,(.mov (.tmp 9))⟩,⟨some 21,none,(.bin .sub (.tmp 20) (.const (.int .i64 1)))⟩,⟨some 9,none,(.mov (.tmp 21))⟩])))
noncomputable def body94_1:ACode:=(.seq (.seq (.region [⟨some 29,none,(.mov (.tmp 10))⟩,⟨some 30,none,(.bin .geq (.tmp 29) (.const (.int .i64 0)))⟩]) (.cond (.tmp 30) .skip (.exit 2))) (.seq (.block 3 (.seq (.regionC [(⟨some 33,none,(.mov (.tmp 0))⟩,[]),(⟨some 34,none,(.mov (.tmp 6))⟩,[]),(⟨some 35,none,(.mov (.tmp 0))⟩,[]),(⟨some 36,none,(.mov (.tmp 6))⟩,[]),(⟨some 37,none,(.mov (.tmp 10))⟩,[]),(⟨some 38,none,(.bin .add (.tmp 36) (.tmp 37))⟩,[]),(⟨some 39,none,(.mov (.tmp 0))⟩,[]),(⟨some 40,none,(.mov (.tmp 6))⟩,[]),(⟨some 41,none,(.mov (.tmp 10))⟩,[]),(⟨some 42,none,(.bin .add (.tmp 40) (.tmp 41))⟩,[]),(⟨some 43,none,(.idx 1 (.tmp 39) (.tmp 42))⟩,[]),(⟨some 44,none,(.load false 1 (.tmp 43))⟩,[]),(⟨some 45,none,(.mov (.tmp 0))⟩,[]),(⟨some 46,none,(.mov (.tmp 6))⟩,[]),(⟨some 47,none,(.idx 1 (.tmp 45) (.tmp 46))⟩,[]),(⟨some 48,none,(.load false 1 (.tmp 47))⟩,[]),(⟨some 49,none,(.idx 1 (.tmp 33) (.tmp 34))⟩,[]),(⟨none,none,(.store 1 (.tmp 49) (.tmp 44))⟩,[]),(⟨some 50,none,(.idx 1 (.tmp 35) (.tmp 38))⟩,[]),(⟨none,none,(.store 1 (.tmp 50) (.tmp 48))⟩,[])]) (.region [⟨some 51,none,(.mov (.tmp 0))⟩,⟨some 52,none,(.mov (.tmp 7))⟩,⟨some 53,none,(.mov (.tmp 10))⟩,⟨some 54,none,(.mov (.tmp 6))⟩,⟨some 55,none,(.call (.func 124) [(.tmp 51),(.tmp 52),(.tmp 53),(.tmp 54)])⟩]))) (.region [⟨some 31,none,(.mov (.tmp 10))⟩,⟨some 32,none,(.bin .sub (.tmp 31) (.const (.int .i64 1)))⟩,⟨some 10,none,(.mov (.tmp 32))⟩])))
noncomputable def body94:ACode:=(.seq (.region [⟨some 11,none,(.mov (.tmp 1))⟩,⟨some 6,none,(.mov (.tmp 11))⟩]) (.seq (.region [⟨some 7,none,(.mov (.const (.int .i64 0)))⟩]) (.seq (.region [⟨some 12,none,(.mov (.tmp 2))⟩,⟨some 13,none,(.mov (.tmp 1))⟩,⟨some 14,none,(.bin .sub (.tmp 12) (.tmp 13))⟩,⟨some 8,none,(.mov (.tmp 14))⟩]) (.seq (.seq (.region [⟨some 15,none,(.mov (.tmp 8))⟩,⟨some 16,none,(.bin .sub (.tmp 15) (.const (.int .i64 1)))⟩,⟨some 17,none,(.bin .quo (.tmp 16) (.const (.int .i64 2)))⟩,⟨some 9,none,(.mov (.tmp 17))⟩]) (.block 0 (.loop body94_0))) (.seq (.region [⟨some 27,none,(.mov (.tmp 8))⟩,⟨some 28,none,(.bin .sub (.tmp 27) (.const (.int .i64 1)))⟩,⟨some 10,none,(.mov (.tmp 28))⟩]) (.block 2 (.loop body94_1)))))))
set_option maxRecDepth 100000 in
theorem tab94:tb.code 94=some ⟨56,[],body94⟩:=by kernel_rfl
theorem heap_ok (hB h:AHeap) (v:Value) (xs:List Int) (a b:Int) (e0:Ext hB h) (hmB:hB.mark≤hB.n) (o:OwnI hB h v xs) (h0:0≤a) (hab:a≤b) (hb:b≤xs.length) (hlen:xs.length≤1000000000):
  WC Tryz.prog tb 94 [v,I a,I b] h fun r h'=>∃ ys,SS hB h v a b xs ys h'∧Srt a b ys:=by
 have s0:=SS.start a b o e0
 refine WC.of (zG 94) tab94 ?_;simp only[zN,Nat.zero_add,Nat.reduceAdd]
 have hq:(b - a - 1).tdiv 2≤b - a∧0≤(b - a - 1).tdiv 2∧b - a - 2≤2 * (b - a - 1).tdiv 2:=by
  by_cases e:b - a=0
  ·rw[e];decide
  ·rw[Int.tdiv_eq_ediv_of_nonneg (by omega)];omega
 refine go ?_
 refine WO.quo (a:=b - a - 1) (c:=2) (by decide) (by omega) (by omega) ?_
 refine go ?_
 refine WX.loopA [18,19,22,23,24,25,26,20,21,9] (by kernel_rfl) (fun x=>(x.2+1).toNat) (fun (x:List Int×Int) t h4=>SS hB h v a b xs x.1 h4∧zB t 9=I x.2∧(-1≤x.2∧x.2≤b - a)∧zDQ a (x.2+1) (b - a) x.1) (xs,(b - a - 1).tdiv 2) ?_ ?_
 ·refine⟨s0,sl_,by simp only;omega,fun k c hk=> ?_⟩
  obtain⟨a1,a2,a3⟩:=hk
  simp only at a1;omega
 rintro⟨ws,i⟩ t h4 hsame ⟨s4,s9,hi,hh⟩
 simp only at s4 s9 hi hh
 have hl4:=s4.len
 refine go ?_
 refine WX.br (fun he=> ?_) (fun he=> ?_)<;>simp only[DB]at he
 ·refine go ?_
  refine WO.con (zGr hB h4 v ws i (b - a) a s4.ext hmB s4.own (by omega) (by omega) h0 (by omega) (by omega) hh) ?_
  rintro _ h5 ⟨ys,s5,hh5⟩
  refine go ?_
  exact zA (ys,i - 1) (by simp only;omega) ⟨s4.call s5 (by omega) (by omega),sl_,by simp only;omega,by simp only;rw[show i - 1+1=i by omega];exact hh5⟩
 have hi1:i= -1:=by omega
 subst hi1
 refine go ?_
 have hh0:zDQ a 0 (b - a - 1+1) ws:=by rw[show b - a - 1+1=b - a by omega];exact hh
 clear hh s9 he hi
 refine WX.loopA [29,30,33,34,35,36,37,38,39,40,41,42,43,44,45,46,47,48,49,50,51,52,53,54,55,31,32,10] (by kernel_rfl) (fun x=>(x.2+1).toNat) (fun (x:List Int×Int) t h5=>SS hB h v a b xs x.1 h5∧zB t 10=I x.2∧(-1≤x.2∧x.2≤b - a - 1)∧zDQ a 0 (x.2+1) x.1∧Srt (a+x.2+1) b x.1∧∀ p q,a≤p→p≤a+x.2→a+x.2<q→q<b→atI x.1 p≤atI x.1 q) (ws,b - a - 1) ?_ ?_
 ·exact⟨s4,sl_,by simp only;omega,hh0,Srt.small (by simp only;omega),fun p q h1 h2 h3 h4=>by simp only at h3;omega⟩
 clear hh0 s4 hl4
 rintro⟨zs,i⟩ t h4 hsame ⟨s4,s10,hi,hh,hs,hl⟩
 simp only at s4 s10 hi hh hs hl
 have hl4:=s4.len
 refine go ?_
 refine WX.br (fun he=> ?_) (fun he=> ?_)<;>simp only[DB]at he
 ·refine go ?_
  refine WX.regionU2 0 rfl rfl ?_
  have srX:SlI (inC (zF 0 h4)) v zs:=(s4.own).sl
  refine goU ?_
  refine WU2.swA (a) (a+i) (s4).own (s4).ext (by rw[(s4).ext.mark];exact hmB) ?_
  intro h3 e3 o3 u3
  have s3:=s4.swp e3 o3 u3 (by omega) hb (by omega) (by omega)
  have hat:∀ k,0≤k→atI (swp zs a (a+i)) (a+k)=if k=i then atI zs (a+0) else if k=0 then atI zs (a+i) else atI zs (a+k):=by
   intro k hk
   rw[yK (by omega) (by omega) (by omega)]
   have e1:(a+k=a+i)↔k=i:=by omega
   have e2:(a+k=a)↔k=0:=by omega
   have e3:a+0=a:=by omega
   simp only[e1,e2,e3]
  have hmax:∀ k,0≤k→k≤i→atI zs (a+k)≤atI zs (a+0):=fun k h1 h2=>heap_max hh k.toNat k (by omega) (by omega)
  refine go ?_
  refine WO.con (zGr hB h3 v _ 0 i a s3.ext hmB s3.own (by omega) (by omega) h0 (by rw[s3.len];omega) (by rw[s3.len];omega) (fun k c hk=> ?_)) ?_
  ·obtain⟨a1,a2,a3⟩:=hk
   rw[hat c (by omega),hat k (by omega),if_neg (by omega),if_neg (by omega),if_neg (by omega),if_neg (by omega)]
   exact hh k c ⟨by omega,a2,by omega⟩
  rintro _ h5 ⟨ys,s5,hh5⟩
  have p5:=s5.pi
  have out:∀ k,i≤k→atI ys (a+k)=atI (swp zs a (a+i)) (a+k):=fun k hk=>p5.out _ (by omega) (.inr (by omega))
  have low:∀ k,a+0≤k→k<a+i→atI ys k≤atI zs (a+0):=p5.all (p:=fun x=>x≤atI zs (a+0)) (by omega) (by rw[s3.len];omega) (fun k h1 h2=>by
   have:=hat (k - a) (by omega)
   rw[show a+(k - a)=k by omega]at this
   rw[this,if_neg (by omega)]
   by_cases e:k - a=0
   ·rw[if_pos e];exact hmax i (by omega) (by omega)
   ·rw[if_neg e];have:=hmax (k - a) (by omega) (by omega);rw[show a+(k - a)=k by omega]at this;exact this)
  have top:atI ys (a+i)=atI zs (a+0):=by rw[out i (Int.le_refl _),hat i (by omega),if_pos rfl]
  have rest:∀ k,a+i<k→atI ys k=atI zs k:=fun k hk=>by
   have h1:=out (k - a) (by omega)
   rw[hat (k - a) (by omega),if_neg (by omega),if_neg (by omega),show a+(k - a)=k by omega]at h1
   exact h1
  refine go ?_
  refine zA (ys,i - 1) (by simp only;omega) ⟨s3.call s5 (by omega) (by omega),sl_,by simp only;omega,by simp only;rw[show i - 1+1=i by omega];exact hh5,fun p q h1 h2 h3=> ?_,fun p q h1 h2 h3 h4=> ?_⟩
  ·simp only at h1 ⊢
   by_cases ep:p=a+i
   ·by_cases eq:q=a+i
    ·rw[ep,eq];exact Int.le_refl _
    ·rw[ep,top,rest q (by omega)];exact hl (a+0) q (by omega) (by omega) (by omega) h3
   ·rw[rest p (by omega),rest q (by omega)];exact hs p q (by omega) h2 h3
  ·simp only at h2 h3 ⊢
   have hp:=low p (by omega) (by omega)
   by_cases eq:q=a+i
   ·rw[eq,top];exact hp
   ·rw[rest q (by omega)];have:=hl (a+0) q (by omega) (by omega) (by omega) h4;omega
 ·refine go ?_
  refine rtN ?_
  have hi1:i= -1:=by omega
  subst hi1
  exact⟨zs,s4,fun p q h1 h2 h3=>hs p q (by omega) h2 h3⟩
end Go.Proofs.YtdcgdfbblnljjaaGreatDoor
