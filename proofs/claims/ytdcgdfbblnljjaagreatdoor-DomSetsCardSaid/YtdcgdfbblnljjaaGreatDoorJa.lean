/- What functions of the program come to in the abstract machine, and plain laws about it; no statement of the seat is proved in this text. -/
import Derived.Test.YtdcgdfbblnljjaaGreatDoorAmU
import Derived.Test.YtdcgdfbblnljjaaGreatDoorRows
namespace Go.Proofs.YtdcgdfbblnljjaaGreatDoor
open Go.Am
set_option linter.unusedVariables false
set_option linter.unusedSimpArgs false
def hasT:List (Bool×Bool×Bool×Bool×Bool×Bool):=
 let f:=false;let t:=true
 [(f,f,f,f,f,f),(f,f,t,f,f,t),(f,f,f,f,f,t),(f,f,t,f,f,t),(t,t,f,f,f,t),(t,t,f,f,f,t),(t,t,f,f,f,t),(t,t,f,f,f,t),(t,t,f,f,f,t),(t,t,f,f,f,t),(t,t,f,f,f,t),(f,f,f,f,f,t),(f,f,f,f,f,t),(t,f,f,f,f,f),(t,f,t,f,f,t),(t,t,f,f,f,t),(t,f,f,f,f,t),(t,t,f,f,f,f),(f,f,t,t,f,t),(t,f,f,t,f,t),(f,f,f,f,f,t),(t,f,f,f,f,f),(f,f,f,t,t,t)]
def zb (op:Int):Bool×Bool×Bool×Bool×Bool×Bool:=hasT.getD op.toNat (false,false,false,false,false,false)
def Zm (x:Bool×Bool×Bool×Bool×Bool×Bool):List Value:=[.bool x.1,.bool x.2.1,.bool x.2.2.1,.bool x.2.2.2.1,.bool x.2.2.2.2.1,.bool x.2.2.2.2.2]
def Zs:List Value:=(hasT.map Zm).flatten
structure LType where
 kind:Int
 elem:Int
 many:Int
 parts:List Int
instance:Inhabited LType:=⟨⟨0,0,0,[]⟩⟩
def RTy (h:AHeap) (cs:List Value) (x:LType):Prop:=∃ va,cs=[.int .u8 x.kind,I x.elem,I x.many,va]∧SlI h va x.parts∧(x.parts.length:Int)≤9223372036854775807
theorem RTy.ext {h h' cs x} (r:RTy h cs x) (e:Ext h h'):RTy h' cs x:=let ⟨va,a,b,c⟩:=r;⟨va,a,b.ext e,c⟩
abbrev SlT (h:AHeap) (v:Value) (T:List LType):Prop:=SlR 4 RTy h v T
theorem SlT.ext {h h' v T} (s:SlT h v T) (e:Ext h h'):SlT h' v T:=SlR.ext (fun _ _ r=>RTy.ext r e) s e
theorem ty_one {h:AHeap} {v:Value} {l:List Int} (s:SlI h v l) (k:IntKind) (a b n:Int):zQ [.int k n,I a,I b,v]=true:=by
 obtain⟨_,_,_,rfl⟩:=SlC.shape s;rfl
def ZV (x:LType):Bool:=decide (1≤x.kind)&&decide (x.kind≤3)
def yX (m:Int) (l:List Int):Bool:=l.all fun n=>decide (0≤n)&&decide (n<m)
def yG (x:LType):Bool:=
 (if x.kind=1∨x.kind=4 then decide (x.elem=0) else true)&&(if x.kind=1∨x.kind=2∨x.kind=3∨x.kind=4 then decide (x.many=0) else true)&&
  (if x.kind=1∨x.kind=2∨x.kind=5 then decide (x.parts.length=0) else true)
def y9 (T:List LType) (x:LType) (k:Nat) (sizes:List Int):Int×Bool:=
 if x.kind=1 then (1,yG x)
 else if x.kind=2 then (1,yG x&&yX T.length [x.elem])
 else if x.kind=3 then (1,yG x&&decide (x.parts.length≤4)&&yX T.length (x.elem::x.parts)&&(x.elem::x.parts).all fun n=>ZV (T.getD n.toNat default))
 else if x.kind=4 then (if yG x&&yX k x.parts then ((x.parts.map fun n=>sizes.getD n.toNat 0).sum,decide (0<x.parts.length)&&decide (x.parts.length≤8)&&decide ((x.parts.map fun n=>sizes.getD n.toNat 0).sum≤32)) else (0,false))
 else if x.kind=5 then (if yG x&&yX k [x.elem]&&decide (1≤x.many)&&decide (x.many≤16) then (x.many * sizes.getD x.elem.toNat 0,decide (x.many * sizes.getD x.elem.toNat 0≤32)) else (0,false))
 else (1,false)
theorem zEY {T:List LType} {x:LType} {k:Nat} {s:List Int} (h:x.kind=3):y9 T x k s=(1,yG x&&decide (x.parts.length≤4)&&yX T.length (x.elem::x.parts)&&(x.elem::x.parts).all fun n=>ZV (T.getD n.toNat default)):=by
 unfold y9;rw[if_neg (by omega),if_neg (by omega),if_pos h]
theorem mayL4 {T:List LType} {x:LType} {k:Nat} {s:List Int} (h:x.kind=4):y9 T x k s=(if yG x&&yX k x.parts then ((x.parts.map fun n=>s.getD n.toNat 0).sum,decide (0<x.parts.length)&&decide (x.parts.length≤8)&&decide ((x.parts.map fun n=>s.getD n.toNat 0).sum≤32)) else (0,false)):=by
 unfold y9;rw[if_neg (by omega),if_neg (by omega),if_neg (by omega),if_pos h]
theorem mayL5 {T:List LType} {x:LType} {k:Nat} {s:List Int} (h:x.kind=5):y9 T x k s=(if yG x&&yX k [x.elem]&&decide (1≤x.many)&&decide (x.many≤16) then (x.many * s.getD x.elem.toNat 0,decide (x.many * s.getD x.elem.toNat 0≤32)) else (0,false)):=by
 unfold y9;rw[if_neg (by omega),if_neg (by omega),if_neg (by omega),if_neg (by omega),if_pos h]
def ZM (T:List LType):Nat→Option (List Int)
 |0=>some []
 |k+1=>match ZM T k with
  |none=>none
  |some s=>if (y9 T (T.getD k default) k s).2 then some (s++[(y9 T (T.getD k default) k s).1]) else none
def Zt (T:List LType):Int:=if 16<T.length then 4 else match ZM T T.length with
 |some _=>0
 |none=>30
end Go.Proofs.YtdcgdfbblnljjaaGreatDoor
namespace Go.Proofs.YtdcgdfbblnljjaaGreatDoor
open Go.Am
set_option linter.unusedVariables false
set_option linter.unusedSimpArgs false
set_option maxHeartbeats 4000000
noncomputable def tb:Tab:=⟨zDY Tryz.prog,fun _=>none⟩
theorem zG (f:Nat):tb.stub f=none:=rfl
end Go.Proofs.YtdcgdfbblnljjaaGreatDoor
namespace Go.Proofs.YtdcgdfbblnljjaaGreatDoor
open Go.Am
set_option linter.unusedVariables false
set_option linter.unusedSimpArgs false
set_option maxHeartbeats 4000000
theorem Zh {α:Type} {p:α→Bool} {l:List α} (h:∀ x∈l,p x=false):l.any p=false:=by
 rw[List.any_eq_false];intro x hx;rw[h x hx];exact Bool.noConfusion
theorem z0 {l:List Int} {i:Nat} (h:i<l.length):l.getD i 0∈l:=by
 simp[List.getD,List.getElem?_eq_getElem h]
theorem ZA {l:List Int} {x:Int} (h:x∈l):∃ i,i<l.length∧l.getD i 0=x:=by
 obtain⟨i,hi,e⟩:=List.getElem_of_mem h
 exact⟨i,hi,by simp[List.getD,List.getElem?_eq_getElem hi,e]⟩
noncomputable def body130:ACode:=(.seq (.region [⟨some 3,none,(.mov (.const (.bool false)))⟩]) (.seq (.region [⟨some 4,none,(.mov (.tmp 0))⟩,⟨some 5,none,(.bin .lss (.tmp 4) (.const (.int .i64 0)))⟩,⟨some 6,none,(.mov (.tmp 5))⟩,⟨some 7,some (6,false),(.mov (.tmp 0))⟩,⟨some 8,some (6,false),(.load false 1 (.tmp 1))⟩,⟨some 9,some (6,false),(.bin .geq (.tmp 7) (.tmp 8))⟩,⟨some 10,none,(.pick (.tmp 6) (.const (.bool true)) (.tmp 9))⟩,⟨some 3,none,(.mov (.tmp 10))⟩]) .ret))
set_option maxRecDepth 100000 in
theorem tab130:tb.code 130=some ⟨11,[(3,none)],body130⟩:=by kernel_rfl
theorem zHx (h:AHeap) (h0:AHeap) (p:Value) (n m:Int) (o:OwnC h0 h p [I m]):
  WC Tryz.prog tb 130 [I n,p] h fun r h'=>r= .bool (decide (n<0∨m≤n))∧Ext h h':=by
 refine WC.of (zG 130) tab130 ?_;simp only[zN,Nat.zero_add,Nat.reduceAdd]
 refine go ?_
 repeat' (first|(refine WX.br (fun hb=> ?_) (fun hb=> ?_)<;>(try simp only[DB]at hb)<;>refine go ?_)|(refine WO.sp (fun hb=> ?_) (fun hb=> ?_)<;>(try simp only[DB]at hb)<;>refine go ?_))
 all_goals (refine rt ?_;exact⟨by first|(simp[one];done)|(simp[one];omega),Ext.refl h⟩)
noncomputable def zHs:ACode:=(.seq (.region [⟨some 9,none,(.bin .lss (.tmp 8) (.tmp 7))⟩]) (.seq (.cond (.tmp 9) .skip (.exit 0)) (.seq (.block 1 (.seq (.region [⟨some 10,none,(.mov (.tmp 8))⟩,⟨some 5,none,(.mov (.tmp 10))⟩]) (.seq (.region [⟨some 11,none,(.mov (.tmp 1))⟩,⟨some 12,none,(.mov (.tmp 0))⟩,⟨some 13,none,(.mov (.tmp 5))⟩,⟨some 14,none,(.idx 1 (.tmp 12) (.tmp 13))⟩,⟨some 15,none,(.load false 1 (.tmp 14))⟩,⟨some 16,none,(.call (.tmp 11) [(.tmp 15)])⟩]) (.cond (.tmp 16) (.seq (.region [⟨some 17,none,(.mov (.tmp 5))⟩,⟨some 4,none,(.mov (.tmp 17))⟩]) .ret) .skip)))) (.region [⟨some 18,none,(.bin .add (.tmp 8) (.const (.int .i64 1)))⟩,⟨some 8,none,(.mov (.tmp 18))⟩]))))
noncomputable def body131:ACode:=(.seq (.region [⟨some 4,none,(.mov (.const (.int .i64 0)))⟩]) (.seq (.seq (.region [⟨some 6,none,(.mov (.tmp 0))⟩,⟨some 7,none,(.len (.tmp 6))⟩,⟨some 8,none,(.mov (.const (.int .i64 0)))⟩]) (.block 0 (.loop zHs))) (.seq (.region [⟨some 4,none,(.mov (.const (.int .i64 (-1))))⟩]) .ret)))
set_option maxRecDepth 100000 in
theorem tab131:tb.code 131=some ⟨19,[(4,none)],body131⟩:=by kernel_rfl
theorem idxf_int (h:AHeap) (v fv:Value) (l:List Int) (p:Int→Bool) (s:SlI h v l) (hl:(l.length:Int)≤9223372036854775807) (hf:∀ x∈l,∀ h1,Ext h h1→WV Tryz.prog tb fv [I x] h1 fun r h'=>r= .bool (p x)∧Ext h1 h'):
  WC Tryz.prog tb 131 [v,fv] h fun r h'=>(∃ n:Int,r=I n∧(decide (0≤n))=l.any p)∧Ext h h':=by
 refine WC.of (zG 131) tab131 ?_;simp only[zN,Nat.zero_add,Nat.reduceAdd]
 refine go ?_
 refine WX.loopA [9,10,5,11,12,13,14,15,16,17,4,18,8] (by kernel_rfl) (fun i=>l.length - i) (fun i t h1=>Ext h h1∧zB t 8=I i∧i≤l.length∧∀ j,j<i→p (l.getD j 0)=false) 0 ?_ ?_
 ·exact⟨Ext.refl h,sl_,Nat.zero_le _,fun j hj=>absurd hj (Nat.not_lt_zero _)⟩
 rintro i t h1 hsame ⟨e1,s8,hi,hm⟩
 have s1:=s.ext e1
 refine go ?_
 refine WX.br (fun hb=> ?_) (fun hb=> ?_)<;>simp only[DB]at hb
 ·have hi':i<l.length:=by omega
  refine go ?_
  refine WO.conV (hf _ (z0 hi') h1 e1) ?_
  rintro _ h2 ⟨rfl,e2⟩
  refine go ?_
  refine WX.br (fun hb=> ?_) (fun hb=> ?_)
  ·refine go ?_
   refine rt ?_
   refine⟨⟨i,rfl,?_⟩,e1.trans e2⟩
   rw[List.any_eq_true.2 ⟨_,z0 hi',hb⟩];simp
  ·refine go ?_
   refine zA (i+1) (by omega) ⟨e1.trans e2,sln,by omega,fun j hj=> ?_⟩
   by_cases e:j=i
   ·subst e;exact hb
   ·exact hm j (by omega)
 ·refine go ?_
  refine rt ?_
  refine⟨⟨-1,rfl,?_⟩,e1⟩
  rw[Zh fun x hx=>by obtain⟨j,hj,rfl⟩:=ZA hx;exact hm j (by omega)];rfl
noncomputable def body106:ACode:=(.seq (.region [⟨some 4,none,(.mov (.const (.bool false)))⟩]) (.seq (.region [⟨some 5,none,(.mov (.tmp 0))⟩,⟨some 6,none,(.mov (.tmp 1))⟩,⟨some 7,none,(.call (.func 131) [(.tmp 5),(.tmp 6)])⟩,⟨some 8,none,(.bin .geq (.tmp 7) (.const (.int .i64 0)))⟩,⟨some 4,none,(.mov (.tmp 8))⟩]) .ret))
set_option maxRecDepth 100000 in
theorem tab106:tb.code 106=some ⟨9,[(4,none)],body106⟩:=by kernel_rfl
theorem zC5 (h:AHeap) (v fv:Value) (l:List Int) (p:Int→Bool) (s:SlI h v l) (hl:(l.length:Int)≤9223372036854775807) (hf:∀ x∈l,∀ h1,Ext h h1→WV Tryz.prog tb fv [I x] h1 fun r h'=>r= .bool (p x)∧Ext h1 h'):
  WC Tryz.prog tb 106 [v,fv] h fun r h'=>r= .bool (l.any p)∧Ext h h':=by
 refine WC.of (zG 106) tab106 ?_;simp only[zN,Nat.zero_add,Nat.reduceAdd]
 refine go ?_
 refine WO.con (idxf_int h v fv l p s hl hf) ?_
 rintro _ h1 ⟨⟨n,rfl,e⟩,e1⟩
 refine go ?_
 refine rt ?_
 exact⟨by rw[←e];rfl,e1⟩
noncomputable def body105:ACode:=(.seq (.region [⟨some 2,none,(.box (.tmp 0))⟩,⟨some 4,none,(.mov (.const (.bool false)))⟩]) (.seq (.region [⟨some 5,none,(.mov (.tmp 1))⟩,⟨some 6,none,(.mkFunc (.func 130) [] [(.tmp 2)])⟩,⟨some 7,none,(.call (.func 106) [(.tmp 5),(.tmp 6)])⟩,⟨some 8,none,(.un .not (.tmp 7))⟩,⟨some 4,none,(.mov (.tmp 8))⟩]) .ret))
set_option maxRecDepth 100000 in
theorem tab105:tb.code 105=some ⟨9,[(4,none)],body105⟩:=by kernel_rfl
theorem zAw (h:AHeap) (v:Value) (m:Int) (l:List Int) (s:SlI h v l) (hl:(l.length:Int)≤9223372036854775807):
  WC Tryz.prog tb 105 [I m,v] h fun r h'=>r= .bool (yX m l)∧Ext h h':=by
 refine WC.of (zG 105) tab105 ?_;simp only[zN,Nat.zero_add,Nat.reduceAdd]
 refine go ?_
 refine WO.bx ?_
 intro p h1 e1 o1
 refine go ?_
 refine WO.con (zC5 h1 v _ l (fun n=>decide (n<0∨m≤n)) (s.ext e1) hl ?_) ?_
 ·intro x hx h2 e2
  exact WV.func (zHx h2 h p x m (o1.ext e2))
 rintro _ h2 ⟨rfl,e2⟩
 refine go ?_
 refine rt ?_
 refine⟨?_,e1.trans e2⟩
 show Value.bool _=_
 congr 1
 rw[Bool.eq_iff_iff]
 simp only[yX,Bool.not_eq_true',List.any_eq_false,List.all_eq_true,Bool.and_eq_true,decide_eq_true_eq]
 exact⟨fun h x hx=>by have:=h x hx;omega,fun h x hx=>by have:=h x hx;omega⟩
noncomputable def zIA:ACode:=(.seq (.region [⟨some 8,none,(.bin .lss (.tmp 7) (.tmp 6))⟩]) (.seq (.cond (.tmp 8) .skip (.exit 0)) (.seq (.block 1 (.seq (.region [⟨some 9,none,(.idx 1 (.tmp 5) (.tmp 7))⟩,⟨some 10,none,(.load false 1 (.tmp 9))⟩,⟨some 4,none,(.mov (.tmp 10))⟩]) (.region [⟨some 11,none,(.mov (.tmp 2))⟩,⟨some 12,none,(.mov (.tmp 4))⟩,⟨some 13,none,(.bin .add (.tmp 11) (.tmp 12))⟩,⟨some 2,none,(.mov (.tmp 13))⟩]))) (.region [⟨some 14,none,(.bin .add (.tmp 7) (.const (.int .i64 1)))⟩,⟨some 7,none,(.mov (.tmp 14))⟩]))))
noncomputable def body109:ACode:=(.seq (.region [⟨some 2,none,(.mov (.const (.int .i64 0)))⟩]) (.seq (.seq (.region [⟨some 5,none,(.mov (.tmp 0))⟩,⟨some 6,none,(.len (.tmp 5))⟩,⟨some 7,none,(.mov (.const (.int .i64 0)))⟩]) (.block 0 (.loop zIA))) (.seq (.region [⟨some 15,none,(.mov (.tmp 2))⟩,⟨some 2,none,(.mov (.tmp 15))⟩]) .ret)))
set_option maxRecDepth 100000 in
theorem tab109:tb.code 109=some ⟨16,[(2,none)],body109⟩:=by kernel_rfl
theorem sum_ok (h:AHeap) (v:Value) (l:List Int) (s:SlI h v l) (hl:l.length≤1000) (hb:∀ x∈l,0≤x∧x≤1000):
  WC Tryz.prog tb 109 [v] h fun r h'=>r=I l.sum∧h=h':=by
 refine WC.of (zG 109) tab109 ?_;simp only[zN,Nat.zero_add,Nat.reduceAdd]
 refine go ?_
 refine WX.loopA [8,9,10,4,11,12,13,2,14,7] (by kernel_rfl) (fun i=>l.length - i) (fun i t h1=>h=h1∧zB t 7=I i∧zB t 2=I (l.take i).sum∧i≤l.length∧0≤(l.take i).sum∧(l.take i).sum≤1000 * i) 0 ?_ ?_
 ·exact⟨rfl,sl_,sl_,Nat.zero_le _,by simp,by simp⟩
 rintro i t _ hsame ⟨rfl,s7,s2,hi,hm,hn⟩
 refine go ?_
 refine WX.br (fun hc=> ?_) (fun hc=> ?_)<;>simp only[DB]at hc
 ·have hi':i<l.length:=by omega
  have hx:=hb _ (z0 hi')
  refine go ?_
  have e:(l.take (i+1)).sum=(l.take i).sum+l.getD i 0:=by
   rw[List.take_add_one,List.sum_append];simp[List.getD,List.getElem?_eq_getElem hi']
  refine zA (i+1) (by omega) ⟨rfl,sln,by rw[e];exact sl_,by omega,by omega,by omega⟩
 ·refine go ?_
  refine rt ?_
  have:i=l.length:=by omega
  subst this
  exact⟨by simp[one],rfl⟩
noncomputable def body108:ACode:=(.seq (.region [⟨some 1,none,(.box (.tmp 0))⟩,⟨some 2,none,(.mov (.const (.bool false)))⟩]) (.seq (.region [⟨some 3,none,(.fld 0 (.tmp 1))⟩,⟨some 4,none,(.load false 1 (.tmp 3))⟩,⟨some 5,none,(.bin .geq (.tmp 4) (.const (.int .u8 1)))⟩,⟨some 6,none,(.mov (.tmp 5))⟩,⟨some 7,some (6,true),(.fld 0 (.tmp 1))⟩,⟨some 8,some (6,true),(.load false 1 (.tmp 7))⟩,⟨some 9,some (6,true),(.bin .leq (.tmp 8) (.const (.int .u8 3)))⟩,⟨some 10,none,(.pick (.tmp 6) (.tmp 9) (.const (.bool false)))⟩,⟨some 2,none,(.mov (.tmp 10))⟩]) .ret))
set_option maxRecDepth 100000 in
theorem tab108:tb.code 108=some ⟨11,[(2,none)],body108⟩:=by kernel_rfl
theorem zH1 (h:AHeap) (x:LType) (va:Value):
  WC Tryz.prog tb 108 [.agg #[.int .u8 x.kind,I x.elem,I x.many,va]] h fun r h'=>r= .bool (ZV x)∧Ext h h':=by
 refine WC.of (zG 108) tab108 ?_;simp only[zN,Nat.zero_add,Nat.reduceAdd]
 refine go ?_
 refine WO.bx ?_
 intro p h1 e1 o1
 refine go ?_
 repeat' (first|(refine WX.br (fun hb=> ?_) (fun hb=> ?_)<;>(try simp only[DB]at hb)<;>refine go ?_)|(refine WO.sp (fun hb=> ?_) (fun hb=> ?_)<;>(try simp only[DB]at hb)<;>refine go ?_))
 all_goals (refine rt ?_;exact⟨by simp[one,ZV, *]<;>omega,e1⟩)
noncomputable def body104:ACode:=(.seq (.region [⟨some 1,none,(.box (.tmp 0))⟩,⟨some 2,none,(.mov (.const (.bool false)))⟩]) (.seq (.region [⟨some 3,none,(.mov (.const (.bool true)))⟩,⟨some 4,none,(.mov (.const (.bool true)))⟩,⟨some 5,none,(.mov (.const (.bool true)))⟩]) (.seq (.seq (.region [⟨some 6,none,(.fld 0 (.tmp 1))⟩,⟨some 7,none,(.load false 1 (.tmp 6))⟩]) (.block 0 (.seq (.block 5 (.seq (.block 4 (.seq (.block 3 (.seq (.block 2 (.seq (.block 1 (.seq (.seq (.seq (.region [⟨some 9,none,(.bin .eql (.tmp 7) (.const (.int .u8 1)))⟩,⟨some 8,none,(.mov (.tmp 9))⟩]) (.cond (.tmp 8) (.exit 1) .skip)) (.seq (.seq (.region [⟨some 11,none,(.bin .eql (.tmp 7) (.const (.int .u8 2)))⟩,⟨some 10,none,(.mov (.tmp 11))⟩]) (.cond (.tmp 10) (.exit 2) .skip)) (.seq (.seq (.region [⟨some 13,none,(.bin .eql (.tmp 7) (.const (.int .u8 4)))⟩,⟨some 12,none,(.mov (.tmp 13))⟩]) (.cond (.tmp 12) (.exit 3) .skip)) (.seq (.seq (.region [⟨some 15,none,(.bin .eql (.tmp 7) (.const (.int .u8 3)))⟩,⟨some 14,none,(.mov (.tmp 15))⟩]) (.cond (.tmp 14) (.exit 4) .skip)) (.seq (.region [⟨some 17,none,(.bin .eql (.tmp 7) (.const (.int .u8 5)))⟩,⟨some 16,none,(.mov (.tmp 17))⟩]) (.cond (.tmp 16) (.exit 5) .skip)))))) (.exit 0))) (.region [⟨some 18,none,(.fld 1 (.tmp 1))⟩,⟨some 19,none,(.load false 1 (.tmp 18))⟩,⟨some 20,none,(.bin .eql (.tmp 19) (.const (.int .i64 0)))⟩,⟨some 3,none,(.mov (.tmp 20))⟩]))) (.seq (.regionC [(⟨some 21,none,(.fld 2 (.tmp 1))⟩,[]),(⟨some 22,none,(.load false 1 (.tmp 21))⟩,[]),(⟨some 23,none,(.bin .eql (.tmp 22) (.const (.int .i64 0)))⟩,[]),(⟨some 24,none,(.fld 3 (.tmp 1))⟩,[]),(⟨some 25,none,(.load false 1 (.tmp 24))⟩,[]),(⟨some 26,none,(.len (.tmp 25))⟩,[]),(⟨some 27,none,(.bin .eql (.tmp 26) (.const (.int .i64 0)))⟩,[]),(⟨some 4,none,(.mov (.tmp 23))⟩,[]),(⟨some 5,none,(.mov (.tmp 27))⟩,[])]) (.exit 0)))) (.region [⟨some 28,none,(.fld 1 (.tmp 1))⟩,⟨some 29,none,(.load false 1 (.tmp 28))⟩,⟨some 30,none,(.bin .eql (.tmp 29) (.const (.int .i64 0)))⟩,⟨some 3,none,(.mov (.tmp 30))⟩]))) (.seq (.region [⟨some 31,none,(.fld 2 (.tmp 1))⟩,⟨some 32,none,(.load false 1 (.tmp 31))⟩,⟨some 33,none,(.bin .eql (.tmp 32) (.const (.int .i64 0)))⟩,⟨some 4,none,(.mov (.tmp 33))⟩]) (.exit 0)))) (.seq (.region [⟨some 34,none,(.fld 3 (.tmp 1))⟩,⟨some 35,none,(.load false 1 (.tmp 34))⟩,⟨some 36,none,(.len (.tmp 35))⟩,⟨some 37,none,(.bin .eql (.tmp 36) (.const (.int .i64 0)))⟩,⟨some 5,none,(.mov (.tmp 37))⟩]) (.exit 0))))) (.seq (.region [⟨some 38,none,(.mov (.tmp 3))⟩,⟨some 39,none,(.mov (.tmp 38))⟩,⟨some 40,some (39,true),(.mov (.tmp 4))⟩,⟨some 41,none,(.pick (.tmp 39) (.tmp 40) (.const (.bool false)))⟩,⟨some 42,none,(.mov (.tmp 41))⟩,⟨some 43,some (42,true),(.mov (.tmp 5))⟩,⟨some 44,none,(.pick (.tmp 42) (.tmp 43) (.const (.bool false)))⟩,⟨some 2,none,(.mov (.tmp 44))⟩]) .ret))))
set_option maxRecDepth 100000 in
theorem tab104:tb.code 104=some ⟨45,[(2,none)],body104⟩:=by kernel_rfl
theorem plain_ok (h:AHeap) (x:LType) (va:Value) (s:SlI h va x.parts):
  WC Tryz.prog tb 104 [.agg #[.int .u8 x.kind,I x.elem,I x.many,va]] h fun r h'=>r= .bool (yG x)∧Ext h h':=by
 refine WC.of (zG 104) tab104 ?_;simp only[zN,Nat.zero_add,Nat.reduceAdd]
 refine go ?_
 refine WO.bx ?_
 intro p h1 e1 o1
 have s1:=s.ext e1
 refine go ?_
 repeat' (first|(refine WX.br (fun hb=> ?_) (fun hb=> ?_)<;>(try simp only[DB]at hb)<;>refine go ?_)|(refine WO.sp (fun hb=> ?_) (fun hb=> ?_)<;>(try simp only[DB]at hb)<;>refine go ?_))
 all_goals (refine rt ?_;refine⟨?_,e1⟩;simp[one,yG, *])
theorem zE {α:Type} {c:Nat} {R:AHeap→List Value→α→Prop} {h:AHeap} {v:Value} {T:List α} (s:SlR c R h v T):∃ a n k,v= .slice a n k:=let ⟨_,a,_⟩:=s;a.shape
theorem ZR {h:AHeap} {v:Value} {T:List LType} {i:Nat} (s:SlT h v T) (hi:i<T.length):∃ cs,RTy h cs (T.getD i default)∧Piece h v (i * 4) cs∧IsSl v:=by
 obtain⟨cs,a,_,c⟩:=s.at hi
 exact⟨cs,by simpa [List.getD,List.getElem?_eq_getElem hi]using a,c,s.some hi⟩
noncomputable def body107:ACode:=(.seq (.region [⟨some 3,none,(.mov (.const (.bool false)))⟩]) (.seq (.region [⟨some 4,none,(.load false 1 (.tmp 1))⟩,⟨some 5,none,(.mov (.tmp 0))⟩,⟨some 6,none,(.idx 4 (.tmp 4) (.tmp 5))⟩,⟨some 7,none,(.load true 4 (.tmp 6))⟩,⟨some 8,none,(.call (.func 108) [(.tmp 7)])⟩,⟨some 9,none,(.un .not (.tmp 8))⟩,⟨some 3,none,(.mov (.tmp 9))⟩]) .ret))
set_option maxRecDepth 100000 in
theorem tab107:tb.code 107=some ⟨10,[(3,none)],body107⟩:=by kernel_rfl
theorem may1_ok (h h0:AHeap) (p tv:Value) (T:List LType) (n:Int) (o:OwnC h0 h p [tv]) (s:SlT h tv T) (hn:0≤n∧n<T.length):
  WC Tryz.prog tb 107 [I n,p] h fun r h'=>r= .bool (!ZV (T.getD n.toNat default))∧Ext h h':=by
 obtain⟨i,rfl⟩:∃ i:Nat,n=i:=⟨n.toNat,by omega⟩
 obtain⟨cs,⟨va,rfl,sv,hv⟩,pc,hs⟩:=ZR (i:=i) s (by omega)
 refine WC.of (zG 107) tab107 ?_;simp only[zN,Nat.zero_add,Nat.reduceAdd]
 refine go ?_
 refine WO.con (zH1 h _ va) ?_
 rintro _ h1 ⟨rfl,e1⟩
 refine go ?_
 refine rt ?_
 exact⟨rfl,e1⟩
noncomputable def body81_0:ACode:=(.seq (.region [⟨some 78,none,(.bin .lss (.tmp 77) (.tmp 76))⟩]) (.seq (.cond (.tmp 78) .skip (.exit 1)) (.seq (.block 2 (.seq (.region [⟨some 79,none,(.idx 1 (.tmp 75) (.tmp 77))⟩,⟨some 80,none,(.load false 1 (.tmp 79))⟩,⟨some 14,none,(.mov (.tmp 80))⟩]) (.region [⟨some 81,none,(.mov (.tmp 12))⟩,⟨some 82,none,(.mov (.tmp 2))⟩,⟨some 83,none,(.mov (.tmp 14))⟩,⟨some 84,none,(.idx 1 (.tmp 82) (.tmp 83))⟩,⟨some 85,none,(.load false 1 (.tmp 84))⟩,⟨some 86,none,(.buildSlice 1 1 [(.int .i64 0)] [(0,1,(.tmp 85))])⟩,⟨some 87,none,(.append 1 (.tmp 81) (.tmp 86))⟩,⟨some 12,none,(.mov (.tmp 87))⟩]))) (.region [⟨some 88,none,(.bin .add (.tmp 77) (.const (.int .i64 1)))⟩,⟨some 77,none,(.mov (.tmp 88))⟩]))))
noncomputable def body81:ACode:=(.seq (.region [⟨some 3,none,(.box (.tmp 0))⟩,⟨some 6,none,(.mov (.const (.int .i64 0)))⟩,⟨some 7,none,(.mov (.const (.bool false)))⟩]) (.seq (.region [⟨some 15,none,(.load false 1 (.tmp 3))⟩,⟨some 16,none,(.mov (.tmp 1))⟩,⟨some 17,none,(.idx 4 (.tmp 15) (.tmp 16))⟩,⟨some 18,none,(.load true 4 (.tmp 17))⟩,⟨some 8,none,(.alloc [(.int .u8 0),(.int .i64 0),(.int .i64 0),(.slice none 0 0)])⟩,⟨none,none,(.store 4 (.tmp 8) (.tmp 18))⟩]) (.seq (.region [⟨some 19,none,(.load true 4 (.tmp 8))⟩,⟨some 20,none,(.call (.func 104) [(.tmp 19)])⟩,⟨some 9,none,(.mov (.tmp 20))⟩,⟨some 10,none,(.mov (.const (.int .i64 1)))⟩]) (.seq (.seq (.region [⟨some 21,none,(.fld 0 (.tmp 8))⟩,⟨some 22,none,(.load false 1 (.tmp 21))⟩]) (.block 0 (.seq (.region [⟨some 24,none,(.bin .eql (.tmp 22) (.const (.int .u8 1)))⟩,⟨some 23,none,(.mov (.tmp 24))⟩]) (.cond (.tmp 23) .skip (.seq (.region [⟨some 26,none,(.bin .eql (.tmp 22) (.const (.int .u8 2)))⟩,⟨some 25,none,(.mov (.tmp 26))⟩]) (.cond (.tmp 25) (.region [⟨some 27,none,(.mov (.tmp 9))⟩,⟨some 28,none,(.mov (.tmp 27))⟩,⟨some 29,some (28,true),(.load false 1 (.tmp 3))⟩,⟨some 30,some (28,true),(.len (.tmp 29))⟩,⟨some 31,some (28,true),(.fld 1 (.tmp 8))⟩,⟨some 32,some (28,true),(.load false 1 (.tmp 31))⟩,⟨some 33,some (28,true),(.buildSlice 1 1 [(.int .i64 0)] [(0,1,(.tmp 32))])⟩,⟨some 34,some (28,true),(.call (.func 105) [(.tmp 30),(.tmp 33)])⟩,⟨some 35,none,(.pick (.tmp 28) (.tmp 34) (.const (.bool false)))⟩,⟨some 9,none,(.mov (.tmp 35))⟩]) (.seq (.region [⟨some 37,none,(.bin .eql (.tmp 22) (.const (.int .u8 3)))⟩,⟨some 36,none,(.mov (.tmp 37))⟩]) (.cond (.tmp 36) (.seq (.region [⟨some 38,none,(.fld 1 (.tmp 8))⟩,⟨some 39,none,(.load false 1 (.tmp 38))⟩,⟨some 40,none,(.buildSlice 1 1 [(.int .i64 0)] [(0,1,(.tmp 39))])⟩,⟨some 41,none,(.fld 3 (.tmp 8))⟩,⟨some 42,none,(.load false 1 (.tmp 41))⟩,⟨some 43,none,(.append 1 (.tmp 40) (.tmp 42))⟩,⟨some 11,none,(.mov (.tmp 43))⟩]) (.region [⟨some 44,none,(.mov (.tmp 9))⟩,⟨some 45,none,(.mov (.tmp 44))⟩,⟨some 46,some (45,true),(.fld 3 (.tmp 8))⟩,⟨some 47,some (45,true),(.load false 1 (.tmp 46))⟩,⟨some 48,some (45,true),(.len (.tmp 47))⟩,⟨some 49,some (45,true),(.bin .leq (.tmp 48) (.const (.int .i64 4)))⟩,⟨some 50,none,(.pick (.tmp 45) (.tmp 49) (.const (.bool false)))⟩,⟨some 51,none,(.mov (.tmp 50))⟩,⟨some 52,some (51,true),(.load false 1 (.tmp 3))⟩,⟨some 53,some (51,true),(.len (.tmp 52))⟩,⟨some 54,some (51,true),(.mov (.tmp 11))⟩,⟨some 55,some (51,true),(.call (.func 105) [(.tmp 53),(.tmp 54)])⟩,⟨some 56,none,(.pick (.tmp 51) (.tmp 55) (.const (.bool false)))⟩,⟨some 57,none,(.mov (.tmp 56))⟩,⟨some 58,some (57,true),(.mov (.tmp 11))⟩,⟨some 59,some (57,true),(.mkFunc (.func 107) [] [(.tmp 3)])⟩,⟨some 60,some (57,true),(.call (.func 106) [(.tmp 58),(.tmp 59)])⟩,⟨some 61,some (57,true),(.un .not (.tmp 60))⟩,⟨some 62,none,(.pick (.tmp 57) (.tmp 61) (.const (.bool false)))⟩,⟨some 9,none,(.mov (.tmp 62))⟩])) (.seq (.region [⟨some 64,none,(.bin .eql (.tmp 22) (.const (.int .u8 4)))⟩,⟨some 63,none,(.mov (.tmp 64))⟩]) (.cond (.tmp 63) (.seq (.seq (.region [⟨some 65,none,(.mov (.tmp 9))⟩,⟨some 66,none,(.mov (.tmp 65))⟩,⟨some 67,some (66,true),(.mov (.tmp 1))⟩,⟨some 68,some (66,true),(.fld 3 (.tmp 8))⟩,⟨some 69,some (66,true),(.load false 1 (.tmp 68))⟩,⟨some 70,some (66,true),(.call (.func 105) [(.tmp 67),(.tmp 69)])⟩,⟨some 71,none,(.pick (.tmp 66) (.tmp 70) (.const (.bool false)))⟩,⟨some 9,none,(.mov (.tmp 71))⟩]) (.seq (.region [⟨some 72,none,(.mov (.tmp 9))⟩,⟨some 73,none,(.un .not (.tmp 72))⟩]) (.cond (.tmp 73) (.seq (.region [⟨some 6,none,(.mov (.const (.int .i64 0)))⟩,⟨some 7,none,(.mov (.const (.bool false)))⟩]) .ret) .skip))) (.seq (.region [⟨some 12,none,(.mov (.const (.slice none 0 0)))⟩]) (.seq (.seq (.region [⟨some 74,none,(.fld 3 (.tmp 8))⟩,⟨some 75,none,(.load false 1 (.tmp 74))⟩,⟨some 76,none,(.len (.tmp 75))⟩,⟨some 77,none,(.mov (.const (.int .i64 0)))⟩]) (.block 1 (.loop body81_0))) (.region [⟨some 89,none,(.mov (.tmp 12))⟩,⟨some 90,none,(.len (.tmp 89))⟩,⟨some 91,none,(.bin .gtr (.tmp 90) (.const (.int .i64 0)))⟩,⟨some 92,none,(.mov (.tmp 91))⟩,⟨some 93,some (92,true),(.mov (.tmp 12))⟩,⟨some 94,some (92,true),(.len (.tmp 93))⟩,⟨some 95,some (92,true),(.bin .leq (.tmp 94) (.const (.int .i64 8)))⟩,⟨some 96,none,(.pick (.tmp 92) (.tmp 95) (.const (.bool false)))⟩,⟨some 97,none,(.mov (.tmp 12))⟩,⟨some 98,none,(.call (.func 109) [(.tmp 97)])⟩,⟨some 9,none,(.mov (.tmp 96))⟩,⟨some 10,none,(.mov (.tmp 98))⟩])))) (.seq (.region [⟨some 100,none,(.bin .eql (.tmp 22) (.const (.int .u8 5)))⟩,⟨some 99,none,(.mov (.tmp 100))⟩]) (.cond (.tmp 99) (.seq (.seq (.region [⟨some 101,none,(.mov (.tmp 9))⟩,⟨some 102,none,(.mov (.tmp 101))⟩,⟨some 103,some (102,true),(.mov (.tmp 1))⟩,⟨some 104,some (102,true),(.fld 1 (.tmp 8))⟩,⟨some 105,some (102,true),(.load false 1 (.tmp 104))⟩,⟨some 106,some (102,true),(.buildSlice 1 1 [(.int .i64 0)] [(0,1,(.tmp 105))])⟩,⟨some 107,some (102,true),(.call (.func 105) [(.tmp 103),(.tmp 106)])⟩,⟨some 108,none,(.pick (.tmp 102) (.tmp 107) (.const (.bool false)))⟩,⟨some 109,none,(.mov (.tmp 108))⟩,⟨some 110,some (109,true),(.fld 2 (.tmp 8))⟩,⟨some 111,some (109,true),(.load false 1 (.tmp 110))⟩,⟨some 112,some (109,true),(.bin .geq (.tmp 111) (.const (.int .i64 1)))⟩,⟨some 113,none,(.pick (.tmp 109) (.tmp 112) (.const (.bool false)))⟩,⟨some 114,none,(.mov (.tmp 113))⟩,⟨some 115,some (114,true),(.fld 2 (.tmp 8))⟩,⟨some 116,some (114,true),(.load false 1 (.tmp 115))⟩,⟨some 117,some (114,true),(.bin .leq (.tmp 116) (.const (.int .i64 16)))⟩,⟨some 118,none,(.pick (.tmp 114) (.tmp 117) (.const (.bool false)))⟩,⟨some 9,none,(.mov (.tmp 118))⟩]) (.seq (.region [⟨some 119,none,(.mov (.tmp 9))⟩,⟨some 120,none,(.un .not (.tmp 119))⟩]) (.cond (.tmp 120) (.seq (.region [⟨some 6,none,(.mov (.const (.int .i64 0)))⟩,⟨some 7,none,(.mov (.const (.bool false)))⟩]) .ret) .skip))) (.regionC [(⟨some 121,none,(.fld 2 (.tmp 8))⟩,[]),(⟨some 122,none,(.load false 1 (.tmp 121))⟩,[]),(⟨some 123,none,(.mov (.tmp 2))⟩,[]),(⟨some 124,none,(.fld 1 (.tmp 8))⟩,[]),(⟨some 125,none,(.load false 1 (.tmp 124))⟩,[]),(⟨some 126,none,(.idx 1 (.tmp 123) (.tmp 125))⟩,[]),(⟨some 127,none,(.load false 1 (.tmp 126))⟩,[]),(⟨some 128,none,(.bin .mul (.tmp 122) (.tmp 127))⟩,[]),(⟨some 10,none,(.mov (.tmp 128))⟩,[])])) (.region [⟨some 9,none,(.mov (.const (.bool false)))⟩]))))))))))))) (.seq (.region [⟨some 129,none,(.mov (.tmp 10))⟩,⟨some 130,none,(.mov (.tmp 9))⟩,⟨some 131,none,(.mov (.tmp 130))⟩,⟨some 132,some (131,true),(.mov (.tmp 10))⟩,⟨some 133,some (131,true),(.bin .leq (.tmp 132) (.const (.int .i64 32)))⟩,⟨some 134,none,(.pick (.tmp 131) (.tmp 133) (.const (.bool false)))⟩,⟨some 6,none,(.mov (.tmp 129))⟩,⟨some 7,none,(.mov (.tmp 134))⟩]) .ret)))))
set_option maxRecDepth 100000 in
theorem tab81:tb.code 81=some ⟨135,[(6,none),(7,none)],body81⟩:=by kernel_rfl
theorem may_ok (h:AHeap) (tv sv:Value) (T:List LType) (k:Nat) (sizes:List Int) (st:SlT h tv T) (ss:SlI h sv sizes) (hk:k<T.length) (hT:T.length≤100) (hp:∀ x∈T,x.parts.length≤100) (hsz:sizes.length=k)
  (hb0:∀ x∈sizes,0≤x∧x≤1000):
  WC Tryz.prog tb 81 [tv,I k,sv] h fun r h'=>r= .tuple #[I (y9 T (T.getD k default) k sizes).1,.bool (y9 T (T.getD k default) k sizes).2]∧Ext h h':=by
 have hxT:T.getD k default∈T:=by simp[List.getD,List.getElem?_eq_getElem hk]
 have hpx:=hp _ hxT
 generalize hx:T.getD k default=x at *
 have hpx:x.parts.length≤100:=hpx
 obtain⟨_,_,_,rfl⟩:=zE st
 refine WC.of (zG 81) tab81 ?_;simp only[zN,Nat.zero_add,Nat.reduceAdd]
 refine go ?_
 refine WO.bx ?_
 intro p3 h1 e1 o3
 have st1:=st.ext e1
 obtain⟨cs,hR,pc,hs⟩:=ZR (i:=k) st1 hk
 rw[hx]at hR
 obtain⟨va,rfl,sv0,hv⟩:=hR
 refine go ?_
 refine WO.al ?_
 intro p8 h2 e2 o8
 refine go ?_
 refine WO.stC0 o8 e2 ?_ (h1:=ty_one (sv0.ext e2) _ _ _ _)
 intro h3 e3 o8 _
 have o3:=o3.ext e3
 have st3:=st1.ext e3
 have ss3:=(ss.ext e1).ext e3
 have sv3:=sv0.ext e3
 refine go ?_
 refine WO.con (plain_ok h3 x va sv3) ?_
 rintro _ h4 ⟨rfl,e4⟩
 have o3:=o3.ext e4
 have o84:=o8.ext e4
 have o8:=o84
 have st4:=st3.ext e4
 have ss4:=ss3.ext e4
 have sv4:=sv3.ext e4
 have e14:=(e1.trans e3).trans e4
 clear st st1 st3 ss ss3 sv0 sv3 e1 e2 e3 e4 pc hs
 refine go ?_
 refine WX.br (fun hb=> ?_) (fun hb=> ?_)<;>simp only[DB]at hb<;>refine go ?_
 ·refine WO.sp (fun hc=> ?_) (fun hc=> ?_)<;>refine go ?_<;>refine rt ?_<;>exact⟨by simp[one,y9,hb,hc],e14⟩
 refine WX.br (fun hb2=> ?_) (fun hb2=> ?_)<;>simp only[DB]at hb2<;>refine go ?_
 ·refine WO.sp (fun hc=> ?_) (fun hc=> ?_)<;>refine go ?_
  ·refine WO.bl [x.elem] ?_
   intro v5 h5 e5 o5
   have st5:=st4.ext e5
   have o3:=o3.ext e5
   refine go ?_
   refine WO.con (zAw h5 v5 _ [x.elem] o5.sl (by simp)) ?_
   rintro _ h6 ⟨rfl,e6⟩
   refine go ?_
   refine WO.sp (fun hd=> ?_) (fun hd=> ?_)<;>refine go ?_<;>refine rt ?_<;>exact⟨by simp[one,y9,hb2,hc,hd],(e14.trans e5).trans e6⟩
  ·refine rt ?_
   exact⟨by simp[one,y9,hb2,hc],e14⟩
 refine WX.br (fun hb3=> ?_) (fun hb3=> ?_)<;>simp only[DB]at hb3<;>refine go ?_
 ·refine WO.bl [x.elem] ?_
  intro v5 h5 e5 o5
  have sv5:=sv4.ext e5
  have o8:=o8.ext e5
  refine go ?_
  refine WO.apN (.inr o5) sv5 e5 (by simp;omega) ?_
  intro v6 h6 e6 o6
  have st6:=st4.ext e6
  have o3:=o3.ext e6
  have sv6:=sv4.ext e6
  have o8:=OwnC.ext o84 e6
  have e16:=e14.trans e6
  refine go ?_
  refine WO.sp (fun hc=> ?_) (fun hc=> ?_)<;>refine go ?_
  ·refine WO.sp (fun hd=> ?_) (fun hd=> ?_)<;>simp only[DB]at hd<;>refine go ?_
   ·have hd':x.parts.length≤4:=by omega
    refine WO.con (zAw h6 v6 _ _ o6.sl (by simp;omega)) ?_
    rintro _ h7 ⟨rfl,e7⟩
    have o3:=o3.ext e7
    have st7:=st6.ext e7
    refine go ?_
    refine WO.sp (fun he=> ?_) (fun he=> ?_)<;>refine go ?_
    ·have hin:∀ n∈[x.elem]++x.parts,0≤n∧n<(T.length:Int):=by
      intro n hn
      have:=List.all_eq_true.1 he n hn
      simpa using this
     refine WO.con (zC5 h7 v6 _ _ (fun n=> !ZV (T.getD n.toNat default)) (o6.sl.ext e7) (by simp;omega) ?_) ?_
     ·intro n hn h8 e8
      exact WV.func (may1_ok h8 h p3 _ T n (o3.ext e8) (st7.ext e8) (hin n hn))
     rintro _ h8 ⟨rfl,e8⟩
     refine go ?_
     have hnot:(!([x.elem]++x.parts).any fun n=> !ZV (T.getD n.toNat default))=([x.elem]++x.parts).all fun n=>ZV (T.getD n.toNat default):=by
      rw[List.not_any_eq_all_not];simp
     refine WO.sp (fun hf=> ?_) (fun hf=> ?_)<;>refine go ?_<;>refine rt ?_<;>refine⟨?_,(e16.trans e7).trans e8⟩<;>rw[hnot]at hf<;>rw[List.singleton_append]at hf he<;>rw[zEY hb3,hc,he,hf,decide_eq_true hd']<;>rfl
    ·refine rt ?_
     refine⟨?_,e16.trans e7⟩
     rw[List.singleton_append]at he
     rw[zEY hb3,hc,he,decide_eq_true hd'];rfl
   ·refine rt ?_
    refine⟨?_,e16⟩
    rw[zEY hb3,hc,decide_eq_false (show ¬x.parts.length≤4 by omega)];rfl
  ·refine rt ?_
   refine⟨?_,e16⟩
   rw[zEY hb3,hc];rfl
 refine WX.br (fun hb4=> ?_) (fun hb4=> ?_)<;>simp only[DB]at hb4<;>refine go ?_
 ·refine WO.sp (fun hc=> ?_) (fun hc=> ?_)<;>refine go ?_
  ·refine WO.con (zAw h4 va _ _ sv4 hv) ?_
   rintro _ h5 ⟨rfl,e5⟩
   have sv5:=sv4.ext e5
   have ss5:=ss4.ext e5
   have o8:=o8.ext e5
   refine go ?_
   refine WX.br (fun hd=> ?_) (fun hd=> ?_)<;>simp only[DB]at hd<;>refine go ?_
   ·refine rt ?_
    exact⟨by simp[one,y9,hb4,hc,hd],e14.trans e5⟩
   have hin:∀ n∈x.parts,0≤n∧n<(k:Int):=by
    intro n hn
    have:=List.all_eq_true.1 hd n hn
    simpa using this
   refine WX.loopA [78,79,80,14,81,82,83,84,85,86,87,12,88,77] (by kernel_rfl) (fun i=>x.parts.length - i) (fun i t h1=>Ext h5 h1∧zB t 77=I i∧i≤x.parts.length∧∃ v,zB t 12=v∧OwnN h5 h1 v ((x.parts.take i).map fun n=>sizes.getD n.toNat 0)) 0 ?_ ?_
   ·exact⟨Ext.refl _,sl_,Nat.zero_le _,_,sl_,.inl ⟨rfl,rfl⟩⟩
   ·rintro i t h6 hsame ⟨e6,s77,hi,v,s12,o12⟩
    have sv6:=sv5.ext e6
    have ss6:=ss5.ext e6
    refine go ?_
    refine WX.br (fun he=> ?_) (fun he=> ?_)<;>simp only[DB]at he
    ·have hi':i<x.parts.length:=by omega
     have hx2:=hin _ (z0 hi')
     refine go ?_
     refine WO.bl [sizes.getD (x.parts.getD i 0).toNat 0] ?_
     intro v7 h7 e7 o7
     refine go ?_
     refine WO.apN (o12.ext e7) o7.sl (e6.trans e7) (by simp;omega) ?_
     intro v8 h8 e8 o8
     refine go ?_
     refine zA (i+1) (by omega) ⟨e8,sln,by omega,_,sl_,?_⟩
     have e:(x.parts.take (i+1)).map (fun n=>sizes.getD n.toNat 0)=(x.parts.take i).map (fun n=>sizes.getD n.toNat 0)++[sizes.getD (x.parts.getD i 0).toNat 0]:=by
      rw[List.take_add_one,List.map_append];simp[List.getD,List.getElem?_eq_getElem hi']
     rw[e];exact o8
    ·have:i=x.parts.length:=by omega
     subst this
     rw[List.take_length]at o12
     have hall:∀ y∈x.parts.map (fun n=>sizes.getD n.toNat 0),0≤y∧y≤1000:=by
      intro y hy
      obtain⟨n,hn,rfl⟩:=List.mem_map.1 hy
      have:=hin n hn
      exact hb0 _ (z0 (by omega))
     have o12:=o12.sl
     refine go ?_
     have hml:(x.parts.map fun n=>sizes.getD n.toNat 0).length=x.parts.length:=List.length_map ..
     have e36:=(e14.trans e5).trans e6
     have hr:∀ {b1 b2:Bool},decide (0<x.parts.length)=b1→decide (x.parts.length≤8)=b2→Value.tuple #[I (y9 T x k sizes).1,.bool (y9 T x k sizes).2]=
       .tuple #[I (x.parts.map fun n=>sizes.getD n.toNat 0).sum,.bool (b1&&b2&&decide ((x.parts.map fun n=>sizes.getD n.toNat 0).sum≤32))]:=by
      intro b1 b2 h1 h2
      rw[mayL4 hb4,hc,hd,h1,h2];rfl
     clear hb0 hp hx hxT o3 o8 o84 st4 ss4 sv4 ss5 sv5 ss6 sv6 hsame
     refine WO.sp (fun hf=> ?_) (fun hf=> ?_)<;>simp only[DB,List.length_map]at hf<;>refine go ?_
     ·refine WO.con (sum_ok h6 v _ o12 (by simp;omega) hall) ?_
      rintro _ _ ⟨rfl,rfl⟩
      refine go ?_
      refine WO.sp (fun hg=> ?_) (fun hg=> ?_)<;>simp only[DB,List.length_map]at hg<;>refine go ?_
      ·refine rt ?_
       refine⟨?_,e36⟩
       rw[hr (decide_eq_true (by omega)) (decide_eq_true (by omega))];rfl
      ·refine rt ?_
       refine⟨?_,e36⟩
       rw[hr (decide_eq_true (by omega)) (decide_eq_false (by omega))];rfl
     ·refine WO.con (sum_ok h6 v _ o12 (by simp;omega) hall) ?_
      rintro _ _ ⟨rfl,rfl⟩
      refine go ?_
      refine rt ?_
      refine⟨?_,e36⟩
      rw[hr (decide_eq_false (by omega)) rfl];rfl
  ·refine rt ?_
   exact⟨by simp[one,y9,hb4,hc],e14⟩
 refine WX.br (fun hb5=> ?_) (fun hb5=> ?_)<;>simp only[DB]at hb5<;>refine go ?_
 ·refine WO.sp (fun hc=> ?_) (fun hc=> ?_)<;>refine go ?_
  ·refine WO.bl [x.elem] ?_
   intro v5 h5 e5 o5
   have ss5:=ss4.ext e5
   have o8:=o8.ext e5
   refine go ?_
   refine WO.con (zAw h5 v5 _ [x.elem] o5.sl (by simp)) ?_
   rintro _ h6 ⟨rfl,e6⟩
   have ss6:=ss5.ext e6
   have o8:=o8.ext e6
   have e36:=(e14.trans e5).trans e6
   have hr:∀ {b1 b2 b3:Bool},yX k [x.elem]=b1→decide (1≤x.many)=b2→decide (x.many≤16)=b3→Value.tuple #[I (y9 T x k sizes).1,.bool (y9 T x k sizes).2]=
     (if b1&&b2&&b3 then .tuple #[I (x.many * sizes.getD x.elem.toNat 0),.bool (decide (x.many * sizes.getD x.elem.toNat 0≤32))] else .tuple #[I 0,.bool false]):=by
    intro b1 b2 b3 h1 h2 h3
    rw[mayL5 hb5,hc,h1,h2,h3]
    cases b1<;>cases b2<;>cases b3<;>rfl
   have hin:yX k [x.elem]=true→0≤x.elem∧x.elem<(k:Int):=by
    intro hd
    have:=List.all_eq_true.1 hd x.elem (by simp)
    simpa using this
   have hs0:∀ n:Int,0≤n∧n<(k:Int)→0≤sizes.getD n.toNat 0∧sizes.getD n.toNat 0≤1000:=fun n hn=>hb0 _ (z0 (by omega))
   clear hb0 hp hx hxT o3 o84 st4 ss4 sv4 ss5 o5
   refine go ?_
   refine WO.sp (fun hd=> ?_) (fun hd=> ?_)<;>refine go ?_
   ·have hin:=hin hd
    have hs:=hs0 _ hin
    refine WO.sp (fun he=> ?_) (fun he=> ?_)<;>simp only[DB]at he<;>refine go ?_
    ·refine WX.br (fun hf=> ?_) (fun hf=> ?_)<;>simp only[DB]at hf<;>refine go ?_
     ·refine rt ?_
      refine⟨?_,e36⟩
      rw[hr hd (decide_eq_true he) (decide_eq_false (by omega))];rfl
     ·have hm1:x.many * sizes.getD x.elem.toNat 0≤16 * 1000:=Int.mul_le_mul (by omega) hs.2 hs.1 (by omega)
      have hm0:0≤x.many * sizes.getD x.elem.toNat 0:=Int.mul_nonneg (by omega) hs.1
      refine go ?_
      refine rt ?_
      refine⟨?_,e36⟩
      rw[hr hd (decide_eq_true he) (decide_eq_true (by omega))];rfl
    ·refine rt ?_
     refine⟨?_,e36⟩
     rw[hr hd (decide_eq_false (by omega)) rfl];cases (decide (x.many≤16))<;>rfl
   ·refine rt ?_
    refine⟨?_,e36⟩
    rw[hr hd rfl rfl];rfl
  ·refine rt ?_
   refine⟨?_,e14⟩
   rw[mayL5 hb5,hc];rfl
 ·refine rt ?_
  exact⟨by simp[one,y9,hb,hb2,hb3,hb4,hb5],e14⟩
end Go.Proofs.YtdcgdfbblnljjaaGreatDoor
namespace Go.Proofs.YtdcgdfbblnljjaaGreatDoor
open Go.Am
set_option linter.unusedVariables false
set_option linter.unusedSimpArgs false
set_option maxHeartbeats 4000000
theorem mayL_pos {T:List LType} {x:LType} {k:Nat} {s:List Int} (hs:∀ y∈s,0≤y∧y≤1000) (hk:s.length=k) (h:(y9 T x k s).2=true):0≤(y9 T x k s).1∧(y9 T x k s).1≤1000:=by
 unfold y9 at h ⊢
 by_cases h1:x.kind=1
 ·rw[if_pos h1];simp
 rw[if_neg h1]at h ⊢
 by_cases h2:x.kind=2
 ·rw[if_pos h2];simp
 rw[if_neg h2]at h ⊢
 by_cases h3:x.kind=3
 ·rw[if_pos h3];simp
 rw[if_neg h3]at h ⊢
 by_cases h4:x.kind=4
 ·rw[if_pos h4]at h ⊢
  cases hc:(yG x&&yX k x.parts)with
  |false=>rw[hc]at h;simp at h
  |true=>
   rw[hc]at h
   simp only[if_true]at h ⊢
   simp only[Bool.and_eq_true,decide_eq_true_eq]at h hc
   have hpos:∀ l:List Int,(∀ y∈l,0≤y)→0≤l.sum:=by
    intro l
    induction l with
    |nil=>intro _;simp
    |cons a l ih=>intro hl;have:=ih fun y hy=>hl y (by simp[hy]);have:=hl a (by simp);simp;omega
   have:=hpos (x.parts.map fun n=>s.getD n.toNat 0) fun y hy=>by
    obtain⟨n,hn,rfl⟩:=List.mem_map.1 hy
    have:=List.all_eq_true.1 hc.2 n hn
    simp at this
    exact(hs _ (z0 (by omega))).1
   omega
 rw[if_neg h4]at h ⊢
 by_cases h5:x.kind=5
 ·rw[if_pos h5]at h ⊢
  cases hc:(yG x&&yX k [x.elem]&&decide (1≤x.many)&&decide (x.many≤16))with
  |false=>rw[hc]at h;simp at h
  |true=>
   rw[hc]at h
   simp only[if_true]at h ⊢
   simp only[Bool.and_eq_true,decide_eq_true_eq]at h hc
   have hin:0≤x.elem∧x.elem<(k:Int):=by
    have:=List.all_eq_true.1 hc.1.1.2 x.elem (by simp)
    simpa using this
   have:=Int.mul_nonneg (a:=x.many) (b:=s.getD x.elem.toNat 0) (by omega) (hs _ (z0 (by omega))).1
   omega
 rw[if_neg h5];simp
theorem zCt {T:List LType}:∀ {k:Nat} {s:List Int},ZM T k=some s→s.length=k∧∀ y∈s,0≤y∧y≤1000
 |0,s,h=>by cases h;simp
 |k+1,s,h=>by
  unfold ZM at h
  cases hk:ZM T k with
  |none=>rw[hk]at h;cases h
  |some s0=>
   rw[hk]at h
   obtain⟨h1,h2⟩:=zCt hk
   simp only at h
   split at h
   ·cases h
    rename_i hm
    refine⟨by simp[h1],fun y hy=> ?_⟩
    rcases List.mem_append.1 hy with hy|hy
    ·exact h2 y hy
    ·simp at hy;subst hy;exact mayL_pos h2 h1 hm
   ·cases h
theorem zB1 {T:List LType}:∀ {k m:Nat},ZM T k=none→k≤m→ZM T m=none
 |k,0,h,hm=>by have:k=0:=by omega
               subst this;exact h
 |k,m+1,h,hm=>by
  by_cases e:k=m+1
  ·subst e;exact h
  ·unfold ZM;rw[zB1 h (by omega)]
noncomputable def body71_0:ACode:=(.seq (.region [⟨some 13,none,(.bin .lss (.tmp 12) (.tmp 11))⟩]) (.seq (.cond (.tmp 13) .skip (.exit 0)) (.seq (.block 1 (.seq (.region [⟨some 14,none,(.mov (.tmp 12))⟩,⟨some 4,none,(.mov (.tmp 14))⟩]) (.seq (.region [⟨some 16,none,(.mov (.tmp 0))⟩,⟨some 17,none,(.mov (.tmp 4))⟩,⟨some 18,none,(.mov (.tmp 3))⟩,⟨some 19,none,(.call (.func 81) [(.tmp 16),(.tmp 17),(.tmp 18)])⟩,⟨some 15,none,(.mov (.tmp 19))⟩,⟨some 20,none,(.extract (.tmp 15) 0)⟩,⟨some 21,none,(.extract (.tmp 15) 1)⟩,⟨some 5,none,(.mov (.tmp 20))⟩,⟨some 6,none,(.mov (.tmp 21))⟩]) (.seq (.seq (.region [⟨some 22,none,(.mov (.tmp 6))⟩,⟨some 23,none,(.un .not (.tmp 22))⟩]) (.cond (.tmp 23) (.seq (.region [⟨some 2,none,(.mov (.const (.int .i64 30)))⟩]) .ret) .skip)) (.region [⟨some 24,none,(.mov (.tmp 3))⟩,⟨some 25,none,(.mov (.tmp 5))⟩,⟨some 26,none,(.buildSlice 1 1 [(.int .i64 0)] [(0,1,(.tmp 25))])⟩,⟨some 27,none,(.append 1 (.tmp 24) (.tmp 26))⟩,⟨some 3,none,(.mov (.tmp 27))⟩]))))) (.region [⟨some 28,none,(.bin .add (.tmp 12) (.const (.int .i64 1)))⟩,⟨some 12,none,(.mov (.tmp 28))⟩]))))
noncomputable def body71:ACode:=(.seq (.region [⟨some 2,none,(.mov (.const (.int .i64 0)))⟩]) (.seq (.seq (.region [⟨some 7,none,(.mov (.tmp 0))⟩,⟨some 8,none,(.len (.tmp 7))⟩,⟨some 9,none,(.bin .gtr (.tmp 8) (.const (.int .i64 16)))⟩]) (.cond (.tmp 9) (.seq (.region [⟨some 2,none,(.mov (.const (.int .i64 4)))⟩]) .ret) .skip)) (.seq (.region [⟨some 3,none,(.mov (.const (.slice none 0 0)))⟩]) (.seq (.seq (.region [⟨some 10,none,(.mov (.tmp 0))⟩,⟨some 11,none,(.len (.tmp 10))⟩,⟨some 12,none,(.mov (.const (.int .i64 0)))⟩]) (.block 0 (.loop body71_0))) (.seq (.region [⟨some 2,none,(.mov (.const (.int .i64 0)))⟩]) .ret)))))
set_option maxRecDepth 100000 in
theorem tab71:tb.code 71=some ⟨29,[(2,none)],body71⟩:=by kernel_rfl
theorem check_ok (h:AHeap) (tv:Value) (T:List LType) (st:SlT h tv T) (hT:T.length≤100) (hp:∀ x∈T,x.parts.length≤100):
  WC Tryz.prog tb 71 [tv] h fun r h'=>r=I (Zt T)∧Ext h h':=by
 obtain⟨_,_,_,rfl⟩:=zE st
 refine WC.of (zG 71) tab71 ?_;simp only[zN,Nat.zero_add,Nat.reduceAdd]
 refine go ?_
 refine WX.br (fun hb=> ?_) (fun hb=> ?_)<;>simp only[DB]at hb<;>refine go ?_
 ·refine rt ?_
  refine⟨?_,Ext.refl h⟩
  unfold Zt;rw[if_pos (by omega)];rfl
 have hb':¬16<T.length:=by omega
 refine WX.loopA [13,14,4,16,17,18,19,15,20,21,5,6,22,23,2,24,25,26,27,3,28,12] (by kernel_rfl) (fun i=>T.length - i) (fun i t h1=>Ext h h1∧zB t 12=I i∧i≤T.length∧∃ v s,zB t 3=v∧ZM T i=some s∧OwnN h h1 v s) 0 ?_ ?_
 ·exact⟨Ext.refl _,sl_,Nat.zero_le _,_,[],sl_,rfl,.inl ⟨rfl,rfl⟩⟩
 rintro i t h1 hsame ⟨e1,s12,hi,v,s,s3,hs,o⟩
 have st1:=st.ext e1
 obtain⟨hl,hr⟩:=zCt hs
 refine go ?_
 refine WX.br (fun hc=> ?_) (fun hc=> ?_)<;>simp only[DB]at hc<;>refine go ?_
 ·have hi':i<T.length:=by omega
  refine WO.con (may_ok h1 _ v T i s st1 o.sl hi' hT hp hl hr) ?_
  rintro _ h2 ⟨rfl,e2⟩
  have o2:=o.ext e2
  refine go ?_
  have hst:ZM T (i+1)=if (y9 T (T.getD i default) i s).2 then some (s++[(y9 T (T.getD i default) i s).1]) else none:=by
   conv=>lhs;unfold ZM
   rw[hs]
  refine WX.br (fun hd=> ?_) (fun hd=> ?_)<;>simp only[DB]at hd<;>refine go ?_
  ·refine rt ?_
   refine⟨?_,e1.trans e2⟩
   rw[hd,if_neg (by simp)]at hst
   unfold Zt;rw[if_neg hb',zB1 hst (by omega)];rfl
  ·refine WO.bl [(y9 T (T.getD i default) i s).1] ?_
   intro v3 h3 e3 o3
   refine go ?_
   refine WO.apN (o2.ext e3) o3.sl ((e1.trans e2).trans e3) (by simp;omega) ?_
   intro v4 h4 e4 o4
   refine go ?_
   rw[hd,if_pos rfl]at hst
   exact zA (i+1) (by omega) ⟨e4,sln,by omega,_,_,sl_,hst,o4⟩
 ·refine rt ?_
  refine⟨?_,e1⟩
  have:i=T.length:=by omega
  subst this
  unfold Zt;rw[if_neg hb',hs];rfl
end Go.Proofs.YtdcgdfbblnljjaaGreatDoor
namespace Go.Proofs.YtdcgdfbblnljjaaGreatDoor
open Go.Am
set_option linter.unusedVariables false
set_option linter.unusedSimpArgs false
structure LIns where
 op:Int
 ty:Int
 a:Int
 b:Int
 n:Int
 args:List Int
 frm:List Int
structure LEnd where
 kind:Int
 a:Int
 to:Int
 els:Int
structure LBlk where
 ins:List LIns
 fin:LEnd
structure LFn where
 sig:Int
 blocks:List LBlk
instance:Inhabited LIns:=⟨⟨0,0,0,0,0,[],[]⟩⟩
instance:Inhabited LBlk:=⟨⟨[],⟨0,0,0,0⟩⟩⟩
instance:Inhabited LFn:=⟨⟨0,[]⟩⟩
def RIns (h:AHeap) (cs:List Value) (x:LIns):Prop:=∃ va vf,cs=[.int .u8 x.op,I x.ty,I x.a,I x.b,I x.n,va,vf]∧SlI h va x.args∧SlI h vf x.frm∧(x.args.length:Int)≤1152921504606846976∧(x.frm.length:Int)≤1152921504606846976∧0≤x.op∧x.op≤255
theorem RIns.ext {h h' cs x} (r:RIns h cs x) (e:Ext h h'):RIns h' cs x:=let ⟨va,vf,a,b,c,d⟩:=r;⟨va,vf,a,b.ext e,c.ext e,d⟩
def RBlk (h:AHeap) (cs:List Value) (x:LBlk):Prop:=∃ vi,cs=[vi,.int .u8 x.fin.kind,I x.fin.a,I x.fin.to,I x.fin.els]∧SlR 7 RIns h vi x.ins∧(x.ins.length:Int)≤1152921504606846976
theorem RBlk.ext {h h' cs x} (r:RBlk h cs x) (e:Ext h h'):RBlk h' cs x:=let ⟨va,a,b,c⟩:=r;⟨va,a,SlR.ext (fun _ _ r=>RIns.ext r e) b e,c⟩
def RFn (h:AHeap) (cs:List Value) (x:LFn):Prop:=∃ vb,cs=[I x.sig,vb]∧SlR 5 RBlk h vb x.blocks∧(x.blocks.length:Int)≤1152921504606846976
theorem RFn.ext {h h' cs x} (r:RFn h cs x) (e:Ext h h'):RFn h' cs x:=let ⟨va,a,b,c⟩:=r;⟨va,a,SlR.ext (fun _ _ r=>RBlk.ext r e) b e,c⟩
abbrev SlN (h:AHeap) (v:Value) (l:List LIns):Prop:=SlR 7 RIns h v l
abbrev SlB (h:AHeap) (v:Value) (l:List LBlk):Prop:=SlR 5 RBlk h v l
abbrev SlF (h:AHeap) (v:Value) (l:List LFn):Prop:=SlR 2 RFn h v l
theorem SlN.ext {h h' v T} (s:SlN h v T) (e:Ext h h'):SlN h' v T:=SlR.ext (fun _ _ r=>RIns.ext r e) s e
theorem SlB.ext {h h' v T} (s:SlB h v T) (e:Ext h h'):SlB h' v T:=SlR.ext (fun _ _ r=>RBlk.ext r e) s e
theorem SlF.ext {h h' v T} (s:SlF h v T) (e:Ext h h'):SlF h' v T:=SlR.ext (fun _ _ r=>RFn.ext r e) s e
theorem zX {α:Type} [Inhabited α] {c:Nat} {R:AHeap→List Value→α→Prop} {h:AHeap} {v:Value} {T:List α} {i:Nat} (s:SlR c R h v T) (hi:i<T.length):∃ cs,R h cs (T.getD i default)∧Piece h v (i * c) cs∧IsSl v:=by
 obtain⟨cs,a,_,c⟩:=s.at hi
 exact⟨cs,by simpa [List.getD,List.getElem?_eq_getElem hi]using a,c,s.some hi⟩
def Tbl (h:AHeap):Prop:=yH h 0=some Zs∧0<h.n
theorem Tbl.ext {h h'} (t:Tbl h) (e:Ext h h'):Tbl h':=⟨e.row t.2 t.1,Nat.lt_of_lt_of_le t.2 e.n⟩
theorem tbl0:(cut Zs (0+0 * 6) 6).bind (zK true)=some (.agg (Zm (hasT.getD 0 (false,false,false,false,false,false))).toArray):=by kernel_rfl
theorem tbl1:(cut Zs (0+1 * 6) 6).bind (zK true)=some (.agg (Zm (hasT.getD 1 (false,false,false,false,false,false))).toArray):=by kernel_rfl
theorem tbl2:(cut Zs (0+2 * 6) 6).bind (zK true)=some (.agg (Zm (hasT.getD 2 (false,false,false,false,false,false))).toArray):=by kernel_rfl
theorem tbl3:(cut Zs (0+3 * 6) 6).bind (zK true)=some (.agg (Zm (hasT.getD 3 (false,false,false,false,false,false))).toArray):=by kernel_rfl
theorem tbl4:(cut Zs (0+4 * 6) 6).bind (zK true)=some (.agg (Zm (hasT.getD 4 (false,false,false,false,false,false))).toArray):=by kernel_rfl
theorem tbl5:(cut Zs (0+5 * 6) 6).bind (zK true)=some (.agg (Zm (hasT.getD 5 (false,false,false,false,false,false))).toArray):=by kernel_rfl
theorem tbl6:(cut Zs (0+6 * 6) 6).bind (zK true)=some (.agg (Zm (hasT.getD 6 (false,false,false,false,false,false))).toArray):=by kernel_rfl
theorem tbl7:(cut Zs (0+7 * 6) 6).bind (zK true)=some (.agg (Zm (hasT.getD 7 (false,false,false,false,false,false))).toArray):=by kernel_rfl
theorem tbl8:(cut Zs (0+8 * 6) 6).bind (zK true)=some (.agg (Zm (hasT.getD 8 (false,false,false,false,false,false))).toArray):=by kernel_rfl
theorem tbl9:(cut Zs (0+9 * 6) 6).bind (zK true)=some (.agg (Zm (hasT.getD 9 (false,false,false,false,false,false))).toArray):=by kernel_rfl
theorem tbl10:(cut Zs (0+10 * 6) 6).bind (zK true)=some (.agg (Zm (hasT.getD 10 (false,false,false,false,false,false))).toArray):=by kernel_rfl
theorem tbl11:(cut Zs (0+11 * 6) 6).bind (zK true)=some (.agg (Zm (hasT.getD 11 (false,false,false,false,false,false))).toArray):=by kernel_rfl
theorem tbl12:(cut Zs (0+12 * 6) 6).bind (zK true)=some (.agg (Zm (hasT.getD 12 (false,false,false,false,false,false))).toArray):=by kernel_rfl
theorem tbl13:(cut Zs (0+13 * 6) 6).bind (zK true)=some (.agg (Zm (hasT.getD 13 (false,false,false,false,false,false))).toArray):=by kernel_rfl
theorem tbl14:(cut Zs (0+14 * 6) 6).bind (zK true)=some (.agg (Zm (hasT.getD 14 (false,false,false,false,false,false))).toArray):=by kernel_rfl
theorem tbl15:(cut Zs (0+15 * 6) 6).bind (zK true)=some (.agg (Zm (hasT.getD 15 (false,false,false,false,false,false))).toArray):=by kernel_rfl
theorem tbl16:(cut Zs (0+16 * 6) 6).bind (zK true)=some (.agg (Zm (hasT.getD 16 (false,false,false,false,false,false))).toArray):=by kernel_rfl
theorem tbl17:(cut Zs (0+17 * 6) 6).bind (zK true)=some (.agg (Zm (hasT.getD 17 (false,false,false,false,false,false))).toArray):=by kernel_rfl
theorem tbl18:(cut Zs (0+18 * 6) 6).bind (zK true)=some (.agg (Zm (hasT.getD 18 (false,false,false,false,false,false))).toArray):=by kernel_rfl
theorem tbl19:(cut Zs (0+19 * 6) 6).bind (zK true)=some (.agg (Zm (hasT.getD 19 (false,false,false,false,false,false))).toArray):=by kernel_rfl
theorem tbl20:(cut Zs (0+20 * 6) 6).bind (zK true)=some (.agg (Zm (hasT.getD 20 (false,false,false,false,false,false))).toArray):=by kernel_rfl
theorem tbl21:(cut Zs (0+21 * 6) 6).bind (zK true)=some (.agg (Zm (hasT.getD 21 (false,false,false,false,false,false))).toArray):=by kernel_rfl
theorem tbl22:(cut Zs (0+22 * 6) 6).bind (zK true)=some (.agg (Zm (hasT.getD 22 (false,false,false,false,false,false))).toArray):=by kernel_rfl
theorem tbl_at:∀ i,i<23→(cut Zs (0+i * 6) 6).bind (zK true)=some (.agg (Zm (hasT.getD i (false,false,false,false,false,false))).toArray):=by
 intro i hi
 match i,hi with
 |0,_=>exact tbl0
 |1,_=>exact tbl1
 |2,_=>exact tbl2
 |3,_=>exact tbl3
 |4,_=>exact tbl4
 |5,_=>exact tbl5
 |6,_=>exact tbl6
 |7,_=>exact tbl7
 |8,_=>exact tbl8
 |9,_=>exact tbl9
 |10,_=>exact tbl10
 |11,_=>exact tbl11
 |12,_=>exact tbl12
 |13,_=>exact tbl13
 |14,_=>exact tbl14
 |15,_=>exact tbl15
 |16,_=>exact tbl16
 |17,_=>exact tbl17
 |18,_=>exact tbl18
 |19,_=>exact tbl19
 |20,_=>exact tbl20
 |21,_=>exact tbl21
 |22,_=>exact tbl22
 |n+23,h=>exact absurd h (by omega)
def zM (n m:Int):Bool:=decide (0≤n)&&decide (n<m)
def allL (l:List Int) (m:Int):Bool:=l.all fun n=>zM n m
structure LSz where
 types:Int
 funcs:Int
 regs:Int
 blocks:Int
def YN (x:LIns) (s:LSz):Bool:=
 if x.op=3∨x.op=18 then decide (0≤x.n)&&decide (x.n<s.funcs) else if x.op=14 then decide (0≤x.n)&&decide (x.n<8) else true
def zW (l:List LBlk):Int:=(l.map fun b=>(b.ins.length:Int)).sum
def Yw (x:LEnd) (s:LSz):Bool:=
 if x.kind=1 then (decide (x.a=0)&&decide (x.els=0))&&zM x.to s.blocks
 else if x.kind=2 then zM x.a s.regs&&zM x.to s.blocks&&zM x.els s.blocks
 else if x.kind=3 then (decide (x.to=0)&&decide (x.els=0))&&zM x.a s.regs
 else false
def oddL (x:LIns) (s:LSz):Bool:=
 let q:=zb x.op
 ((((decide (q=(false,false,false,false,false,false))||(q.1&& !zM x.a s.regs))||(q.2.1&& !zM x.b s.regs))|| !allL x.args s.regs)|| !YN x s)
def noneL (x:LIns):Bool:=
 let q:=zb x.op
 ((((!q.1&& !decide (x.a=0))||(!q.2.1&& !decide (x.b=0)))||(!q.2.2.1&& !decide (x.n=0)))||(!q.2.2.2.1&&decide (0<(x.args.length:Int))))||(!q.2.2.2.2.1&&decide (0<(x.frm.length:Int)))
def kindL (x:LIns) (s:LSz):Bool:=
 let q:=zb x.op
 (q.2.2.2.2.2&&zM x.ty s.types)||(!q.2.2.2.2.2&&decide (x.ty=0))
def zBY (x:LIns) (s:LSz):Bool:=
 !oddL x s&&(if (zb x.op).2.2.2.2.1 then !noneL x&&kindL x s&&allL x.frm s.blocks&&decide (x.frm.length=x.args.length)&&decide (1≤x.frm.length)&&decide (x.frm.length≤16) else !noneL x&&kindL x s&&decide (x.args.length≤4))
def zAl (b:LBlk) (s:LSz):Bool:=(b.ins.any fun x=> !zBY x s)|| !Yw b.fin s
def szL (T:List LType) (nf:Int) (f:LFn):LSz:=⟨T.length,nf,((T.getD f.sig.toNat default).parts.length:Int)+zW f.blocks,f.blocks.length⟩
def Yv (T:List LType) (f:LFn):Bool:=
 (((!zM f.sig T.length|| !decide ((T.getD f.sig.toNat default).kind=3))|| !zM ((f.blocks.length:Int) - 1) 16)||decide (128<zW f.blocks))
def fnL (T:List LType) (nf:Int) (f:LFn):Bool:=if Yv T f then false else !(f.blocks.any fun b=>zAl b (szL T nf f))
def ZY (T:List LType) (F:List LFn):Int:=
 if Zt T≠0 then Zt T else if (!zM ((F.length:Int) - 1) 8||F.any fun f=> !fnL T F.length f) then 60 else 0
def zY (T:List LType) (F:List LFn) (f:Int):Int×Int:=
 if ZY T F≠0 then (0,ZY T F) else if zM f F.length then (((T.getD (F.getD f.toNat default).sig.toNat default).parts.length:Int),0) else (0,2)
def yp (T:List LType) (F:List LFn) (f:Int):Int×Int:=
 if (zY T F f).2≠0 then (0,(zY T F f).2) else ((zY T F f).1+zW (F.getD f.toNat default).blocks,0)
structure Small (T:List LType) (F:List LFn):Prop where
 types:T.length≤100
 parts:∀ x∈T,x.parts.length≤100
 funcs:F.length≤1000
 blocks:∀ f∈F,f.blocks.length≤1000
 ins:∀ f∈F,∀ b∈f.blocks,b.ins.length≤1000
end Go.Proofs.YtdcgdfbblnljjaaGreatDoor
namespace Go.Proofs.YtdcgdfbblnljjaaGreatDoor
open Go.Am
set_option linter.unusedVariables false
set_option linter.unusedSimpArgs false
set_option maxHeartbeats 4000000
noncomputable def body45:ACode:=(.seq (.region [⟨some 4,none,(.mov (.const (.bool false)))⟩]) (.seq (.region [⟨some 5,none,(.mov (.tmp 0))⟩,⟨some 6,none,(.bin .geq (.tmp 5) (.const (.int .i64 0)))⟩,⟨some 7,none,(.mov (.tmp 6))⟩,⟨some 8,some (7,true),(.mov (.tmp 0))⟩,⟨some 9,some (7,true),(.mov (.tmp 1))⟩,⟨some 10,some (7,true),(.bin .lss (.tmp 8) (.tmp 9))⟩,⟨some 11,none,(.pick (.tmp 7) (.tmp 10) (.const (.bool false)))⟩,⟨some 4,none,(.mov (.tmp 11))⟩]) .ret))
set_option maxRecDepth 100000 in
theorem tab45:tb.code 45=some ⟨12,[(4,none)],body45⟩:=by kernel_rfl
theorem yd (h:AHeap) (n m:Int):WC Tryz.prog tb 45 [I n,I m] h fun r h'=>r= .bool (zM n m)∧h=h':=by
 refine WC.of (zG 45) tab45 ?_;simp only[zN,Nat.zero_add,Nat.reduceAdd]
 refine go ?_
 repeat' (first|(refine WX.br (fun hb=> ?_) (fun hb=> ?_)<;>(try simp only[DB]at hb)<;>refine go ?_)|(refine WO.sp (fun hb=> ?_) (fun hb=> ?_)<;>(try simp only[DB]at hb)<;>refine go ?_))
 all_goals (refine rt ?_;exact⟨by simp[one,zM, *]<;>omega,rfl⟩)
noncomputable def body132:ACode:=(.seq (.region [⟨some 3,none,(.mov (.const (.bool false)))⟩]) (.seq (.region [⟨some 4,none,(.mov (.tmp 0))⟩,⟨some 5,none,(.load false 1 (.tmp 1))⟩,⟨some 6,none,(.call (.func 45) [(.tmp 4),(.tmp 5)])⟩,⟨some 7,none,(.un .not (.tmp 6))⟩,⟨some 3,none,(.mov (.tmp 7))⟩]) .ret))
set_option maxRecDepth 100000 in
theorem tab132:tb.code 132=some ⟨8,[(3,none)],body132⟩:=by kernel_rfl
theorem all1_ok (h h0:AHeap) (p:Value) (n m:Int) (o:OwnC h0 h p [I m]):WC Tryz.prog tb 132 [I n,p] h fun r h'=>r= .bool (!zM n m)∧Ext h h':=by
 refine WC.of (zG 132) tab132 ?_;simp only[zN,Nat.zero_add,Nat.reduceAdd]
 refine go ?_
 refine WO.con (yd h n m) ?_
 rintro _ _ ⟨rfl,rfl⟩
 refine go ?_
 refine rt ?_
 exact⟨rfl,Ext.refl h⟩
noncomputable def body111:ACode:=(.seq (.region [⟨some 3,none,(.box (.tmp 1))⟩,⟨some 4,none,(.mov (.const (.bool false)))⟩]) (.seq (.region [⟨some 5,none,(.mov (.tmp 0))⟩,⟨some 6,none,(.mkFunc (.func 132) [] [(.tmp 3)])⟩,⟨some 7,none,(.call (.func 106) [(.tmp 5),(.tmp 6)])⟩,⟨some 8,none,(.un .not (.tmp 7))⟩,⟨some 4,none,(.mov (.tmp 8))⟩]) .ret))
set_option maxRecDepth 100000 in
theorem tab111:tb.code 111=some ⟨9,[(4,none)],body111⟩:=by kernel_rfl
theorem all_ok (h:AHeap) (v:Value) (m:Int) (l:List Int) (s:SlI h v l) (hl:(l.length:Int)≤9223372036854775807):WC Tryz.prog tb 111 [v,I m] h fun r h'=>r= .bool (allL l m)∧Ext h h':=by
 refine WC.of (zG 111) tab111 ?_;simp only[zN,Nat.zero_add,Nat.reduceAdd]
 refine go ?_
 refine WO.bx ?_
 intro p h1 e1 o1
 have s1:=s.ext e1
 refine go ?_
 refine WO.con (zC5 h1 v _ l (fun n=> !zM n m) s1 hl ?_) ?_
 ·intro x hx h2 e2
  exact WV.func (all1_ok h2 h p x m (o1.ext e2))
 rintro _ h2 ⟨rfl,e2⟩
 refine go ?_
 refine rt ?_
 refine⟨?_,e1.trans e2⟩
 show Value.bool _=_
 rw[List.not_any_eq_all_not];simp[allL]
noncomputable def body112:ACode:=(.seq (.region [⟨some 2,none,(.box (.tmp 0))⟩,⟨some 3,none,(.box (.tmp 1))⟩,⟨some 4,none,(.mov (.const (.bool false)))⟩]) (.seq (.seq (.region [⟨some 5,none,(.fld 0 (.tmp 2))⟩,⟨some 6,none,(.load false 1 (.tmp 5))⟩]) (.block 0 (.seq (.seq (.region [⟨some 8,none,(.bin .eql (.tmp 6) (.const (.int .u8 3)))⟩,⟨some 7,none,(.mov (.tmp 8))⟩]) (.cond (.tmp 7) .skip (.region [⟨some 9,none,(.bin .eql (.tmp 6) (.const (.int .u8 18)))⟩,⟨some 7,none,(.mov (.tmp 9))⟩]))) (.cond (.tmp 7) (.seq (.region [⟨some 10,none,(.fld 4 (.tmp 2))⟩,⟨some 11,none,(.load false 1 (.tmp 10))⟩,⟨some 12,none,(.bin .geq (.tmp 11) (.const (.int .i64 0)))⟩,⟨some 13,none,(.mov (.tmp 12))⟩,⟨some 14,some (13,true),(.fld 4 (.tmp 2))⟩,⟨some 15,some (13,true),(.load false 1 (.tmp 14))⟩,⟨some 16,some (13,true),(.fld 1 (.tmp 3))⟩,⟨some 17,some (13,true),(.load false 1 (.tmp 16))⟩,⟨some 18,some (13,true),(.bin .lss (.tmp 15) (.tmp 17))⟩,⟨some 19,none,(.pick (.tmp 13) (.tmp 18) (.const (.bool false)))⟩,⟨some 4,none,(.mov (.tmp 19))⟩]) .ret) (.seq (.region [⟨some 21,none,(.bin .eql (.tmp 6) (.const (.int .u8 14)))⟩,⟨some 20,none,(.mov (.tmp 21))⟩]) (.cond (.tmp 20) (.seq (.region [⟨some 22,none,(.fld 4 (.tmp 2))⟩,⟨some 23,none,(.load false 1 (.tmp 22))⟩,⟨some 24,none,(.bin .geq (.tmp 23) (.const (.int .i64 0)))⟩,⟨some 25,none,(.mov (.tmp 24))⟩,⟨some 26,some (25,true),(.fld 4 (.tmp 2))⟩,⟨some 27,some (25,true),(.load false 1 (.tmp 26))⟩,⟨some 28,some (25,true),(.bin .lss (.tmp 27) (.const (.int .i64 8)))⟩,⟨some 29,none,(.pick (.tmp 25) (.tmp 28) (.const (.bool false)))⟩,⟨some 4,none,(.mov (.tmp 29))⟩]) .ret) .skip)))))) (.seq (.region [⟨some 4,none,(.mov (.const (.bool true)))⟩]) .ret)))
set_option maxRecDepth 100000 in
theorem tab112:tb.code 112=some ⟨30,[(4,none)],body112⟩:=by kernel_rfl
theorem zG7 (h:AHeap) (x:LIns) (va vf:Value) (s:LSz):
  WC Tryz.prog tb 112 [.agg #[.int .u8 x.op,I x.ty,I x.a,I x.b,I x.n,va,vf],.agg #[I s.types,I s.funcs,I s.regs,I s.blocks]] h fun r h'=>r= .bool (YN x s)∧Ext h h':=by
 refine WC.of (zG 112) tab112 ?_;simp only[zN,Nat.zero_add,Nat.reduceAdd]
 refine go ?_
 refine WO.bx ?_
 intro p2 h1 e1 o1
 refine WO.bx ?_
 intro p3 h2 e2 o2
 have o1:=o1.ext e2
 refine go ?_
 repeat' (first|(refine WX.br (fun hb=> ?_) (fun hb=> ?_)<;>(try simp only[DB]at hb)<;>refine go ?_)|(refine WO.sp (fun hb=> ?_) (fun hb=> ?_)<;>(try simp only[DB]at hb)<;>refine go ?_))
 all_goals (refine rt ?_;exact⟨by simp[one,YN, *]<;>omega,e1.trans e2⟩)
noncomputable def body110:ACode:=(.seq (.region [⟨some 2,none,(.alloc [(.bool false),(.bool false),(.bool false),(.bool false),(.bool false),(.bool false)])⟩]) (.seq (.seq (.region [⟨some 3,none,(.mov (.tmp 0))⟩,⟨some 4,none,(.conv .i64 (.tmp 3))⟩,⟨some 5,none,(.bin .lss (.tmp 4) (.const (.int .i64 23)))⟩]) (.cond (.tmp 5) (.seq (.region [⟨some 6,none,(.mov (.tmp 0))⟩,⟨some 7,none,(.idxArr 23 6 (.global 0) (.tmp 6))⟩,⟨some 8,none,(.load true 6 (.tmp 7))⟩,⟨none,none,(.store 6 (.tmp 2) (.tmp 8))⟩]) .ret) .skip)) (.seq (.region [⟨some 9,none,(.build [(.bool false),(.bool false),(.bool false),(.bool false),(.bool false),(.bool false)] [])⟩,⟨none,none,(.store 6 (.tmp 2) (.tmp 9))⟩]) .ret)))
set_option maxRecDepth 100000 in
theorem tab110:tb.code 110=some ⟨10,[(2,some (true,6))],body110⟩:=by kernel_rfl
theorem of_ok (h:AHeap) (op:Int) (tb:Tbl h) (h0:0≤op) (h255:op≤255):
  WC Tryz.prog Go.Proofs.YtdcgdfbblnljjaaGreatDoor.tb 110 [.int .u8 op] h fun r h'=>r= .agg (Zm (zb op)).toArray∧Ext h h':=by
 refine WC.of (zG 110) tab110 ?_;simp only[zN,Nat.zero_add,Nat.reduceAdd]
 refine go ?_
 refine WO.al ?_
 intro p h1 e1 o1
 have t1:=(tb.ext e1).1
 refine go ?_
 refine WX.br (fun hb=> ?_) (fun hb=> ?_)<;>simp only[DB]at hb
 ·have ht:=tbl_at op.toNat (by omega)
  obtain⟨i,rfl⟩:∃ i:Nat,op=i:=⟨op.toNat,by omega⟩
  rw[Int.toNat_natCast]at ht
  refine go ?_
  refine WO.stC0 o1 e1 ?_
  intro h2 e2 o2 _
  refine go ?_
  refine rt ?_
  exact⟨rfl,e2⟩
 ·refine go ?_
  refine WO.stC0 o1 e1 ?_
  intro h2 e2 o2 _
  refine go ?_
  refine rt ?_
  refine⟨?_,e2⟩
  unfold zb
  have hl:hasT.length≤op.toNat:=by simp[hasT];omega
  rw[List.getD_eq_getElem?_getD,List.getElem?_eq_none hl];rfl
noncomputable def body46_0:ACode:=(.seq (.region [⟨some 9,none,(.bin .lss (.tmp 8) (.tmp 7))⟩]) (.seq (.cond (.tmp 9) .skip (.exit 0)) (.seq (.block 1 (.seq (.region [⟨some 10,none,(.idx 5 (.tmp 6) (.tmp 8))⟩,⟨some 11,none,(.load true 5 (.tmp 10))⟩,⟨some 4,none,(.alloc [(.slice none 0 0),(.int .u8 0),(.int .i64 0),(.int .i64 0),(.int .i64 0)])⟩,⟨none,none,(.store 5 (.tmp 4) (.tmp 11))⟩]) (.region [⟨some 12,none,(.mov (.tmp 2))⟩,⟨some 13,none,(.fld 0 (.tmp 4))⟩,⟨some 14,none,(.load false 1 (.tmp 13))⟩,⟨some 15,none,(.len (.tmp 14))⟩,⟨some 16,none,(.bin .add (.tmp 12) (.tmp 15))⟩,⟨some 2,none,(.mov (.tmp 16))⟩]))) (.region [⟨some 17,none,(.bin .add (.tmp 8) (.const (.int .i64 1)))⟩,⟨some 8,none,(.mov (.tmp 17))⟩]))))
noncomputable def body46:ACode:=(.seq (.region [⟨some 1,none,(.box (.tmp 0))⟩,⟨some 2,none,(.mov (.const (.int .i64 0)))⟩]) (.seq (.seq (.region [⟨some 5,none,(.fld 1 (.tmp 1))⟩,⟨some 6,none,(.load false 1 (.tmp 5))⟩,⟨some 7,none,(.len (.tmp 6))⟩,⟨some 8,none,(.mov (.const (.int .i64 0)))⟩]) (.block 0 (.loop body46_0))) (.seq (.region [⟨some 18,none,(.mov (.tmp 2))⟩,⟨some 2,none,(.mov (.tmp 18))⟩]) .ret)))
set_option maxRecDepth 100000 in
theorem tab46:tb.code 46=some ⟨19,[(2,none)],body46⟩:=by kernel_rfl
theorem zCE (h:AHeap) (sig:Int) (vb:Value) (l:List LBlk) (s:SlB h vb l) (hl:l.length≤1000) (hb:∀ b∈l,b.ins.length≤1000):
  WC Tryz.prog tb 46 [.agg #[I sig,vb]] h fun r h'=>r=I (zW l)∧Ext h h':=by
 refine WC.of (zG 46) tab46 ?_;simp only[zN,Nat.zero_add,Nat.reduceAdd]
 refine go ?_
 refine WO.bx ?_
 intro p h1 e1 o1
 have s1:=s.ext e1
 refine go ?_
 refine WX.loopA [9,10,11,4,12,13,14,15,16,2,17,8] (by kernel_rfl) (fun i=>l.length - i) (fun i t h2=>Ext h1 h2∧zB t 8=I i∧i≤l.length∧zB t 2=I (zW (l.take i))∧0≤zW (l.take i)∧zW (l.take i)≤1000 * i) 0 ?_ ?_
 ·exact⟨Ext.refl _,sl_,Nat.zero_le _,sl_,by simp[zW],by simp[zW]⟩
 rintro i t h2 hsame ⟨e2,s8,hi,s2,hm,hn⟩
 have s3:=s1.ext e2
 refine go ?_
 refine WX.br (fun hc=> ?_) (fun hc=> ?_)<;>simp only[DB]at hc
 ·have hi':i<l.length:=by omega
  obtain⟨cs,⟨vi,rfl,si,hsi⟩,pc,hs⟩:=zX s3 hi'
  obtain⟨_,_,_,rfl⟩:=zE si
  have hbi:(l.getD i default).ins.length≤1000:=hb _ (by simp[List.getD,List.getElem?_eq_getElem hi'])
  refine go ?_
  refine WO.al ?_
  intro p4 h3 e3 o3
  refine WO.stC0 o3 e3 ?_
  intro h4 e4 o4 _
  have si:=SlN.ext si e4
  refine go ?_
  have e:zW (l.take (i+1))=zW (l.take i)+((l.getD i default).ins.length:Int):=by
   unfold zW
   rw[List.take_add_one,List.map_append,List.sum_append];simp[List.getD,List.getElem?_eq_getElem hi']
  exact zA (i+1) (by omega) ⟨e2.trans e4,sln,by omega,by rw[e];exact sl_,by omega,by omega⟩
 ·refine go ?_
  refine rt ?_
  have:i=l.length:=by omega
  subst this
  exact⟨by simp[one],e1.trans e2⟩
end Go.Proofs.YtdcgdfbblnljjaaGreatDoor
namespace Go.Proofs.YtdcgdfbblnljjaaGreatDoor
open Go.Am
set_option linter.unusedVariables false
set_option linter.unusedSimpArgs false
set_option maxHeartbeats 4000000
noncomputable def body88:ACode:=(.seq (.region [⟨some 2,none,(.box (.tmp 0))⟩,⟨some 3,none,(.box (.tmp 1))⟩,⟨some 4,none,(.mov (.const (.bool false)))⟩]) (.seq (.seq (.region [⟨some 5,none,(.fld 0 (.tmp 2))⟩,⟨some 6,none,(.load false 1 (.tmp 5))⟩]) (.block 0 (.seq (.region [⟨some 8,none,(.bin .eql (.tmp 6) (.const (.int .u8 1)))⟩,⟨some 7,none,(.mov (.tmp 8))⟩]) (.cond (.tmp 7) (.seq (.region [⟨some 9,none,(.load true 4 (.tmp 2))⟩,⟨some 10,none,(.fld 0 (.tmp 2))⟩,⟨some 11,none,(.load false 1 (.tmp 10))⟩,⟨some 12,none,(.fld 2 (.tmp 2))⟩,⟨some 13,none,(.load false 1 (.tmp 12))⟩,⟨some 14,none,(.build [(.int .u8 0),(.int .i64 0),(.int .i64 0),(.int .i64 0)] [(0,1,(.tmp 11)),(2,1,(.tmp 13))])⟩,⟨some 15,none,(.binP .eql 56 (.tmp 9) (.tmp 14))⟩,⟨some 16,none,(.mov (.tmp 15))⟩,⟨some 17,some (16,true),(.fld 2 (.tmp 2))⟩,⟨some 18,some (16,true),(.load false 1 (.tmp 17))⟩,⟨some 19,some (16,true),(.fld 3 (.tmp 3))⟩,⟨some 20,some (16,true),(.load false 1 (.tmp 19))⟩,⟨some 21,some (16,true),(.call (.func 45) [(.tmp 18),(.tmp 20)])⟩,⟨some 22,none,(.pick (.tmp 16) (.tmp 21) (.const (.bool false)))⟩,⟨some 4,none,(.mov (.tmp 22))⟩]) .ret) (.seq (.region [⟨some 24,none,(.bin .eql (.tmp 6) (.const (.int .u8 2)))⟩,⟨some 23,none,(.mov (.tmp 24))⟩]) (.cond (.tmp 23) (.seq (.region [⟨some 25,none,(.fld 1 (.tmp 2))⟩,⟨some 26,none,(.load false 1 (.tmp 25))⟩,⟨some 27,none,(.fld 2 (.tmp 3))⟩,⟨some 28,none,(.load false 1 (.tmp 27))⟩,⟨some 29,none,(.call (.func 45) [(.tmp 26),(.tmp 28)])⟩,⟨some 30,none,(.mov (.tmp 29))⟩,⟨some 31,some (30,true),(.fld 2 (.tmp 2))⟩,⟨some 32,some (30,true),(.load false 1 (.tmp 31))⟩,⟨some 33,some (30,true),(.fld 3 (.tmp 3))⟩,⟨some 34,some (30,true),(.load false 1 (.tmp 33))⟩,⟨some 35,some (30,true),(.call (.func 45) [(.tmp 32),(.tmp 34)])⟩,⟨some 36,none,(.pick (.tmp 30) (.tmp 35) (.const (.bool false)))⟩,⟨some 37,none,(.mov (.tmp 36))⟩,⟨some 38,some (37,true),(.fld 3 (.tmp 2))⟩,⟨some 39,some (37,true),(.load false 1 (.tmp 38))⟩,⟨some 40,some (37,true),(.fld 3 (.tmp 3))⟩,⟨some 41,some (37,true),(.load false 1 (.tmp 40))⟩,⟨some 42,some (37,true),(.call (.func 45) [(.tmp 39),(.tmp 41)])⟩,⟨some 43,none,(.pick (.tmp 37) (.tmp 42) (.const (.bool false)))⟩,⟨some 4,none,(.mov (.tmp 43))⟩]) .ret) (.seq (.region [⟨some 45,none,(.bin .eql (.tmp 6) (.const (.int .u8 3)))⟩,⟨some 44,none,(.mov (.tmp 45))⟩]) (.cond (.tmp 44) (.seq (.region [⟨some 46,none,(.load true 4 (.tmp 2))⟩,⟨some 47,none,(.fld 0 (.tmp 2))⟩,⟨some 48,none,(.load false 1 (.tmp 47))⟩,⟨some 49,none,(.fld 1 (.tmp 2))⟩,⟨some 50,none,(.load false 1 (.tmp 49))⟩,⟨some 51,none,(.build [(.int .u8 0),(.int .i64 0),(.int .i64 0),(.int .i64 0)] [(0,1,(.tmp 48)),(1,1,(.tmp 50))])⟩,⟨some 52,none,(.binP .eql 56 (.tmp 46) (.tmp 51))⟩,⟨some 53,none,(.mov (.tmp 52))⟩,⟨some 54,some (53,true),(.fld 1 (.tmp 2))⟩,⟨some 55,some (53,true),(.load false 1 (.tmp 54))⟩,⟨some 56,some (53,true),(.fld 2 (.tmp 3))⟩,⟨some 57,some (53,true),(.load false 1 (.tmp 56))⟩,⟨some 58,some (53,true),(.call (.func 45) [(.tmp 55),(.tmp 57)])⟩,⟨some 59,none,(.pick (.tmp 53) (.tmp 58) (.const (.bool false)))⟩,⟨some 4,none,(.mov (.tmp 59))⟩]) .ret) .skip)))))))) (.seq (.region [⟨some 4,none,(.mov (.const (.bool false)))⟩]) .ret)))
set_option maxRecDepth 100000 in
theorem tab88:tb.code 88=some ⟨60,[(4,none)],body88⟩:=by kernel_rfl
theorem end_ok (h:AHeap) (x:LEnd) (s:LSz):
  WC Tryz.prog tb 88 [.agg #[.int .u8 x.kind,I x.a,I x.to,I x.els],.agg #[I s.types,I s.funcs,I s.regs,I s.blocks]] h fun r h'=>r= .bool (Yw x s)∧Ext h h':=by
 refine WC.of (zG 88) tab88 ?_;simp only[zN,Nat.zero_add,Nat.reduceAdd]
 refine go ?_
 refine WO.bx ?_
 intro p2 h1 e1 o1
 refine WO.bx ?_
 intro p3 h2 e2 o2
 have o1:=o1.ext e2
 refine go ?_
 refine WX.br (fun hb=> ?_) (fun hb=> ?_)<;>simp only[DB]at hb<;>refine go ?_
 ·refine WO.bp (zF3 (xs:=#[.int .u8 x.kind,I x.a,I x.to,I x.els]) (ys:=#[.int .u8 x.kind,I 0,I x.to,I 0]) (b:=decide (x.a=0)&&decide (x.els=0)) (by kernel_rfl) (by simp[YX,zC6,I];rw[Bool.eq_iff_iff];simp)) ?_
  refine go ?_
  refine WO.sp (fun hc=> ?_) (fun hc=> ?_)<;>refine go ?_
  ·refine WO.con (yd h2 x.to s.blocks) ?_
   rintro _ _ ⟨rfl,rfl⟩
   refine go ?_
   refine rt ?_
   exact⟨by simp only[Yw,if_pos hb,hc,Bool.true_and];rfl,e1.trans e2⟩
  ·refine rt ?_
   exact⟨by simp only[Yw,if_pos hb,hc,Bool.false_and];rfl,e1.trans e2⟩
 refine WX.br (fun hb2=> ?_) (fun hb2=> ?_)<;>simp only[DB]at hb2<;>refine go ?_
 ·refine WO.con (yd h2 x.a s.regs) ?_
  rintro _ _ ⟨rfl,rfl⟩
  refine go ?_
  refine WO.sp (fun hc=> ?_) (fun hc=> ?_)<;>refine go ?_
  ·refine WO.con (yd h2 x.to s.blocks) ?_
   rintro _ _ ⟨rfl,rfl⟩
   refine go ?_
   refine WO.sp (fun hd=> ?_) (fun hd=> ?_)<;>refine go ?_
   ·refine WO.con (yd h2 x.els s.blocks) ?_
    rintro _ _ ⟨rfl,rfl⟩
    refine go ?_
    refine rt ?_
    exact⟨by simp only[Yw,if_neg hb,if_pos hb2,hc,hd,Bool.true_and];rfl,e1.trans e2⟩
   ·refine rt ?_
    exact⟨by simp only[Yw,if_neg hb,if_pos hb2,hc,hd,Bool.true_and,Bool.false_and];rfl,e1.trans e2⟩
  ·refine rt ?_
   exact⟨by simp only[Yw,if_neg hb,if_pos hb2,hc,Bool.true_and,Bool.false_and];rfl,e1.trans e2⟩
 refine WX.br (fun hb3=> ?_) (fun hb3=> ?_)<;>simp only[DB]at hb3<;>refine go ?_
 ·refine WO.bp (zF3 (xs:=#[.int .u8 x.kind,I x.a,I x.to,I x.els]) (ys:=#[.int .u8 x.kind,I x.a,I 0,I 0]) (b:=decide (x.to=0)&&decide (x.els=0)) (by kernel_rfl) (by simp[YX,zC6,I];rw[Bool.eq_iff_iff];simp)) ?_
  refine go ?_
  refine WO.sp (fun hc=> ?_) (fun hc=> ?_)<;>refine go ?_
  ·refine WO.con (yd h2 x.a s.regs) ?_
   rintro _ _ ⟨rfl,rfl⟩
   refine go ?_
   refine rt ?_
   exact⟨by simp only[Yw,if_neg hb,if_neg hb2,if_pos hb3,hc,Bool.true_and];rfl,e1.trans e2⟩
  ·refine rt ?_
   exact⟨by simp only[Yw,if_neg hb,if_neg hb2,if_pos hb3,hc,Bool.false_and];rfl,e1.trans e2⟩
 ·refine rt ?_
  exact⟨by simp only[Yw,if_neg hb,if_neg hb2,if_neg hb3];rfl,e1.trans e2⟩
noncomputable def body84:ACode:=(.seq (.region [⟨some 2,none,(.box (.tmp 0))⟩,⟨some 3,none,(.box (.tmp 1))⟩,⟨some 4,none,(.mov (.const (.bool false)))⟩]) (.seq (.region [⟨some 8,none,(.fld 0 (.tmp 2))⟩,⟨some 9,none,(.load false 1 (.tmp 8))⟩,⟨some 10,none,(.call (.func 110) [(.tmp 9)])⟩,⟨some 5,none,(.alloc [(.bool false),(.bool false),(.bool false),(.bool false),(.bool false),(.bool false)])⟩,⟨none,none,(.store 6 (.tmp 5) (.tmp 10))⟩]) (.seq (.seq (.region [⟨some 11,none,(.load true 6 (.tmp 5))⟩,⟨some 12,none,(.build [(.bool false),(.bool false),(.bool false),(.bool false),(.bool false),(.bool false)] [])⟩,⟨some 13,none,(.binP .eql 167 (.tmp 11) (.tmp 12))⟩,⟨some 14,none,(.mov (.tmp 13))⟩,⟨some 15,some (14,false),(.fld 0 (.tmp 5))⟩,⟨some 16,some (14,false),(.load false 1 (.tmp 15))⟩,⟨some 17,some (14,false),(.mov (.tmp 16))⟩,⟨some 18,some (17,true),(.fld 2 (.tmp 2))⟩,⟨some 19,some (17,true),(.load false 1 (.tmp 18))⟩,⟨some 20,some (17,true),(.fld 2 (.tmp 3))⟩,⟨some 21,some (17,true),(.load false 1 (.tmp 20))⟩,⟨some 22,some (17,true),(.call (.func 45) [(.tmp 19),(.tmp 21)])⟩,⟨some 23,some (17,true),(.un .not (.tmp 22))⟩,⟨some 24,some (14,false),(.pick (.tmp 17) (.tmp 23) (.const (.bool false)))⟩,⟨some 25,none,(.pick (.tmp 14) (.const (.bool true)) (.tmp 24))⟩,⟨some 26,none,(.mov (.tmp 25))⟩,⟨some 27,some (26,false),(.fld 1 (.tmp 5))⟩,⟨some 28,some (26,false),(.load false 1 (.tmp 27))⟩,⟨some 29,some (26,false),(.mov (.tmp 28))⟩,⟨some 30,some (29,true),(.fld 3 (.tmp 2))⟩,⟨some 31,some (29,true),(.load false 1 (.tmp 30))⟩,⟨some 32,some (29,true),(.fld 2 (.tmp 3))⟩,⟨some 33,some (29,true),(.load false 1 (.tmp 32))⟩,⟨some 34,some (29,true),(.call (.func 45) [(.tmp 31),(.tmp 33)])⟩,⟨some 35,some (29,true),(.un .not (.tmp 34))⟩,⟨some 36,some (26,false),(.pick (.tmp 29) (.tmp 35) (.const (.bool false)))⟩,⟨some 37,none,(.pick (.tmp 26) (.const (.bool true)) (.tmp 36))⟩,⟨some 38,none,(.mov (.tmp 37))⟩,⟨some 39,some (38,false),(.fld 5 (.tmp 2))⟩,⟨some 40,some (38,false),(.load false 1 (.tmp 39))⟩,⟨some 41,some (38,false),(.fld 2 (.tmp 3))⟩,⟨some 42,some (38,false),(.load false 1 (.tmp 41))⟩,⟨some 43,some (38,false),(.call (.func 111) [(.tmp 40),(.tmp 42)])⟩,⟨some 44,some (38,false),(.un .not (.tmp 43))⟩,⟨some 45,none,(.pick (.tmp 38) (.const (.bool true)) (.tmp 44))⟩,⟨some 46,none,(.mov (.tmp 45))⟩,⟨some 47,some (46,false),(.load true 7 (.tmp 2))⟩,⟨some 48,some (46,false),(.load true 4 (.tmp 3))⟩,⟨some 49,some (46,false),(.call (.func 112) [(.tmp 47),(.tmp 48)])⟩,⟨some 50,some (46,false),(.un .not (.tmp 49))⟩,⟨some 51,none,(.pick (.tmp 46) (.const (.bool true)) (.tmp 50))⟩]) (.cond (.tmp 51) (.seq (.region [⟨some 4,none,(.mov (.const (.bool false)))⟩]) .ret) .skip)) (.seq (.region [⟨some 52,none,(.fld 0 (.tmp 5))⟩,⟨some 53,none,(.load false 1 (.tmp 52))⟩,⟨some 54,none,(.un .not (.tmp 53))⟩,⟨some 55,none,(.mov (.tmp 54))⟩,⟨some 56,some (55,true),(.fld 2 (.tmp 2))⟩,⟨some 57,some (55,true),(.load false 1 (.tmp 56))⟩,⟨some 58,some (55,true),(.bin .neq (.tmp 57) (.const (.int .i64 0)))⟩,⟨some 59,none,(.pick (.tmp 55) (.tmp 58) (.const (.bool false)))⟩,⟨some 60,none,(.mov (.tmp 59))⟩,⟨some 61,some (60,false),(.fld 1 (.tmp 5))⟩,⟨some 62,some (60,false),(.load false 1 (.tmp 61))⟩,⟨some 63,some (60,false),(.un .not (.tmp 62))⟩,⟨some 64,some (60,false),(.mov (.tmp 63))⟩,⟨some 65,some (64,true),(.fld 3 (.tmp 2))⟩,⟨some 66,some (64,true),(.load false 1 (.tmp 65))⟩,⟨some 67,some (64,true),(.bin .neq (.tmp 66) (.const (.int .i64 0)))⟩,⟨some 68,some (60,false),(.pick (.tmp 64) (.tmp 67) (.const (.bool false)))⟩,⟨some 69,none,(.pick (.tmp 60) (.const (.bool true)) (.tmp 68))⟩,⟨some 70,none,(.mov (.tmp 69))⟩,⟨some 71,some (70,false),(.fld 2 (.tmp 5))⟩,⟨some 72,some (70,false),(.load false 1 (.tmp 71))⟩,⟨some 73,some (70,false),(.un .not (.tmp 72))⟩,⟨some 74,some (70,false),(.mov (.tmp 73))⟩,⟨some 75,some (74,true),(.fld 4 (.tmp 2))⟩,⟨some 76,some (74,true),(.load false 1 (.tmp 75))⟩,⟨some 77,some (74,true),(.bin .neq (.tmp 76) (.const (.int .i64 0)))⟩,⟨some 78,some (70,false),(.pick (.tmp 74) (.tmp 77) (.const (.bool false)))⟩,⟨some 79,none,(.pick (.tmp 70) (.const (.bool true)) (.tmp 78))⟩,⟨some 80,none,(.mov (.tmp 79))⟩,⟨some 81,some (80,false),(.fld 3 (.tmp 5))⟩,⟨some 82,some (80,false),(.load false 1 (.tmp 81))⟩,⟨some 83,some (80,false),(.un .not (.tmp 82))⟩,⟨some 84,some (80,false),(.mov (.tmp 83))⟩,⟨some 85,some (84,true),(.fld 5 (.tmp 2))⟩,⟨some 86,some (84,true),(.load false 1 (.tmp 85))⟩,⟨some 87,some (84,true),(.len (.tmp 86))⟩,⟨some 88,some (84,true),(.bin .gtr (.tmp 87) (.const (.int .i64 0)))⟩,⟨some 89,some (80,false),(.pick (.tmp 84) (.tmp 88) (.const (.bool false)))⟩,⟨some 90,none,(.pick (.tmp 80) (.const (.bool true)) (.tmp 89))⟩,⟨some 91,none,(.mov (.tmp 90))⟩,⟨some 92,some (91,false),(.fld 4 (.tmp 5))⟩,⟨some 93,some (91,false),(.load false 1 (.tmp 92))⟩,⟨some 94,some (91,false),(.un .not (.tmp 93))⟩,⟨some 95,some (91,false),(.mov (.tmp 94))⟩,⟨some 96,some (95,true),(.fld 6 (.tmp 2))⟩,⟨some 97,some (95,true),(.load false 1 (.tmp 96))⟩,⟨some 98,some (95,true),(.len (.tmp 97))⟩,⟨some 99,some (95,true),(.bin .gtr (.tmp 98) (.const (.int .i64 0)))⟩,⟨some 100,some (91,false),(.pick (.tmp 95) (.tmp 99) (.const (.bool false)))⟩,⟨some 101,none,(.pick (.tmp 91) (.const (.bool true)) (.tmp 100))⟩,⟨some 6,none,(.mov (.tmp 101))⟩]) (.seq (.region [⟨some 102,none,(.fld 5 (.tmp 5))⟩,⟨some 103,none,(.load false 1 (.tmp 102))⟩,⟨some 104,none,(.mov (.tmp 103))⟩,⟨some 105,some (104,true),(.fld 1 (.tmp 2))⟩,⟨some 106,some (104,true),(.load false 1 (.tmp 105))⟩,⟨some 107,some (104,true),(.fld 0 (.tmp 3))⟩,⟨some 108,some (104,true),(.load false 1 (.tmp 107))⟩,⟨some 109,some (104,true),(.call (.func 45) [(.tmp 106),(.tmp 108)])⟩,⟨some 110,none,(.pick (.tmp 104) (.tmp 109) (.const (.bool false)))⟩,⟨some 111,none,(.mov (.tmp 110))⟩,⟨some 112,some (111,false),(.fld 5 (.tmp 5))⟩,⟨some 113,some (111,false),(.load false 1 (.tmp 112))⟩,⟨some 114,some (111,false),(.un .not (.tmp 113))⟩,⟨some 115,some (111,false),(.mov (.tmp 114))⟩,⟨some 116,some (115,true),(.fld 1 (.tmp 2))⟩,⟨some 117,some (115,true),(.load false 1 (.tmp 116))⟩,⟨some 118,some (115,true),(.bin .eql (.tmp 117) (.const (.int .i64 0)))⟩,⟨some 119,some (111,false),(.pick (.tmp 115) (.tmp 118) (.const (.bool false)))⟩,⟨some 120,none,(.pick (.tmp 111) (.const (.bool true)) (.tmp 119))⟩,⟨some 7,none,(.mov (.tmp 120))⟩]) (.seq (.seq (.region [⟨some 121,none,(.fld 4 (.tmp 5))⟩,⟨some 122,none,(.load false 1 (.tmp 121))⟩]) (.cond (.tmp 122) (.seq (.region [⟨some 123,none,(.mov (.tmp 6))⟩,⟨some 124,none,(.un .not (.tmp 123))⟩,⟨some 125,none,(.mov (.tmp 124))⟩,⟨some 126,some (125,true),(.mov (.tmp 7))⟩,⟨some 127,none,(.pick (.tmp 125) (.tmp 126) (.const (.bool false)))⟩,⟨some 128,none,(.mov (.tmp 127))⟩,⟨some 129,some (128,true),(.fld 6 (.tmp 2))⟩,⟨some 130,some (128,true),(.load false 1 (.tmp 129))⟩,⟨some 131,some (128,true),(.fld 3 (.tmp 3))⟩,⟨some 132,some (128,true),(.load false 1 (.tmp 131))⟩,⟨some 133,some (128,true),(.call (.func 111) [(.tmp 130),(.tmp 132)])⟩,⟨some 134,none,(.pick (.tmp 128) (.tmp 133) (.const (.bool false)))⟩,⟨some 135,none,(.mov (.tmp 134))⟩,⟨some 136,some (135,true),(.fld 6 (.tmp 2))⟩,⟨some 137,some (135,true),(.load false 1 (.tmp 136))⟩,⟨some 138,some (135,true),(.len (.tmp 137))⟩,⟨some 139,some (135,true),(.fld 5 (.tmp 2))⟩,⟨some 140,some (135,true),(.load false 1 (.tmp 139))⟩,⟨some 141,some (135,true),(.len (.tmp 140))⟩,⟨some 142,some (135,true),(.bin .eql (.tmp 138) (.tmp 141))⟩,⟨some 143,none,(.pick (.tmp 135) (.tmp 142) (.const (.bool false)))⟩,⟨some 144,none,(.mov (.tmp 143))⟩,⟨some 145,some (144,true),(.fld 6 (.tmp 2))⟩,⟨some 146,some (144,true),(.load false 1 (.tmp 145))⟩,⟨some 147,some (144,true),(.len (.tmp 146))⟩,⟨some 148,some (144,true),(.bin .geq (.tmp 147) (.const (.int .i64 1)))⟩,⟨some 149,none,(.pick (.tmp 144) (.tmp 148) (.const (.bool false)))⟩,⟨some 150,none,(.mov (.tmp 149))⟩,⟨some 151,some (150,true),(.fld 6 (.tmp 2))⟩,⟨some 152,some (150,true),(.load false 1 (.tmp 151))⟩,⟨some 153,some (150,true),(.len (.tmp 152))⟩,⟨some 154,some (150,true),(.bin .leq (.tmp 153) (.const (.int .i64 16)))⟩,⟨some 155,none,(.pick (.tmp 150) (.tmp 154) (.const (.bool false)))⟩,⟨some 4,none,(.mov (.tmp 155))⟩]) .ret) .skip)) (.seq (.region [⟨some 156,none,(.mov (.tmp 6))⟩,⟨some 157,none,(.un .not (.tmp 156))⟩,⟨some 158,none,(.mov (.tmp 157))⟩,⟨some 159,some (158,true),(.mov (.tmp 7))⟩,⟨some 160,none,(.pick (.tmp 158) (.tmp 159) (.const (.bool false)))⟩,⟨some 161,none,(.mov (.tmp 160))⟩,⟨some 162,some (161,true),(.fld 5 (.tmp 2))⟩,⟨some 163,some (161,true),(.load false 1 (.tmp 162))⟩,⟨some 164,some (161,true),(.len (.tmp 163))⟩,⟨some 165,some (161,true),(.bin .leq (.tmp 164) (.const (.int .i64 4)))⟩,⟨some 166,none,(.pick (.tmp 161) (.tmp 165) (.const (.bool false)))⟩,⟨some 4,none,(.mov (.tmp 166))⟩]) .ret)))))))
set_option maxRecDepth 100000 in
theorem tab84:tb.code 84=some ⟨167,[(4,none)],body84⟩:=by kernel_rfl
theorem ins_ok (h:AHeap) (x:LIns) (va vf:Value) (s:LSz) (T:Tbl h) (sa:SlI h va x.args) (sf:SlI h vf x.frm) (hla:(x.args.length:Int)≤9223372036854775807) (hlf:(x.frm.length:Int)≤9223372036854775807) (ho:0≤x.op∧x.op≤255):
  WC Tryz.prog tb 84 [.agg #[.int .u8 x.op,I x.ty,I x.a,I x.b,I x.n,va,vf],.agg #[I s.types,I s.funcs,I s.regs,I s.blocks]] h fun r h'=>r= .bool (zBY x s)∧Ext h h':=by
 refine WC.of (zG 84) tab84 ?_;simp only[zN,Nat.zero_add,Nat.reduceAdd]
 refine go ?_
 refine WO.bx ?_
 intro p2 h1 e1 o1
 refine WO.bx ?_
 intro p3 h2 e2 o2
 have o1:=o1.ext e2
 have T2:=(T.ext e1).ext e2
 refine go ?_
 refine WO.con (of_ok h2 x.op T2 ho.1 ho.2) ?_
 rintro _ h3 ⟨rfl,e3⟩
 refine go ?_
 refine WO.al ?_
 intro p5 h4 e4 o5
 refine WO.stC0 o5 e4 ?_
 intro h5 e5 o5 _
 have o1:=(o1.ext e3).ext e5
 have o2:=(o2.ext e3).ext e5
 have e15:=((e1.trans e2).trans e3).trans e5
 have sa5:=sa.ext e15
 have sf5:=sf.ext e15
 have hins:zBY x s=zBY x s:=rfl
 conv at hins=>rhs;unfold zBY oddL noneL kindL
 generalize hq:zb x.op=q at *
 obtain⟨qa,qb,qn,qg,qf,qw⟩:=q
 simp only at hins
 refine go ?_
 refine WO.bp (zF3 (xs:=#[.bool qa,.bool qb,.bool qn,.bool qg,.bool qf,.bool qw]) (ys:=#[.bool false,.bool false,.bool false,.bool false,.bool false,.bool false]) (b:=decide ((qa,qb,qn,qg,qf,qw)=(false,false,false,false,false,false))) (by kernel_rfl) (by cases qa<;>cases qb<;>cases qn<;>cases qg<;>cases qf<;>cases qw<;>rfl)) ?_
 replace o5:OwnC h3 h5 p5 [.bool qa,.bool qb,.bool qn,.bool qg,.bool qf,.bool qw]:=o5
 obtain⟨c0,hc0⟩:∃ c:Bool,c=decide ((qa,qb,qn,qg,qf,qw)=(false,false,false,false,false,false)):=⟨_,rfl⟩
 rw[←hc0]at hins
 rw[←hc0]
 refine WO.mid 12 (fun t' h'=>h5=h'∧zB t' 25= .bool (c0||(qa&& !zM x.a s.regs))) ?_ ?_<;>simp only[List.take_succ_cons,List.take_zero,List.drop_succ_cons,List.drop_zero]
 ·refine go ?_
  refine WO.sp (fun hc=> ?_) (fun hc=> ?_)<;>refine go ?_
  ·exact⟨rfl,rfl,rfl,by simp only[hc,Bool.true_and,Bool.false_and,Bool.and_false,Bool.and_true,Bool.false_or,Bool.true_or,Bool.or_false,Bool.or_true,Bool.not_true,Bool.not_false];exact sl_⟩
  refine WO.sp (fun hd=> ?_) (fun hd=> ?_)<;>(try simp only[DB]at hd)<;>refine go ?_
  ·refine WO.con (yd h5 x.a s.regs) ?_
   rintro _ _ ⟨rfl,rfl⟩
   refine go ?_
   exact⟨rfl,rfl,rfl,by simp only[hc,hd,Bool.true_and,Bool.false_and,Bool.and_false,Bool.and_true,Bool.false_or,Bool.true_or,Bool.or_false,Bool.or_true,Bool.not_true,Bool.not_false];exact sl_⟩
  ·exact⟨rfl,rfl,rfl,by simp only[hc,hd,Bool.true_and,Bool.false_and,Bool.and_false,Bool.and_true,Bool.false_or,Bool.true_or,Bool.or_false,Bool.or_true,Bool.not_true,Bool.not_false];exact sl_⟩
 rintro t1 _ hs1 ⟨rfl,s25⟩
 obtain⟨c1,hc1⟩:∃ c:Bool,c=(c0||(qa&& !zM x.a s.regs)):=⟨_,rfl⟩
 rw[←hc1]at s25 hins
 refine WO.mid 12 (fun t' h'=>h5=h'∧zB t' 37= .bool (c1||(qb&& !zM x.b s.regs))) ?_ ?_<;>simp only[List.take_succ_cons,List.take_zero,List.drop_succ_cons,List.drop_zero]
 ·refine go ?_
  refine WO.sp (fun hc=> ?_) (fun hc=> ?_)<;>refine go ?_
  ·exact⟨rfl,rfl,rfl,by simp only[hc,Bool.true_and,Bool.false_and,Bool.and_false,Bool.and_true,Bool.false_or,Bool.true_or,Bool.or_false,Bool.or_true,Bool.not_true,Bool.not_false];exact sl_⟩
  refine WO.sp (fun hd=> ?_) (fun hd=> ?_)<;>(try simp only[DB]at hd)<;>refine go ?_
  ·refine WO.con (yd h5 x.b s.regs) ?_
   rintro _ _ ⟨rfl,rfl⟩
   refine go ?_
   exact⟨rfl,rfl,rfl,by simp only[hc,hd,Bool.true_and,Bool.false_and,Bool.and_false,Bool.and_true,Bool.false_or,Bool.true_or,Bool.or_false,Bool.or_true,Bool.not_true,Bool.not_false];exact sl_⟩
  ·exact⟨rfl,rfl,rfl,by simp only[hc,hd,Bool.true_and,Bool.false_and,Bool.and_false,Bool.and_true,Bool.false_or,Bool.true_or,Bool.or_false,Bool.or_true,Bool.not_true,Bool.not_false];exact sl_⟩
 rintro t2 _ hs2 ⟨rfl,s37⟩
 obtain⟨c2,hc2⟩:∃ c:Bool,c=(c1||(qb&& !zM x.b s.regs)):=⟨_,rfl⟩
 rw[←hc2]at s37 hins
 refine WO.mid 8 (fun t' h'=>Ext h5 h'∧zB t' 45= .bool (c2|| !allL x.args s.regs)) ?_ ?_<;>simp only[List.take_succ_cons,List.take_zero,List.drop_succ_cons,List.drop_zero]
 ·refine go ?_
  refine WO.sp (fun hc=> ?_) (fun hc=> ?_)<;>refine go ?_
  ·exact⟨rfl,rfl,Ext.refl _,by simp only[hc,Bool.true_and,Bool.false_and,Bool.and_false,Bool.and_true,Bool.false_or,Bool.true_or,Bool.or_false,Bool.or_true,Bool.not_true,Bool.not_false];exact sl_⟩
  refine WO.con (all_ok h5 va s.regs x.args sa5 hla) ?_
  rintro _ h6 ⟨rfl,e6⟩
  refine go ?_
  exact⟨rfl,rfl,e6,by simp only[hc,Bool.true_and,Bool.false_and,Bool.and_false,Bool.and_true,Bool.false_or,Bool.true_or,Bool.or_false,Bool.or_true,Bool.not_true,Bool.not_false];exact sl_⟩
 rintro t3 h6 hs3 ⟨e6,s45⟩
 obtain⟨c3,hc3⟩:∃ c:Bool,c=(c2|| !allL x.args s.regs):=⟨_,rfl⟩
 rw[←hc3]at s45 hins
 have o1:=o1.ext e6
 have o2:=o2.ext e6
 have o5:=o5.ext e6
 have sa6:=sa5.ext e6
 have sf6:=sf5.ext e6
 have e16:=e15.trans e6
 refine WO.mid 6 (fun t' h'=>Ext h6 h'∧zB t' 51= .bool (c3|| !YN x s)) ?_ ?_<;>simp only[List.take_succ_cons,List.take_zero,List.drop_succ_cons,List.drop_zero]
 ·refine go ?_
  refine WO.sp (fun hc=> ?_) (fun hc=> ?_)<;>refine go ?_
  ·exact⟨rfl,rfl,Ext.refl _,by simp only[hc,Bool.true_and,Bool.false_and,Bool.and_false,Bool.and_true,Bool.false_or,Bool.true_or,Bool.or_false,Bool.or_true,Bool.not_true,Bool.not_false];exact sl_⟩
  refine WO.con (zG7 h6 x va vf s) ?_
  rintro _ h7 ⟨rfl,e7⟩
  refine go ?_
  exact⟨rfl,rfl,e7,by simp only[hc,Bool.true_and,Bool.false_and,Bool.and_false,Bool.and_true,Bool.false_or,Bool.true_or,Bool.or_false,Bool.or_true,Bool.not_true,Bool.not_false];exact sl_⟩
 rintro t4 h7 hs4 ⟨e7,s51⟩
 obtain⟨c4,hc4⟩:∃ c:Bool,c=(c3|| !YN x s):=⟨_,rfl⟩
 rw[←hc4]at s51 hins
 have o1:=o1.ext e7
 have o2:=o2.ext e7
 have o5:=o5.ext e7
 have sa7:=sa6.ext e7
 have sf7:=sf6.ext e7
 have e17:=e16.trans e7
 refine go ?_
 refine WX.br (fun hz=> ?_) (fun hz=> ?_)<;>rw[hz]at hins
 ·refine go ?_
  refine rt ?_
  exact⟨by rw[hins];rfl,e17⟩
 refine goC ?_
 refine goC ?_
 refine WO.mid 8 (fun t' h'=>h7=h'∧zB t' 59= .bool (!qa&& !decide (x.a=0))) ?_ ?_<;>simp only[List.take_succ_cons,List.take_zero,List.drop_succ_cons,List.drop_zero]
 ·refine go ?_
  refine WO.sp (fun hd=> ?_) (fun hd=> ?_)<;>(try simp only[DB]at hd)<;>refine go ?_
  ·exact⟨rfl,rfl,rfl,by simp only[hd,Bool.true_and,Bool.false_and,Bool.and_false,Bool.and_true,Bool.false_or,Bool.true_or,Bool.or_false,Bool.or_true,Bool.not_true,Bool.not_false];exact sl_⟩
  ·exact⟨rfl,rfl,rfl,by simp only[hd,Bool.true_and,Bool.false_and,Bool.and_false,Bool.and_true,Bool.false_or,Bool.true_or,Bool.or_false,Bool.or_true,Bool.not_true,Bool.not_false];exact sl_⟩
 rintro t5 _ hs5 ⟨rfl,s59⟩
 obtain⟨d0,hd0⟩:∃ c:Bool,c=(!qa&& !decide (x.a=0)):=⟨_,rfl⟩
 rw[←hd0]at s59 hins
 refine goC ?_
 refine WO.mid 10 (fun t' h'=>h7=h'∧zB t' 69= .bool (d0||(!qb&& !decide (x.b=0)))) ?_ ?_<;>simp only[List.take_succ_cons,List.take_zero,List.drop_succ_cons,List.drop_zero]
 ·refine go ?_
  refine WO.sp (fun hc=> ?_) (fun hc=> ?_)<;>refine go ?_
  ·exact⟨rfl,rfl,rfl,by simp only[hc,Bool.true_and,Bool.false_and,Bool.and_false,Bool.and_true,Bool.false_or,Bool.true_or,Bool.or_false,Bool.or_true,Bool.not_true,Bool.not_false];exact sl_⟩
  refine WO.sp (fun hd=> ?_) (fun hd=> ?_)<;>(try simp only[DB]at hd)<;>refine go ?_
  ·exact⟨rfl,rfl,rfl,by simp only[hc,hd,Bool.true_and,Bool.false_and,Bool.and_false,Bool.and_true,Bool.false_or,Bool.true_or,Bool.or_false,Bool.or_true,Bool.not_true,Bool.not_false];exact sl_⟩
  ·exact⟨rfl,rfl,rfl,by simp only[hc,hd,Bool.true_and,Bool.false_and,Bool.and_false,Bool.and_true,Bool.false_or,Bool.true_or,Bool.or_false,Bool.or_true,Bool.not_true,Bool.not_false];exact sl_⟩
 rintro t6 _ hs6 ⟨rfl,s69⟩
 obtain⟨d1,hd1⟩:∃ c:Bool,c=(d0||(!qb&& !decide (x.b=0))):=⟨_,rfl⟩
 rw[←hd1]at s69 hins
 refine goC ?_
 refine WO.mid 10 (fun t' h'=>h7=h'∧zB t' 79= .bool (d1||(!qn&& !decide (x.n=0)))) ?_ ?_<;>simp only[List.take_succ_cons,List.take_zero,List.drop_succ_cons,List.drop_zero]
 ·refine go ?_
  refine WO.sp (fun hc=> ?_) (fun hc=> ?_)<;>refine go ?_
  ·exact⟨rfl,rfl,rfl,by simp only[hc,Bool.true_and,Bool.false_and,Bool.and_false,Bool.and_true,Bool.false_or,Bool.true_or,Bool.or_false,Bool.or_true,Bool.not_true,Bool.not_false];exact sl_⟩
  refine WO.sp (fun hd=> ?_) (fun hd=> ?_)<;>(try simp only[DB]at hd)<;>refine go ?_
  ·exact⟨rfl,rfl,rfl,by simp only[hc,hd,Bool.true_and,Bool.false_and,Bool.and_false,Bool.and_true,Bool.false_or,Bool.true_or,Bool.or_false,Bool.or_true,Bool.not_true,Bool.not_false];exact sl_⟩
  ·exact⟨rfl,rfl,rfl,by simp only[hc,hd,Bool.true_and,Bool.false_and,Bool.and_false,Bool.and_true,Bool.false_or,Bool.true_or,Bool.or_false,Bool.or_true,Bool.not_true,Bool.not_false];exact sl_⟩
 rintro t7 _ hs7 ⟨rfl,s79⟩
 obtain⟨d2,hd2⟩:∃ c:Bool,c=(d1||(!qn&& !decide (x.n=0))):=⟨_,rfl⟩
 rw[←hd2]at s79 hins
 refine goC ?_
 refine WO.mid 11 (fun t' h'=>h7=h'∧zB t' 90= .bool (d2||(!qg&&decide (0<(x.args.length:Int))))) ?_ ?_<;>simp only[List.take_succ_cons,List.take_zero,List.drop_succ_cons,List.drop_zero]
 ·refine go ?_
  refine WO.sp (fun hc=> ?_) (fun hc=> ?_)<;>refine go ?_
  ·exact⟨rfl,rfl,rfl,by simp only[hc,Bool.true_and,Bool.false_and,Bool.and_false,Bool.and_true,Bool.false_or,Bool.true_or,Bool.or_false,Bool.or_true,Bool.not_true,Bool.not_false];exact sl_⟩
  refine WO.sp (fun hd=> ?_) (fun hd=> ?_)<;>(try simp only[DB]at hd)<;>refine go ?_
  ·exact⟨rfl,rfl,rfl,by simp only[hc,hd,Bool.true_and,Bool.false_and,Bool.and_false,Bool.and_true,Bool.false_or,Bool.true_or,Bool.or_false,Bool.or_true,Bool.not_true,Bool.not_false];exact sl_⟩
  ·exact⟨rfl,rfl,rfl,by simp only[hc,hd,Bool.true_and,Bool.false_and,Bool.and_false,Bool.and_true,Bool.false_or,Bool.true_or,Bool.or_false,Bool.or_true,Bool.not_true,Bool.not_false];exact sl_⟩
 rintro t8 _ hs8 ⟨rfl,s90⟩
 obtain⟨d3,hd3⟩:∃ c:Bool,c=(d2||(!qg&&decide (0<(x.args.length:Int)))):=⟨_,rfl⟩
 rw[←hd3]at s90 hins
 refine goC ?_
 refine WO.mid 12 (fun t' h'=>h7=h'∧zB t' 6= .bool (d3||(!qf&&decide (0<(x.frm.length:Int))))) ?_ ?_<;>simp only[List.take_succ_cons,List.take_zero,List.drop_succ_cons,List.drop_zero]
 ·refine go ?_
  refine WO.sp (fun hc=> ?_) (fun hc=> ?_)<;>refine go ?_
  ·exact⟨rfl,rfl,rfl,by simp only[hc,Bool.true_and,Bool.false_and,Bool.and_false,Bool.and_true,Bool.false_or,Bool.true_or,Bool.or_false,Bool.or_true,Bool.not_true,Bool.not_false];exact sl_⟩
  refine WO.sp (fun hd=> ?_) (fun hd=> ?_)<;>(try simp only[DB]at hd)<;>refine go ?_
  ·exact⟨rfl,rfl,rfl,by simp only[hc,hd,Bool.true_and,Bool.false_and,Bool.and_false,Bool.and_true,Bool.false_or,Bool.true_or,Bool.or_false,Bool.or_true,Bool.not_true,Bool.not_false];exact sl_⟩
  ·exact⟨rfl,rfl,rfl,by simp only[hc,hd,Bool.true_and,Bool.false_and,Bool.and_false,Bool.and_true,Bool.false_or,Bool.true_or,Bool.or_false,Bool.or_true,Bool.not_true,Bool.not_false];exact sl_⟩
 rintro t9 _ hs9 ⟨rfl,s6⟩
 obtain⟨d4,hd4⟩:∃ c:Bool,c=(d3||(!qf&&decide (0<(x.frm.length:Int)))):=⟨_,rfl⟩
 rw[←hd4]at s6 hins
 refine goC ?_
 refine WO.mid 9 (fun t' h'=>h7=h'∧zB t' 110= .bool (qw&&zM x.ty s.types)) ?_ ?_<;>simp only[List.take_succ_cons,List.take_zero,List.drop_succ_cons,List.drop_zero]
 ·refine go ?_
  refine WO.sp (fun hd=> ?_) (fun hd=> ?_)<;>(try simp only[DB]at hd)<;>refine go ?_
  ·refine WO.con (yd h7 x.ty s.types) ?_
   rintro _ _ ⟨rfl,rfl⟩
   refine go ?_
   exact⟨rfl,rfl,rfl,by simp only[hd,Bool.true_and,Bool.false_and,Bool.and_false,Bool.and_true,Bool.false_or,Bool.true_or,Bool.or_false,Bool.or_true,Bool.not_true,Bool.not_false];exact sl_⟩
  ·exact⟨rfl,rfl,rfl,by simp only[hd,Bool.true_and,Bool.false_and,Bool.and_false,Bool.and_true,Bool.false_or,Bool.true_or,Bool.or_false,Bool.or_true,Bool.not_true,Bool.not_false];exact sl_⟩
 rintro t10 _ hs10 ⟨rfl,s110⟩
 obtain⟨k0,hk0⟩:∃ c:Bool,c=(qw&&zM x.ty s.types):=⟨_,rfl⟩
 rw[←hk0]at s110 hins
 refine goC ?_
 refine WO.mid 11 (fun t' h'=>h7=h'∧zB t' 7= .bool (k0||(!qw&&decide (x.ty=0)))) ?_ ?_<;>simp only[List.take_succ_cons,List.take_zero,List.drop_succ_cons,List.drop_zero]
 ·refine go ?_
  refine WO.sp (fun hc=> ?_) (fun hc=> ?_)<;>refine go ?_
  ·exact⟨rfl,rfl,rfl,by simp only[hc,Bool.true_and,Bool.false_and,Bool.and_false,Bool.and_true,Bool.false_or,Bool.true_or,Bool.or_false,Bool.or_true,Bool.not_true,Bool.not_false];exact sl_⟩
  refine WO.sp (fun hd=> ?_) (fun hd=> ?_)<;>(try simp only[DB]at hd)<;>refine go ?_
  ·exact⟨rfl,rfl,rfl,by simp only[hc,hd,Bool.true_and,Bool.false_and,Bool.and_false,Bool.and_true,Bool.false_or,Bool.true_or,Bool.or_false,Bool.or_true,Bool.not_true,Bool.not_false];exact sl_⟩
  ·exact⟨rfl,rfl,rfl,by simp only[hc,hd,Bool.true_and,Bool.false_and,Bool.and_false,Bool.and_true,Bool.false_or,Bool.true_or,Bool.or_false,Bool.or_true,Bool.not_true,Bool.not_false];exact sl_⟩
 rintro t11 _ hs11 ⟨rfl,s7⟩
 obtain⟨k1,hk1⟩:∃ c:Bool,c=(k0||(!qw&&decide (x.ty=0))):=⟨_,rfl⟩
 rw[←hk1]at s7 hins
 refine go ?_
 refine WX.br (fun hf=> ?_) (fun hf=> ?_)<;>rw[hf]at hins<;>refine go ?_
 ·refine WO.sp (fun hd=> ?_) (fun hd=> ?_)<;>(try simp only[DB]at hd)<;>refine go ?_
  ·refine WO.sp (fun he=> ?_) (fun he=> ?_)<;>refine go ?_
   ·refine WO.con (all_ok h7 vf s.blocks x.frm sf7 hlf) ?_
    rintro _ h8 ⟨rfl,e8⟩
    have o1:=o1.ext e8
    have sa8:=sa7.ext e8
    have sf8:=sf7.ext e8
    refine go ?_
    refine WO.sp (fun hg=> ?_) (fun hg=> ?_)<;>refine go ?_
    ·refine WO.sp (fun hh=> ?_) (fun hh=> ?_)<;>simp only[DB]at hh<;>refine go ?_
     ·refine WO.sp (fun hi=> ?_) (fun hi=> ?_)<;>simp only[DB]at hi<;>refine go ?_
      ·refine rt ?_
       refine⟨?_,e17.trans e8⟩
       have hdec:decide ((x.frm.length:Int)≤16)=decide (x.frm.length≤16):=by rw[Bool.eq_iff_iff];simp only[decide_eq_true_eq];omega
       rw[hdec,hins,hd,he,hg,decide_eq_true (show x.frm.length=x.args.length by omega),decide_eq_true (show 1≤x.frm.length by omega)];rfl
      ·refine rt ?_
       refine⟨?_,e17.trans e8⟩
       rw[hins,hd,he,hg,decide_eq_true (show x.frm.length=x.args.length by omega),decide_eq_false (show ¬1≤x.frm.length by omega)];rfl
     ·refine rt ?_
      refine⟨?_,e17.trans e8⟩
      rw[hins,hd,he,hg,decide_eq_false (show ¬x.frm.length=x.args.length by omega)];rfl
    ·refine rt ?_
     refine⟨?_,e17.trans e8⟩
     rw[hins,hd,he,hg];rfl
   ·refine rt ?_
    refine⟨?_,e17⟩
    rw[hins,hd,he];rfl
  ·refine rt ?_
   refine⟨?_,e17⟩
   rw[hins,hd];rfl
 ·refine WO.sp (fun hd=> ?_) (fun hd=> ?_)<;>(try simp only[DB]at hd)<;>refine go ?_
  ·refine WO.sp (fun he=> ?_) (fun he=> ?_)<;>refine go ?_
   ·refine rt ?_
    refine⟨?_,e17⟩
    have hdec:decide ((x.args.length:Int)≤4)=decide (x.args.length≤4):=by rw[Bool.eq_iff_iff];simp only[decide_eq_true_eq];omega
    rw[hdec,hins,hd,he];rfl
   ·refine rt ?_
    refine⟨?_,e17⟩
    rw[hins,hd,he];rfl
  ·refine rt ?_
   refine⟨?_,e17⟩
   rw[hins,hd];rfl
end Go.Proofs.YtdcgdfbblnljjaaGreatDoor
namespace Go.Proofs.YtdcgdfbblnljjaaGreatDoor
open Go.Am
set_option linter.unusedVariables false
set_option linter.unusedSimpArgs false
set_option maxHeartbeats 4000000
theorem zL {α:Type} [Inhabited α] {l:List α} {i:Nat} (h:i<l.length):l.getD i default∈l:=by
 simp[List.getD,List.getElem?_eq_getElem h]
theorem yu {α:Type} [Inhabited α] {l:List α} {x:α} (h:x∈l):∃ i,i<l.length∧l.getD i default=x:=by
 obtain⟨i,hi,e⟩:=List.getElem_of_mem h
 exact⟨i,hi,by simp[List.getD,List.getElem?_eq_getElem hi,e]⟩
noncomputable def zIK:ACode:=(.seq (.region [⟨some 9,none,(.bin .lss (.tmp 8) (.tmp 7))⟩]) (.seq (.cond (.tmp 9) .skip (.exit 0)) (.seq (.block 1 (.seq (.region [⟨some 10,none,(.mov (.tmp 8))⟩,⟨some 5,none,(.mov (.tmp 10))⟩]) (.seq (.region [⟨some 11,none,(.mov (.tmp 1))⟩,⟨some 12,none,(.mov (.tmp 0))⟩,⟨some 13,none,(.mov (.tmp 5))⟩,⟨some 14,none,(.idx 7 (.tmp 12) (.tmp 13))⟩,⟨some 15,none,(.load true 7 (.tmp 14))⟩,⟨some 16,none,(.call (.tmp 11) [(.tmp 15)])⟩]) (.cond (.tmp 16) (.seq (.region [⟨some 17,none,(.mov (.tmp 5))⟩,⟨some 4,none,(.mov (.tmp 17))⟩]) .ret) .skip)))) (.region [⟨some 18,none,(.bin .add (.tmp 8) (.const (.int .i64 1)))⟩,⟨some 8,none,(.mov (.tmp 18))⟩]))))
noncomputable def body114:ACode:=(.seq (.region [⟨some 4,none,(.mov (.const (.int .i64 0)))⟩]) (.seq (.seq (.region [⟨some 6,none,(.mov (.tmp 0))⟩,⟨some 7,none,(.len (.tmp 6))⟩,⟨some 8,none,(.mov (.const (.int .i64 0)))⟩]) (.block 0 (.loop zIK))) (.seq (.region [⟨some 4,none,(.mov (.const (.int .i64 (-1))))⟩]) .ret)))
set_option maxRecDepth 100000 in
theorem tab114:tb.code 114=some ⟨19,[(4,none)],body114⟩:=by kernel_rfl
theorem idxf_ins (h:AHeap) (v fv:Value) (l:List LIns) (p:LIns→Bool) (s:SlN h v l) (hl:(l.length:Int)≤9223372036854775807) (hf:∀ x∈l,∀ h1,Ext h h1→∀ cs,RIns h1 cs x→WV Tryz.prog tb fv [.agg cs.toArray] h1 fun r h'=>r= .bool (p x)∧Ext h1 h'):
  WC Tryz.prog tb 114 [v,fv] h fun r h'=>(∃ n:Int,r=I n∧(decide (0≤n))=l.any p)∧Ext h h':=by
 refine WC.of (zG 114) tab114 ?_;simp only[zN,Nat.zero_add,Nat.reduceAdd]
 refine go ?_
 refine WX.loopA [9,10,5,11,12,13,14,15,16,17,4,18,8] (by kernel_rfl) (fun i=>l.length - i) (fun i t h1=>Ext h h1∧zB t 8=I i∧i≤l.length∧∀ j,j<i→p (l.getD j default)=false) 0 ?_ ?_
 ·exact⟨Ext.refl h,sl_,Nat.zero_le _,fun j hj=>absurd hj (Nat.not_lt_zero _)⟩
 rintro i t h1 hsame ⟨e1,s8,hi,hm⟩
 have s1:=SlN.ext s e1
 refine go ?_
 refine WX.br (fun hb=> ?_) (fun hb=> ?_)<;>simp only[DB]at hb
 ·have hi':i<l.length:=by omega
  obtain⟨cs,hcs,pc,hs⟩:=zX s1 hi'
  have hff:=hf _ (zL hi') h1 e1 cs hcs
  obtain⟨va,vf,rfl,hR⟩:=hcs
  refine go ?_
  refine WO.conV hff ?_
  rintro _ h2 ⟨rfl,e2⟩
  refine go ?_
  refine WX.br (fun hb=> ?_) (fun hb=> ?_)
  ·refine go ?_
   refine rt ?_
   refine⟨⟨i,rfl,?_⟩,e1.trans e2⟩
   rw[List.any_eq_true.2 ⟨_,zL hi',hb⟩];simp
  ·refine go ?_
   refine zA (i+1) (by omega) ⟨e1.trans e2,sln,by omega,fun j hj=> ?_⟩
   by_cases e:j=i
   ·subst e;exact hb
   ·exact hm j (by omega)
 ·refine go ?_
  refine rt ?_
  refine⟨⟨-1,rfl,?_⟩,e1⟩
  rw[Zh fun x hx=>by obtain⟨j,hj,rfl⟩:=yu hx;exact hm j (by omega)];rfl
noncomputable def body87:ACode:=(.seq (.region [⟨some 4,none,(.mov (.const (.bool false)))⟩]) (.seq (.region [⟨some 5,none,(.mov (.tmp 0))⟩,⟨some 6,none,(.mov (.tmp 1))⟩,⟨some 7,none,(.call (.func 114) [(.tmp 5),(.tmp 6)])⟩,⟨some 8,none,(.bin .geq (.tmp 7) (.const (.int .i64 0)))⟩,⟨some 4,none,(.mov (.tmp 8))⟩]) .ret))
set_option maxRecDepth 100000 in
theorem tab87:tb.code 87=some ⟨9,[(4,none)],body87⟩:=by kernel_rfl
theorem conf_ins (h:AHeap) (v fv:Value) (l:List LIns) (p:LIns→Bool) (s:SlN h v l) (hl:(l.length:Int)≤9223372036854775807) (hf:∀ x∈l,∀ h1,Ext h h1→∀ cs,RIns h1 cs x→WV Tryz.prog tb fv [.agg cs.toArray] h1 fun r h'=>r= .bool (p x)∧Ext h1 h'):
  WC Tryz.prog tb 87 [v,fv] h fun r h'=>r= .bool (l.any p)∧Ext h h':=by
 refine WC.of (zG 87) tab87 ?_;simp only[zN,Nat.zero_add,Nat.reduceAdd]
 refine go ?_
 refine WO.con (idxf_ins h v fv l p s hl hf) ?_
 rintro _ h1 ⟨⟨n,rfl,e⟩,e1⟩
 refine go ?_
 refine rt ?_
 exact⟨by rw[←e];rfl,e1⟩
noncomputable def zHX:ACode:=(.seq (.region [⟨some 9,none,(.bin .lss (.tmp 8) (.tmp 7))⟩]) (.seq (.cond (.tmp 9) .skip (.exit 0)) (.seq (.block 1 (.seq (.region [⟨some 10,none,(.mov (.tmp 8))⟩,⟨some 5,none,(.mov (.tmp 10))⟩]) (.seq (.region [⟨some 11,none,(.mov (.tmp 1))⟩,⟨some 12,none,(.mov (.tmp 0))⟩,⟨some 13,none,(.mov (.tmp 5))⟩,⟨some 14,none,(.idx 5 (.tmp 12) (.tmp 13))⟩,⟨some 15,none,(.load true 5 (.tmp 14))⟩,⟨some 16,none,(.call (.tmp 11) [(.tmp 15)])⟩]) (.cond (.tmp 16) (.seq (.region [⟨some 17,none,(.mov (.tmp 5))⟩,⟨some 4,none,(.mov (.tmp 17))⟩]) .ret) .skip)))) (.region [⟨some 18,none,(.bin .add (.tmp 8) (.const (.int .i64 1)))⟩,⟨some 8,none,(.mov (.tmp 18))⟩]))))
noncomputable def body113:ACode:=(.seq (.region [⟨some 4,none,(.mov (.const (.int .i64 0)))⟩]) (.seq (.seq (.region [⟨some 6,none,(.mov (.tmp 0))⟩,⟨some 7,none,(.len (.tmp 6))⟩,⟨some 8,none,(.mov (.const (.int .i64 0)))⟩]) (.block 0 (.loop zHX))) (.seq (.region [⟨some 4,none,(.mov (.const (.int .i64 (-1))))⟩]) .ret)))
set_option maxRecDepth 100000 in
theorem tab113:tb.code 113=some ⟨19,[(4,none)],body113⟩:=by kernel_rfl
theorem idxf_blk (h:AHeap) (v fv:Value) (l:List LBlk) (p:LBlk→Bool) (s:SlB h v l) (hl:(l.length:Int)≤9223372036854775807) (hf:∀ x∈l,∀ h1,Ext h h1→∀ cs,RBlk h1 cs x→WV Tryz.prog tb fv [.agg cs.toArray] h1 fun r h'=>r= .bool (p x)∧Ext h1 h'):
  WC Tryz.prog tb 113 [v,fv] h fun r h'=>(∃ n:Int,r=I n∧(decide (0≤n))=l.any p)∧Ext h h':=by
 refine WC.of (zG 113) tab113 ?_;simp only[zN,Nat.zero_add,Nat.reduceAdd]
 refine go ?_
 refine WX.loopA [9,10,5,11,12,13,14,15,16,17,4,18,8] (by kernel_rfl) (fun i=>l.length - i) (fun i t h1=>Ext h h1∧zB t 8=I i∧i≤l.length∧∀ j,j<i→p (l.getD j default)=false) 0 ?_ ?_
 ·exact⟨Ext.refl h,sl_,Nat.zero_le _,fun j hj=>absurd hj (Nat.not_lt_zero _)⟩
 rintro i t h1 hsame ⟨e1,s8,hi,hm⟩
 have s1:=SlB.ext s e1
 refine go ?_
 refine WX.br (fun hb=> ?_) (fun hb=> ?_)<;>simp only[DB]at hb
 ·have hi':i<l.length:=by omega
  obtain⟨cs,hcs,pc,hs⟩:=zX s1 hi'
  have hff:=hf _ (zL hi') h1 e1 cs hcs
  obtain⟨va,rfl,hR⟩:=hcs
  refine go ?_
  refine WO.conV hff ?_
  rintro _ h2 ⟨rfl,e2⟩
  refine go ?_
  refine WX.br (fun hb=> ?_) (fun hb=> ?_)
  ·refine go ?_
   refine rt ?_
   refine⟨⟨i,rfl,?_⟩,e1.trans e2⟩
   rw[List.any_eq_true.2 ⟨_,zL hi',hb⟩];simp
  ·refine go ?_
   refine zA (i+1) (by omega) ⟨e1.trans e2,sln,by omega,fun j hj=> ?_⟩
   by_cases e:j=i
   ·subst e;exact hb
   ·exact hm j (by omega)
 ·refine go ?_
  refine rt ?_
  refine⟨⟨-1,rfl,?_⟩,e1⟩
  rw[Zh fun x hx=>by obtain⟨j,hj,rfl⟩:=yu hx;exact hm j (by omega)];rfl
noncomputable def body85:ACode:=(.seq (.region [⟨some 4,none,(.mov (.const (.bool false)))⟩]) (.seq (.region [⟨some 5,none,(.mov (.tmp 0))⟩,⟨some 6,none,(.mov (.tmp 1))⟩,⟨some 7,none,(.call (.func 113) [(.tmp 5),(.tmp 6)])⟩,⟨some 8,none,(.bin .geq (.tmp 7) (.const (.int .i64 0)))⟩,⟨some 4,none,(.mov (.tmp 8))⟩]) .ret))
set_option maxRecDepth 100000 in
theorem tab85:tb.code 85=some ⟨9,[(4,none)],body85⟩:=by kernel_rfl
theorem conf_blk (h:AHeap) (v fv:Value) (l:List LBlk) (p:LBlk→Bool) (s:SlB h v l) (hl:(l.length:Int)≤9223372036854775807) (hf:∀ x∈l,∀ h1,Ext h h1→∀ cs,RBlk h1 cs x→WV Tryz.prog tb fv [.agg cs.toArray] h1 fun r h'=>r= .bool (p x)∧Ext h1 h'):
  WC Tryz.prog tb 85 [v,fv] h fun r h'=>r= .bool (l.any p)∧Ext h h':=by
 refine WC.of (zG 85) tab85 ?_;simp only[zN,Nat.zero_add,Nat.reduceAdd]
 refine go ?_
 refine WO.con (idxf_blk h v fv l p s hl hf) ?_
 rintro _ h1 ⟨⟨n,rfl,e⟩,e1⟩
 refine go ?_
 refine rt ?_
 exact⟨by rw[←e];rfl,e1⟩
noncomputable def body82_0:ACode:=(.seq (.region [⟨some 9,none,(.bin .lss (.tmp 8) (.tmp 7))⟩]) (.seq (.cond (.tmp 9) .skip (.exit 0)) (.seq (.block 1 (.seq (.region [⟨some 10,none,(.mov (.tmp 8))⟩,⟨some 5,none,(.mov (.tmp 10))⟩]) (.seq (.region [⟨some 11,none,(.mov (.tmp 1))⟩,⟨some 12,none,(.mov (.tmp 0))⟩,⟨some 13,none,(.mov (.tmp 5))⟩,⟨some 14,none,(.idx 2 (.tmp 12) (.tmp 13))⟩,⟨some 15,none,(.load true 2 (.tmp 14))⟩,⟨some 16,none,(.call (.tmp 11) [(.tmp 15)])⟩]) (.cond (.tmp 16) (.seq (.region [⟨some 17,none,(.mov (.tmp 5))⟩,⟨some 4,none,(.mov (.tmp 17))⟩]) .ret) .skip)))) (.region [⟨some 18,none,(.bin .add (.tmp 8) (.const (.int .i64 1)))⟩,⟨some 8,none,(.mov (.tmp 18))⟩]))))
noncomputable def body82:ACode:=(.seq (.region [⟨some 4,none,(.mov (.const (.int .i64 0)))⟩]) (.seq (.seq (.region [⟨some 6,none,(.mov (.tmp 0))⟩,⟨some 7,none,(.len (.tmp 6))⟩,⟨some 8,none,(.mov (.const (.int .i64 0)))⟩]) (.block 0 (.loop body82_0))) (.seq (.region [⟨some 4,none,(.mov (.const (.int .i64 (-1))))⟩]) .ret)))
set_option maxRecDepth 100000 in
theorem tab82:tb.code 82=some ⟨19,[(4,none)],body82⟩:=by kernel_rfl
theorem idxf_fn (h:AHeap) (v fv:Value) (l:List LFn) (p:LFn→Bool) (s:SlF h v l) (hl:(l.length:Int)≤9223372036854775807) (hf:∀ x∈l,∀ h1,Ext h h1→∀ cs,RFn h1 cs x→WV Tryz.prog tb fv [.agg cs.toArray] h1 fun r h'=>r= .bool (p x)∧Ext h1 h'):
  WC Tryz.prog tb 82 [v,fv] h fun r h'=>(∃ n:Int,r=I n∧(decide (0≤n))=l.any p)∧Ext h h':=by
 refine WC.of (zG 82) tab82 ?_;simp only[zN,Nat.zero_add,Nat.reduceAdd]
 refine go ?_
 refine WX.loopA [9,10,5,11,12,13,14,15,16,17,4,18,8] (by kernel_rfl) (fun i=>l.length - i) (fun i t h1=>Ext h h1∧zB t 8=I i∧i≤l.length∧∀ j,j<i→p (l.getD j default)=false) 0 ?_ ?_
 ·exact⟨Ext.refl h,sl_,Nat.zero_le _,fun j hj=>absurd hj (Nat.not_lt_zero _)⟩
 rintro i t h1 hsame ⟨e1,s8,hi,hm⟩
 have s1:=SlF.ext s e1
 refine go ?_
 refine WX.br (fun hb=> ?_) (fun hb=> ?_)<;>simp only[DB]at hb
 ·have hi':i<l.length:=by omega
  obtain⟨cs,hcs,pc,hs⟩:=zX s1 hi'
  have hff:=hf _ (zL hi') h1 e1 cs hcs
  obtain⟨va,rfl,hR⟩:=hcs
  refine go ?_
  refine WO.conV hff ?_
  rintro _ h2 ⟨rfl,e2⟩
  refine go ?_
  refine WX.br (fun hb=> ?_) (fun hb=> ?_)
  ·refine go ?_
   refine rt ?_
   refine⟨⟨i,rfl,?_⟩,e1.trans e2⟩
   rw[List.any_eq_true.2 ⟨_,zL hi',hb⟩];simp
  ·refine go ?_
   refine zA (i+1) (by omega) ⟨e1.trans e2,sln,by omega,fun j hj=> ?_⟩
   by_cases e:j=i
   ·subst e;exact hb
   ·exact hm j (by omega)
 ·refine go ?_
  refine rt ?_
  refine⟨⟨-1,rfl,?_⟩,e1⟩
  rw[Zh fun x hx=>by obtain⟨j,hj,rfl⟩:=yu hx;exact hm j (by omega)];rfl
noncomputable def body72:ACode:=(.seq (.region [⟨some 4,none,(.mov (.const (.bool false)))⟩]) (.seq (.region [⟨some 5,none,(.mov (.tmp 0))⟩,⟨some 6,none,(.mov (.tmp 1))⟩,⟨some 7,none,(.call (.func 82) [(.tmp 5),(.tmp 6)])⟩,⟨some 8,none,(.bin .geq (.tmp 7) (.const (.int .i64 0)))⟩,⟨some 4,none,(.mov (.tmp 8))⟩]) .ret))
set_option maxRecDepth 100000 in
theorem tab72:tb.code 72=some ⟨9,[(4,none)],body72⟩:=by kernel_rfl
theorem conf_fn (h:AHeap) (v fv:Value) (l:List LFn) (p:LFn→Bool) (s:SlF h v l) (hl:(l.length:Int)≤9223372036854775807) (hf:∀ x∈l,∀ h1,Ext h h1→∀ cs,RFn h1 cs x→WV Tryz.prog tb fv [.agg cs.toArray] h1 fun r h'=>r= .bool (p x)∧Ext h1 h'):
  WC Tryz.prog tb 72 [v,fv] h fun r h'=>r= .bool (l.any p)∧Ext h h':=by
 refine WC.of (zG 72) tab72 ?_;simp only[zN,Nat.zero_add,Nat.reduceAdd]
 refine go ?_
 refine WO.con (idxf_fn h v fv l p s hl hf) ?_
 rintro _ h1 ⟨⟨n,rfl,e⟩,e1⟩
 refine go ?_
 refine rt ?_
 exact⟨by rw[←e];rfl,e1⟩
end Go.Proofs.YtdcgdfbblnljjaaGreatDoor
namespace Go.Proofs.YtdcgdfbblnljjaaGreatDoor
open Go.Am
set_option linter.unusedVariables false
set_option linter.unusedSimpArgs false
set_option maxHeartbeats 4000000
abbrev szV (s:LSz):List Value:=[I s.types,I s.funcs,I s.regs,I s.blocks]
noncomputable def body83:ACode:=(.seq (.region [⟨some 2,none,(.box (.tmp 0))⟩,⟨some 3,none,(.mov (.const (.bool false)))⟩]) (.seq (.region [⟨some 4,none,(.load true 7 (.tmp 2))⟩,⟨some 5,none,(.load true 4 (.tmp 1))⟩,⟨some 6,none,(.call (.func 84) [(.tmp 4),(.tmp 5)])⟩,⟨some 7,none,(.un .not (.tmp 6))⟩,⟨some 3,none,(.mov (.tmp 7))⟩]) .ret))
set_option maxRecDepth 100000 in
theorem tab83:tb.code 83=some ⟨8,[(3,none)],body83⟩:=by kernel_rfl
theorem fn1_ok (h h0:AHeap) (p:Value) (x:LIns) (s:LSz) (cs:List Value) (T:Tbl h) (hR:RIns h cs x) (o:OwnC h0 h p (szV s)):
  WC Tryz.prog tb 83 [.agg cs.toArray,p] h fun r h'=>r= .bool (!zBY x s)∧Ext h h':=by
 obtain⟨va,vf,rfl,sa,sf,hla,hlf,ho⟩:=hR
 refine WC.of (zG 83) tab83 ?_;simp only[zN,Nat.zero_add,Nat.reduceAdd]
 refine go ?_
 refine WO.bx ?_
 intro p2 h1 e1 o1
 have o:=o.ext e1
 refine go ?_
 refine WO.con (ins_ok h1 x va vf s (T.ext e1) (sa.ext e1) (sf.ext e1) (by omega) (by omega) ho) ?_
 rintro _ h2 ⟨rfl,e2⟩
 refine go ?_
 refine rt ?_
 exact⟨rfl,e1.trans e2⟩
noncomputable def body86:ACode:=(.seq (.region [⟨some 3,none,(.box (.tmp 0))⟩,⟨some 4,none,(.mov (.const (.bool false)))⟩]) (.seq (.region [⟨some 5,none,(.fld 0 (.tmp 3))⟩,⟨some 6,none,(.load false 1 (.tmp 5))⟩,⟨some 7,none,(.load false 1 (.tmp 1))⟩,⟨some 8,none,(.call (.func 87) [(.tmp 6),(.tmp 7)])⟩,⟨some 9,none,(.mov (.tmp 8))⟩,⟨some 10,some (9,false),(.fld 1 (.tmp 3))⟩,⟨some 11,some (9,false),(.load true 4 (.tmp 10))⟩,⟨some 12,some (9,false),(.load true 4 (.tmp 2))⟩,⟨some 13,some (9,false),(.call (.func 88) [(.tmp 11),(.tmp 12)])⟩,⟨some 14,some (9,false),(.un .not (.tmp 13))⟩,⟨some 15,none,(.pick (.tmp 9) (.const (.bool true)) (.tmp 14))⟩,⟨some 4,none,(.mov (.tmp 15))⟩]) .ret))
set_option maxRecDepth 100000 in
theorem tab86:tb.code 86=some ⟨16,[(4,none)],body86⟩:=by kernel_rfl
theorem fn2_ok (h h0 h00:AHeap) (p1 p2:Value) (b:LBlk) (s:LSz) (cs:List Value) (T:Tbl h) (hR:RBlk h cs b) (o1:OwnC h0 h p1 [.func (.func 83) #[] #[p2]]) (o2:OwnC h00 h p2 (szV s)):
  WC Tryz.prog tb 86 [.agg cs.toArray,p1,p2] h fun r h'=>r= .bool (zAl b s)∧Ext h h':=by
 obtain⟨vi,rfl,si,hl⟩:=hR
 refine WC.of (zG 86) tab86 ?_;simp only[zN,Nat.zero_add,Nat.reduceAdd]
 refine go ?_
 refine WO.bx ?_
 intro p3 h1 e1 o3
 have o1:=o1.ext e1
 have o2:=o2.ext e1
 have T1:=T.ext e1
 refine go ?_
 refine WO.con (conf_ins h1 vi _ b.ins (fun x=> !zBY x s) (SlN.ext si e1) (by omega) ?_) ?_
 ·intro x hx h2 e2 cs hcs
  exact WV.func (fn1_ok h2 h00 p2 x s cs (T1.ext e2) hcs (o2.ext e2))
 rintro _ h2 ⟨rfl,e2⟩
 have o3:=o3.ext e2
 have o2:=o2.ext e2
 refine go ?_
 refine WO.sp (fun hb=> ?_) (fun hb=> ?_)<;>refine go ?_
 ·refine rt ?_
  exact⟨by simp only[zAl,hb,Bool.true_or];rfl,e1.trans e2⟩
 ·refine WO.con (end_ok h2 b.fin s) ?_
  rintro _ h3 ⟨rfl,e3⟩
  refine go ?_
  refine rt ?_
  exact⟨by simp only[zAl,hb,Bool.false_or];rfl,(e1.trans e2).trans e3⟩
theorem ZO (l:List LBlk):0≤zW l:=by
 unfold zW
 induction l with
 |nil=>simp
 |cons b l ih=>simp only[List.map_cons,List.sum_cons];omega
noncomputable def body74:ACode:=(.seq (.region [⟨some 2,none,(.box (.tmp 0))⟩,⟨some 3,none,(.box (.tmp 1))⟩,⟨some 4,none,(.mov (.const (.bool false)))⟩]) (.seq (.seq (.region [⟨some 7,none,(.fld 0 (.tmp 3))⟩,⟨some 8,none,(.load false 1 (.tmp 7))⟩,⟨some 9,none,(.fld 0 (.tmp 2))⟩,⟨some 10,none,(.load false 1 (.tmp 9))⟩,⟨some 11,none,(.len (.tmp 10))⟩,⟨some 12,none,(.call (.func 45) [(.tmp 8),(.tmp 11)])⟩,⟨some 13,none,(.un .not (.tmp 12))⟩,⟨some 14,none,(.mov (.tmp 13))⟩,⟨some 15,some (14,false),(.fld 0 (.tmp 2))⟩,⟨some 16,some (14,false),(.load false 1 (.tmp 15))⟩,⟨some 17,some (14,false),(.fld 0 (.tmp 3))⟩,⟨some 18,some (14,false),(.load false 1 (.tmp 17))⟩,⟨some 19,some (14,false),(.idx 4 (.tmp 16) (.tmp 18))⟩,⟨some 20,some (14,false),(.fld 0 (.tmp 19))⟩,⟨some 21,some (14,false),(.load false 1 (.tmp 20))⟩,⟨some 22,some (14,false),(.bin .neq (.tmp 21) (.const (.int .u8 3)))⟩,⟨some 23,none,(.pick (.tmp 14) (.const (.bool true)) (.tmp 22))⟩,⟨some 24,none,(.mov (.tmp 23))⟩,⟨some 25,some (24,false),(.fld 1 (.tmp 3))⟩,⟨some 26,some (24,false),(.load false 1 (.tmp 25))⟩,⟨some 27,some (24,false),(.len (.tmp 26))⟩,⟨some 28,some (24,false),(.bin .sub (.tmp 27) (.const (.int .i64 1)))⟩,⟨some 29,some (24,false),(.call (.func 45) [(.tmp 28),(.const (.int .i64 16))])⟩,⟨some 30,some (24,false),(.un .not (.tmp 29))⟩,⟨some 31,none,(.pick (.tmp 24) (.const (.bool true)) (.tmp 30))⟩,⟨some 32,none,(.mov (.tmp 31))⟩,⟨some 33,some (32,false),(.load true 2 (.tmp 3))⟩,⟨some 34,some (32,false),(.call (.func 46) [(.tmp 33)])⟩,⟨some 35,some (32,false),(.bin .gtr (.tmp 34) (.const (.int .i64 128)))⟩,⟨some 36,none,(.pick (.tmp 32) (.const (.bool true)) (.tmp 35))⟩]) (.cond (.tmp 36) (.seq (.region [⟨some 4,none,(.mov (.const (.bool false)))⟩]) .ret) .skip)) (.seq (.regionC [(⟨some 37,none,(.fld 0 (.tmp 2))⟩,[]),(⟨some 38,none,(.load false 1 (.tmp 37))⟩,[]),(⟨some 39,none,(.len (.tmp 38))⟩,[]),(⟨some 40,none,(.fld 1 (.tmp 2))⟩,[]),(⟨some 41,none,(.load false 1 (.tmp 40))⟩,[]),(⟨some 42,none,(.len (.tmp 41))⟩,[]),(⟨some 43,none,(.fld 0 (.tmp 2))⟩,[]),(⟨some 44,none,(.load false 1 (.tmp 43))⟩,[]),(⟨some 45,none,(.fld 0 (.tmp 3))⟩,[]),(⟨some 46,none,(.load false 1 (.tmp 45))⟩,[]),(⟨some 47,none,(.idx 4 (.tmp 44) (.tmp 46))⟩,[]),(⟨some 48,none,(.fld 3 (.tmp 47))⟩,[]),(⟨some 49,none,(.load false 1 (.tmp 48))⟩,[]),(⟨some 50,none,(.len (.tmp 49))⟩,[]),(⟨some 51,none,(.load true 2 (.tmp 3))⟩,[]),(⟨some 52,none,(.call (.func 46) [(.tmp 51)])⟩,[1,4,7,9,12]),(⟨some 53,none,(.bin .add (.tmp 50) (.tmp 52))⟩,[]),(⟨some 54,none,(.fld 1 (.tmp 3))⟩,[]),(⟨some 55,none,(.load false 1 (.tmp 54))⟩,[15]),(⟨some 56,none,(.len (.tmp 55))⟩,[]),(⟨some 57,none,(.build [(.int .i64 0),(.int .i64 0),(.int .i64 0),(.int .i64 0)] [(0,1,(.tmp 39)),(1,1,(.tmp 42)),(2,1,(.tmp 53)),(3,1,(.tmp 56))])⟩,[]),(⟨some 5,none,(.alloc [(.int .i64 0),(.int .i64 0),(.int .i64 0),(.int .i64 0)])⟩,[]),(⟨none,none,(.store 4 (.tmp 5) (.tmp 57))⟩,[])]) (.seq (.region [⟨some 58,none,(.mkFunc (.func 83) [] [(.tmp 5)])⟩,⟨some 6,none,(.alloc [.nilFunc])⟩,⟨none,none,(.store 1 (.tmp 6) (.tmp 58))⟩]) (.seq (.region [⟨some 59,none,(.fld 1 (.tmp 3))⟩,⟨some 60,none,(.load false 1 (.tmp 59))⟩,⟨some 61,none,(.mkFunc (.func 86) [] [(.tmp 6),(.tmp 5)])⟩,⟨some 62,none,(.call (.func 85) [(.tmp 60),(.tmp 61)])⟩,⟨some 63,none,(.un .not (.tmp 62))⟩,⟨some 4,none,(.mov (.tmp 63))⟩]) .ret)))))
set_option maxRecDepth 100000 in
theorem tab74:tb.code 74=some ⟨64,[(4,none)],body74⟩:=by kernel_rfl
theorem fn_ok (h:AHeap) (vt vf vb:Value) (T:List LType) (F:List LFn) (f:LFn) (tt:Tbl h) (hm:h.mark≤h.n) (st:SlT h vt T) (sf:SlF h vf F) (sb:SlB h vb f.blocks) (hT:T.length≤100) (hp:∀ x∈T,x.parts.length≤100) (hF:(F.length:Int)≤9223372036854775807) (hB:f.blocks.length≤1000) (hI:∀ b∈f.blocks,b.ins.length≤1000):
  WC Tryz.prog tb 74 [.agg #[vt,vf],.agg #[I f.sig,vb]] h fun r h'=>r= .bool (fnL T F.length f)∧Ext h h':=by
 refine WC.of (zG 74) tab74 ?_;simp only[zN,Nat.zero_add,Nat.reduceAdd]
 refine go ?_
 refine WO.bx ?_
 intro p2 h1 e1 o1
 refine WO.bx ?_
 intro p3 h2 e2 o2
 have o1:=o1.ext e2
 have e12:=e1.trans e2
 have st2:=st.ext e12
 have sf2:=SlF.ext sf e12
 have sb2:=SlB.ext sb e12
 have tt2:=tt.ext e12
 have hm2:h2.mark≤h2.n:=by have:=e12.mark;have:=e12.n;omega
 have hbad:Yv T f=Yv T f:=rfl
 conv at hbad=>rhs;unfold Yv
 refine go ?_
 refine WO.con (yd h2 f.sig T.length) ?_
 rintro _ _ ⟨rfl,rfl⟩
 refine go ?_
 refine WO.sp (fun hb=> ?_) (fun hb=> ?_)<;>simp only[DB]at hb<;>refine go ?_
 ·refine rt ?_
  refine⟨?_,e12⟩
  rw[fnL,if_pos (show Yv T f=true by rw[hbad,hb];rfl)];rfl
 have hsig:0≤f.sig∧f.sig<(T.length:Int):=by
  unfold zM at hb;simpa using hb
 obtain⟨csT,⟨vp,rfl,sp,hsp⟩,pcT,hsT⟩:=ZR (i:=f.sig.toNat) st2 (by omega)
 have hpx:(T.getD f.sig.toNat default).parts.length≤100:=hp _ (zL (by omega))
 refine go ?_
 refine WO.sp (fun hc=> ?_) (fun hc=> ?_)<;>simp only[DB]at hc<;>refine go ?_
 ·refine rt ?_
  refine⟨?_,e12⟩
  rw[fnL,if_pos (show Yv T f=true by rw[hbad,hb,decide_eq_false hc];rfl)];rfl
 refine WO.con (yd h2 ((f.blocks.length:Int) - 1) 16) ?_
 rintro _ _ ⟨rfl,rfl⟩
 refine go ?_
 refine WO.sp (fun hd=> ?_) (fun hd=> ?_)<;>simp only[DB]at hd<;>refine go ?_
 ·refine rt ?_
  refine⟨?_,e12⟩
  rw[fnL,if_pos (show Yv T f=true by rw[hbad,hb,decide_eq_true hc,hd];rfl)];rfl
 refine WO.con (zCE h2 f.sig vb f.blocks sb2 hB hI) ?_
 rintro _ h3 ⟨rfl,e3⟩
 have e13:=e12.trans e3
 have o1:=o1.ext e3
 have o2:=o2.ext e3
 have st3:=st2.ext e3
 have sf3:=SlF.ext sf2 e3
 have sb3:=SlB.ext sb2 e3
 have tt3:=tt2.ext e3
 have hm3:h3.mark≤h3.n:=by have:=e3.mark;have:=e3.n;omega
 refine go ?_
 refine WX.br (fun he=> ?_) (fun he=> ?_)<;>simp only[DB]at he<;>refine go ?_
 ·refine rt ?_
  refine⟨?_,e13⟩
  rw[fnL,if_pos (show Yv T f=true by rw[hbad,hb,decide_eq_true hc,hd,decide_eq_true he];rfl)];rfl
 refine goC ?_
 have hbadF:Yv T f=false:=by rw[hbad,hb,decide_eq_true hc,hd,decide_eq_false (by omega)];rfl
 obtain⟨a',n',k',rfl⟩:=zE st3
 clear hbad hb hd pcT
 refine WX.regionU2 1 rfl rfl ?_
 have e4:=yY 1 h3
 generalize hqq:zF 1 h3=h4 at *
 have hn4:h4.n=h3.n+1:=by rw[←hqq];rfl
 have o1r:OwnC h (inC h4) p2 [.slice a' n' k',vf]:=by have:=o1.ext e4;exact this
 have o2r:OwnC h1 (inC h4) p3 [I f.sig,vb]:=by have:=o2.ext e4;exact this
 have str:SlT (inC h4) (.slice a' n' k') T:=by have:=st3.ext e4;exact this
 have sfr:SlF (inC h4) vf F:=by have:=SlF.ext sf3 e4;exact this
 have sbr:SlB (inC h4) vb f.blocks:=by have:=SlB.ext sb3 e4;exact this
 obtain⟨csr,⟨vpr,rfl,spr,hspr⟩,pcr,hsr⟩:=ZR (i:=f.sig.toNat) str (by omega)
 refine goU ?_
 refine WO.con (zCE (inC h4) f.sig vb f.blocks sbr hB hI) ?_
 rintro _ h5 ⟨rfl,e5⟩
 refine WO.nil ?_
 refine zAU e5 rfl ?_
 have o1s:OwnC h (inC h5) p2 [.slice a' n' k',vf]:=by have:=o1r.ext e5;exact this
 have o2s:OwnC h1 (inC h5) p3 [I f.sig,vb]:=by have:=o2r.ext e5;exact this
 have sbs:SlB (inC h5) vb f.blocks:=by have:=SlB.ext sbr e5;exact this
 have hmp:=ZO f.blocks
 refine goU ?_
 refine zB8 o2 (by omega) ?_
 refine goU ?_
 have hn5:h3.n<h5.n:=by have:h4.n≤h5.n:=e5.n;omega
 refine WU2.al2 hm3 hn5 ?_
 rw[←hqq]at e5
 have e6:=ext_alst (o:= .row [I 0,I 0,I 0,I 0] true 0) (o':= .row [I (T.length:Int),I (F.length:Int),I (((T.getD f.sig.toNat default).parts.length:Int)+zW f.blocks),I (f.blocks.length:Int)] true 0) (k:=0) e5
 have o5:=own_alst (cs:=[I (T.length:Int),I (F.length:Int),I (((T.getD f.sig.toNat default).parts.length:Int)+zW f.blocks),I (f.blocks.length:Int)]) (o:= .row [I 0,I 0,I 0,I 0] true 0) e5
 unfold zAn
 refine(?_:∀ h6,Ext h3 h6→OwnC h3 h6 (.pointer (some ⟨h3.n,0,none⟩)) (szV (szL T F.length f))→zCW _ _ _ _ _ _ h6) _ e6 o5
 clear e6 o5
 intro h6 e6 o5
 generalize Value.pointer (some ⟨h3.n,0,none⟩)=p5 at *
 have o2:=o2.ext e6
 have sb6:=SlB.ext sb3 e6
 have tt6:=tt3.ext e6
 have e16:=e13.trans e6
 refine go ?_
 refine WO.al ?_
 intro p6 h7 e7 o6
 refine WO.stC0 o6 e7 ?_
 intro h8 e8 o6 _
 have o2:=o2.ext e8
 have o5:=o5.ext e8
 have sb8:=SlB.ext sb6 e8
 have tt8:=tt6.ext e8
 refine go ?_
 refine WO.con (conf_blk h8 vb _ f.blocks (fun b=>zAl b (szL T F.length f)) sb8 (by omega) ?_) ?_
 ·intro b hb h9 e9 cs hcs
  exact WV.func (fn2_ok h9 h6 h3 p6 p5 b (szL T F.length f) cs (tt8.ext e9) hcs (o6.ext e9) (o5.ext e9))
 rintro _ h9 ⟨rfl,e9⟩
 refine go ?_
 refine rt ?_
 exact⟨by rw[fnL,if_neg (by rw[hbadF];exact Bool.noConfusion)];rfl,(e16.trans e8).trans e9⟩
end Go.Proofs.YtdcgdfbblnljjaaGreatDoor
namespace Go.Proofs.YtdcgdfbblnljjaaGreatDoor
open Go.Am
set_option linter.unusedVariables false
set_option linter.unusedSimpArgs false
set_option maxHeartbeats 4000000
theorem zh {h h':AHeap} (e:Ext h h') (hm:h.mark≤h.n):h'.mark≤h'.n:=by have:=e.mark;have:=e.n;omega
noncomputable def body73:ACode:=(.seq (.region [⟨some 2,none,(.box (.tmp 0))⟩,⟨some 3,none,(.mov (.const (.bool false)))⟩]) (.seq (.region [⟨some 4,none,(.load true 2 (.tmp 1))⟩,⟨some 5,none,(.load true 2 (.tmp 2))⟩,⟨some 6,none,(.call (.func 74) [(.tmp 4),(.tmp 5)])⟩,⟨some 7,none,(.un .not (.tmp 6))⟩,⟨some 3,none,(.mov (.tmp 7))⟩]) .ret))
set_option maxRecDepth 100000 in
theorem tab73:tb.code 73=some ⟨8,[(3,none)],body73⟩:=by kernel_rfl
theorem chk1_ok (h h0:AHeap) (p vt vf:Value) (T:List LType) (F:List LFn) (f:LFn) (cs:List Value) (tt:Tbl h) (hm:h.mark≤h.n) (sm:Small T F) (hf:f∈F) (st:SlT h vt T) (sf:SlF h vf F) (hR:RFn h cs f) (o:OwnC h0 h p [vt,vf]):
  WC Tryz.prog tb 73 [.agg cs.toArray,p] h fun r h'=>r= .bool (!fnL T F.length f)∧Ext h h':=by
 obtain⟨vb,rfl,sb,hl⟩:=hR
 refine WC.of (zG 73) tab73 ?_;simp only[zN,Nat.zero_add,Nat.reduceAdd]
 refine go ?_
 refine WO.bx ?_
 intro p2 h1 e1 o1
 have o:=o.ext e1
 refine go ?_
 refine WO.con (fn_ok h1 vt vf vb T F f (tt.ext e1) (zh e1 hm) (st.ext e1) (SlF.ext sf e1) (SlB.ext sb e1) sm.types sm.parts (by have:=sm.funcs;omega) (sm.blocks f hf) (sm.ins f hf)) ?_
 rintro _ h2 ⟨rfl,e2⟩
 refine go ?_
 refine rt ?_
 exact⟨rfl,e1.trans e2⟩
noncomputable def body60:ACode:=(.seq (.region [⟨some 1,none,(.box (.tmp 0))⟩,⟨some 2,none,(.mov (.const (.int .i64 0)))⟩]) (.seq (.seq (.region [⟨some 4,none,(.fld 0 (.tmp 1))⟩,⟨some 5,none,(.load false 1 (.tmp 4))⟩,⟨some 6,none,(.call (.func 71) [(.tmp 5)])⟩,⟨some 3,none,(.mov (.tmp 6))⟩]) (.seq (.region [⟨some 7,none,(.mov (.tmp 3))⟩,⟨some 8,none,(.bin .neq (.tmp 7) (.const (.int .i64 0)))⟩]) (.cond (.tmp 8) (.seq (.region [⟨some 9,none,(.mov (.tmp 3))⟩,⟨some 2,none,(.mov (.tmp 9))⟩]) .ret) .skip))) (.seq (.seq (.region [⟨some 10,none,(.fld 1 (.tmp 1))⟩,⟨some 11,none,(.load false 1 (.tmp 10))⟩,⟨some 12,none,(.len (.tmp 11))⟩,⟨some 13,none,(.bin .sub (.tmp 12) (.const (.int .i64 1)))⟩,⟨some 14,none,(.call (.func 45) [(.tmp 13),(.const (.int .i64 8))])⟩,⟨some 15,none,(.un .not (.tmp 14))⟩,⟨some 16,none,(.mov (.tmp 15))⟩,⟨some 17,some (16,false),(.fld 1 (.tmp 1))⟩,⟨some 18,some (16,false),(.load false 1 (.tmp 17))⟩,⟨some 19,some (16,false),(.mkFunc (.func 73) [] [(.tmp 1)])⟩,⟨some 20,some (16,false),(.call (.func 72) [(.tmp 18),(.tmp 19)])⟩,⟨some 21,none,(.pick (.tmp 16) (.const (.bool true)) (.tmp 20))⟩]) (.cond (.tmp 21) (.seq (.region [⟨some 2,none,(.mov (.const (.int .i64 60)))⟩]) .ret) .skip)) (.seq (.region [⟨some 2,none,(.mov (.const (.int .i64 0)))⟩]) .ret))))
set_option maxRecDepth 100000 in
theorem tab60:tb.code 60=some ⟨22,[(2,none)],body60⟩:=by kernel_rfl
theorem prog_ok (h:AHeap) (vt vf:Value) (T:List LType) (F:List LFn) (tt:Tbl h) (hm:h.mark≤h.n) (sm:Small T F) (st:SlT h vt T) (sf:SlF h vf F):
  WC Tryz.prog tb 60 [.agg #[vt,vf]] h fun r h'=>r=I (ZY T F)∧Ext h h':=by
 refine WC.of (zG 60) tab60 ?_;simp only[zN,Nat.zero_add,Nat.reduceAdd]
 refine go ?_
 refine WO.bx ?_
 intro p h1 e1 o1
 have st1:=st.ext e1
 refine go ?_
 refine WO.con (check_ok h1 vt T st1 sm.types sm.parts) ?_
 rintro _ h2 ⟨rfl,e2⟩
 have e12:=e1.trans e2
 have o1:=o1.ext e2
 have st2:=st1.ext e2
 have sf2:=SlF.ext sf e12
 have tt2:=tt.ext e12
 have hF:=sm.funcs
 refine go ?_
 refine WX.br (fun hb=> ?_) (fun hb=> ?_)<;>simp only[DB]at hb<;>refine go ?_
 ·refine rt ?_
  exact⟨by rw[ZY,if_pos hb];rfl,e12⟩
 refine WO.con (yd h2 ((F.length:Int) - 1) 8) ?_
 rintro _ _ ⟨rfl,rfl⟩
 refine go ?_
 refine WO.sp (fun hc=> ?_) (fun hc=> ?_)<;>simp only[DB]at hc<;>refine go ?_
 ·refine rt ?_
  exact⟨by rw[ZY,if_neg (by omega),hc];simp[one],e12⟩
 refine WO.con (conf_fn h2 vf _ F (fun f=> !fnL T F.length f) sf2 (by omega) ?_) ?_
 ·intro f hf h3 e3 cs hcs
  exact WV.func (chk1_ok h3 h p vt vf T F f cs (tt2.ext e3) (zh (e12.trans e3) hm) sm hf (st2.ext e3) (SlF.ext sf2 e3) hcs (o1.ext e3))
 rintro _ h3 ⟨rfl,e3⟩
 refine go ?_
 refine WX.br (fun hd=> ?_) (fun hd=> ?_)<;>refine go ?_<;>refine rt ?_<;>refine⟨?_,e12.trans e3⟩<;>rw[ZY,if_neg (by omega),hc,hd]
 ·simp[one]
 ·simp[one]
theorem Zp {T:List LType} {F:List LFn} (h:ZY T F=0):Zt T=0∧1≤F.length∧F.length≤8∧∀ f∈F,fnL T F.length f=true:=by
 unfold ZY at h
 split at h
 ·rename_i hc;exact absurd h hc
 ·rename_i hc
  split at h
  ·cases h
  ·rename_i hd
   simp only[Bool.or_eq_true,not_or,Bool.not_eq_true,Bool.not_eq_false']at hd
   have h1:zM ((F.length:Int) - 1) 8=true:=by simpa using hd.1
   unfold zM at h1
   simp only[Bool.and_eq_true,decide_eq_true_eq]at h1
   refine⟨by omega,by omega,by omega,fun f hf=> ?_⟩
   have:=List.any_eq_false.1 hd.2 f hf
   simpa using this
theorem zEH {T:List LType} {n:Int} {f:LFn} (h:fnL T n f=true):0≤f.sig∧f.sig<(T.length:Int):=by
 unfold fnL at h
 split at h
 ·cases h
 ·rename_i hb
  unfold Yv at hb
  simp only[Bool.or_eq_true,not_or,Bool.not_eq_true,Bool.not_eq_false']at hb
  have h1:zM f.sig T.length=true:=by simpa using hb.1.1.1
  unfold zM at h1
  simpa using h1
noncomputable def body44:ACode:=(.seq (.region [⟨some 2,none,(.box (.tmp 0))⟩,⟨some 4,none,(.mov (.const (.int .i64 0)))⟩,⟨some 5,none,(.mov (.const (.int .i64 0)))⟩]) (.seq (.seq (.region [⟨some 7,none,(.load true 2 (.tmp 2))⟩,⟨some 8,none,(.call (.func 60) [(.tmp 7)])⟩,⟨some 6,none,(.mov (.tmp 8))⟩]) (.seq (.region [⟨some 9,none,(.mov (.tmp 6))⟩,⟨some 10,none,(.bin .neq (.tmp 9) (.const (.int .i64 0)))⟩]) (.cond (.tmp 10) (.seq (.region [⟨some 11,none,(.mov (.tmp 6))⟩,⟨some 4,none,(.mov (.const (.int .i64 0)))⟩,⟨some 5,none,(.mov (.tmp 11))⟩]) .ret) .skip))) (.seq (.seq (.region [⟨some 12,none,(.mov (.tmp 1))⟩,⟨some 13,none,(.fld 1 (.tmp 2))⟩,⟨some 14,none,(.load false 1 (.tmp 13))⟩,⟨some 15,none,(.len (.tmp 14))⟩,⟨some 16,none,(.call (.func 45) [(.tmp 12),(.tmp 15)])⟩,⟨some 17,none,(.un .not (.tmp 16))⟩]) (.cond (.tmp 17) (.seq (.region [⟨some 4,none,(.mov (.const (.int .i64 0)))⟩,⟨some 5,none,(.mov (.const (.int .i64 2)))⟩]) .ret) .skip)) (.seq (.regionC [(⟨some 18,none,(.fld 0 (.tmp 2))⟩,[]),(⟨some 19,none,(.load false 1 (.tmp 18))⟩,[]),(⟨some 20,none,(.fld 1 (.tmp 2))⟩,[]),(⟨some 21,none,(.load false 1 (.tmp 20))⟩,[]),(⟨some 22,none,(.mov (.tmp 1))⟩,[]),(⟨some 23,none,(.idx 2 (.tmp 21) (.tmp 22))⟩,[]),(⟨some 24,none,(.fld 0 (.tmp 23))⟩,[]),(⟨some 25,none,(.load false 1 (.tmp 24))⟩,[]),(⟨some 26,none,(.idx 4 (.tmp 19) (.tmp 25))⟩,[]),(⟨some 27,none,(.fld 3 (.tmp 26))⟩,[]),(⟨some 28,none,(.load false 1 (.tmp 27))⟩,[]),(⟨some 29,none,(.len (.tmp 28))⟩,[]),(⟨some 4,none,(.mov (.tmp 29))⟩,[]),(⟨some 5,none,(.mov (.const (.int .i64 0)))⟩,[])]) .ret))))
set_option maxRecDepth 100000 in
theorem tab44:tb.code 44=some ⟨30,[(4,none),(5,none)],body44⟩:=by kernel_rfl
theorem zEk (h:AHeap) (vt vf:Value) (T:List LType) (F:List LFn) (f:Int) (tt:Tbl h) (hm:h.mark≤h.n) (sm:Small T F) (st:SlT h vt T) (sf:SlF h vf F):
  WC Tryz.prog tb 44 [.agg #[vt,vf],I f] h fun r h'=>r= .tuple #[I (zY T F f).1,I (zY T F f).2]∧Ext h h':=by
 refine WC.of (zG 44) tab44 ?_;simp only[zN,Nat.zero_add,Nat.reduceAdd]
 refine go ?_
 refine WO.bx ?_
 intro p h1 e1 o1
 refine go ?_
 refine WO.con (prog_ok h1 vt vf T F (tt.ext e1) (zh e1 hm) sm (st.ext e1) (SlF.ext sf e1)) ?_
 rintro _ h2 ⟨rfl,e2⟩
 have e12:=e1.trans e2
 have o1:=o1.ext e2
 have st2:=st.ext e12
 have sf2:=SlF.ext sf e12
 have hF:=sm.funcs
 refine go ?_
 refine WX.br (fun hb=> ?_) (fun hb=> ?_)<;>simp only[DB]at hb<;>refine go ?_
 ·refine rt ?_
  exact⟨by rw[zY,if_pos hb];rfl,e12⟩
 have hb:ZY T F=0:=by omega
 refine WO.con (yd h2 f F.length) ?_
 rintro _ _ ⟨rfl,rfl⟩
 refine go ?_
 refine WX.br (fun hc=> ?_) (fun hc=> ?_)<;>simp only[DB]at hc<;>refine go ?_
 ·refine rt ?_
  exact⟨by rw[zY,if_neg (by omega),hc,if_neg (by exact Bool.noConfusion)];rfl,e12⟩
 have hf:0≤f∧f<(F.length:Int):=by unfold zM at hc;simpa using hc
 obtain⟨csF,⟨vb,rfl,sb,hlb⟩,pcF,hsF⟩:=zX (i:=f.toNat) sf2 (by omega)
 have hsig:=zEH ((Zp hb).2.2.2 _ (zL (l:=F) (i:=f.toNat) (by omega)))
 obtain⟨csT,⟨vp,rfl,sp,hsp⟩,pcT,hsT⟩:=ZR (i:=(F.getD f.toNat default).sig.toNat) st2 (by omega)
 refine go ?_
 refine rt ?_
 exact⟨by rw[zY,if_neg (by omega),hc,if_pos rfl];rfl,e12⟩
noncomputable def body50:ACode:=(.seq (.region [⟨some 2,none,(.box (.tmp 0))⟩,⟨some 4,none,(.mov (.const (.int .i64 0)))⟩,⟨some 5,none,(.mov (.const (.int .i64 0)))⟩]) (.seq (.region [⟨some 9,none,(.load true 2 (.tmp 2))⟩,⟨some 10,none,(.mov (.tmp 1))⟩,⟨some 11,none,(.call (.func 44) [(.tmp 9),(.tmp 10)])⟩,⟨some 8,none,(.mov (.tmp 11))⟩,⟨some 12,none,(.extract (.tmp 8) 0)⟩,⟨some 13,none,(.extract (.tmp 8) 1)⟩,⟨some 6,none,(.mov (.tmp 12))⟩,⟨some 7,none,(.mov (.tmp 13))⟩]) (.seq (.seq (.region [⟨some 14,none,(.mov (.tmp 7))⟩,⟨some 15,none,(.bin .neq (.tmp 14) (.const (.int .i64 0)))⟩]) (.cond (.tmp 15) (.seq (.region [⟨some 16,none,(.mov (.tmp 7))⟩,⟨some 4,none,(.mov (.const (.int .i64 0)))⟩,⟨some 5,none,(.mov (.tmp 16))⟩]) .ret) .skip)) (.seq (.region [⟨some 17,none,(.mov (.tmp 6))⟩,⟨some 18,none,(.fld 1 (.tmp 2))⟩,⟨some 19,none,(.load false 1 (.tmp 18))⟩,⟨some 20,none,(.mov (.tmp 1))⟩,⟨some 21,none,(.idx 2 (.tmp 19) (.tmp 20))⟩,⟨some 22,none,(.load true 2 (.tmp 21))⟩,⟨some 23,none,(.call (.func 46) [(.tmp 22)])⟩,⟨some 24,none,(.bin .add (.tmp 17) (.tmp 23))⟩,⟨some 4,none,(.mov (.tmp 24))⟩,⟨some 5,none,(.mov (.const (.int .i64 0)))⟩]) .ret))))
set_option maxRecDepth 100000 in
theorem tab50:tb.code 50=some ⟨25,[(4,none),(5,none)],body50⟩:=by kernel_rfl
theorem regs_ok (h:AHeap) (vt vf:Value) (T:List LType) (F:List LFn) (f:Int) (tt:Tbl h) (hm:h.mark≤h.n) (sm:Small T F) (st:SlT h vt T) (sf:SlF h vf F):
  WC Tryz.prog tb 50 [.agg #[vt,vf],I f] h fun r h'=>r= .tuple #[I (yp T F f).1,I (yp T F f).2]∧Ext h h':=by
 refine WC.of (zG 50) tab50 ?_;simp only[zN,Nat.zero_add,Nat.reduceAdd]
 refine go ?_
 refine WO.bx ?_
 intro p h1 e1 o1
 refine go ?_
 refine WO.con (zEk h1 vt vf T F f (tt.ext e1) (zh e1 hm) sm (st.ext e1) (SlF.ext sf e1)) ?_
 rintro _ h2 ⟨rfl,e2⟩
 have e12:=e1.trans e2
 have o1:=o1.ext e2
 have sf2:=SlF.ext sf e12
 have hF:=sm.funcs
 refine go ?_
 refine WX.br (fun hb=> ?_) (fun hb=> ?_)<;>simp only[DB]at hb<;>refine go ?_
 ·refine rt ?_
  exact⟨by rw[yp,if_pos hb];rfl,e12⟩
 have hb2:(zY T F f).2=0:=by omega
 have hin:0≤f∧f<(F.length:Int)∧ZY T F=0:=by
  unfold zY at hb2
  split at hb2
  ·rename_i hp;exact absurd hb2 hp
  ·rename_i hp
   split at hb2
   ·rename_i hc;unfold zM at hc;simp at hc;exact⟨hc.1,hc.2,by omega⟩
   ·cases hb2
 obtain⟨csF,⟨vb,rfl,sb,hlb⟩,pcF,hsF⟩:=zX (i:=f.toNat) sf2 (by omega)
 have hmem:=zL (l:=F) (i:=f.toNat) (by omega)
 refine go ?_
 refine WO.con (zCE h2 _ vb _ sb (sm.blocks _ hmem) (sm.ins _ hmem)) ?_
 rintro _ h3 ⟨rfl,e3⟩
 have hfn:=(Zp hin.2.2).2.2.2 _ hmem
 have hbd:zW (F.getD f.toNat default).blocks≤128:=by
  unfold fnL at hfn
  split at hfn
  ·cases hfn
  ·rename_i hbad
   unfold Yv at hbad
   simp only[Bool.or_eq_true,not_or,Bool.not_eq_true,decide_eq_false_iff_not]at hbad
   omega
 have hpos:=ZO (F.getD f.toNat default).blocks
 have hn:0≤(zY T F f).1∧(zY T F f).1≤100:=by
  unfold zY
  split
  ·simp
  ·split
   ·have hs:=zEH hfn
    have:=sm.parts _ (zL (l:=T) (i:=(F.getD f.toNat default).sig.toNat) (by omega))
    simp only;omega
   ·simp
 refine go ?_
 refine rt ?_
 exact⟨by rw[yp,if_neg (by omega)];rfl,e12.trans e3⟩
end Go.Proofs.YtdcgdfbblnljjaaGreatDoor
