/- What functions of the program come to in the abstract machine, and plain laws about it; no statement of the seat is proved in this text. -/
import Derived.Test.YtmilpkdhbdgjfaaJa
namespace Go.Proofs.Ytmilpkdhbdgjfaa
open Go.Am
set_option linter.unusedVariables false
set_option linter.unusedSimpArgs false
set_option maxHeartbeats 2000000
theorem slv_shape {h:AHeap} {v:Value} {l:List MVal} (s:SlV h v l):∃ a n k,v= .slice a n k:=by
 obtain⟨_,c,_⟩:=s
 exact SlC.shape c
noncomputable def body29_0:ACode:=(.seq (.region [⟨some 18,none,(.bin .lss (.tmp 17) (.tmp 16))⟩]) (.seq (.cond (.tmp 18) .skip (.exit 0)) (.seq (.block 1 (.seq (.region [⟨some 19,none,(.mov (.tmp 17))⟩,⟨some 20,none,(.idx 5 (.tmp 15) (.tmp 17))⟩,⟨some 21,none,(.load true 5 (.tmp 20))⟩,⟨some 8,none,(.alloc [(.int .i64 0),(.int .i64 0),(.int .i64 0),(.bool false),(.slice none 0 0)])⟩,⟨some 7,none,(.mov (.tmp 19))⟩,⟨none,none,(.store 5 (.tmp 8) (.tmp 21))⟩]) (.seq (.region [⟨some 22,none,(.mov (.tmp 1))⟩,⟨some 23,none,(.mov (.tmp 7))⟩,⟨some 24,none,(.idx 5 (.tmp 22) (.tmp 23))⟩,⟨some 25,none,(.load true 5 (.tmp 24))⟩,⟨some 9,none,(.alloc [(.int .i64 0),(.int .i64 0),(.int .i64 0),(.bool false),(.slice none 0 0)])⟩,⟨none,none,(.store 5 (.tmp 9) (.tmp 25))⟩]) (.seq (.region [⟨some 26,none,(.mov (.tmp 2))⟩,⟨some 27,none,(.load true 5 (.tmp 8))⟩,⟨some 28,none,(.load true 5 (.tmp 9))⟩,⟨some 29,none,(.call (.tmp 26) [(.tmp 27),(.tmp 28)])⟩,⟨some 30,none,(.un .not (.tmp 29))⟩]) (.cond (.tmp 30) (.seq (.region [⟨some 6,none,(.mov (.const (.bool false)))⟩]) .ret) .skip))))) (.region [⟨some 31,none,(.bin .add (.tmp 17) (.const (.int .i64 1)))⟩,⟨some 17,none,(.mov (.tmp 31))⟩]))))
noncomputable def body29:ACode:=(.seq (.region [⟨some 6,none,(.mov (.const (.bool false)))⟩]) (.seq (.seq (.region [⟨some 10,none,(.mov (.tmp 0))⟩,⟨some 11,none,(.len (.tmp 10))⟩,⟨some 12,none,(.mov (.tmp 1))⟩,⟨some 13,none,(.len (.tmp 12))⟩,⟨some 14,none,(.bin .neq (.tmp 11) (.tmp 13))⟩]) (.cond (.tmp 14) (.seq (.region [⟨some 6,none,(.mov (.const (.bool false)))⟩]) .ret) .skip)) (.seq (.seq (.region [⟨some 15,none,(.mov (.tmp 0))⟩,⟨some 16,none,(.len (.tmp 15))⟩,⟨some 17,none,(.mov (.const (.int .i64 0)))⟩]) (.block 0 (.loop body29_0))) (.seq (.region [⟨some 6,none,(.mov (.const (.bool true)))⟩]) .ret))))
set_option maxRecDepth 100000 in
theorem tab29:tb.code 29=some ⟨32,[(6,none)],body29⟩:=by kernel_rfl
theorem eqfB_ok (h:AHeap) (xa xb:Value) (A B:List MBlk) (ka:SlMb h xa A) (kb:SlMb h xb B) (la:(A.length:Int)≤9223372036854775807):WC Try.prog tb 29 [xa,xb,.func (.func 30) #[] #[]] h fun r h'=>r= .bool (decide (A=B))∧Ext h h':=by
 refine WC.of (nostub 29) tab29 ?_;simp only[mkTm,Nat.zero_add,Nat.reduceAdd]
 by_cases hl:A.length=B.length
 case neg=>
  refine go ?_
  refine rt ?_
  exact⟨by rw[decide_eq_false (fun e=>hl (by rw[e]))];rfl,Ext.refl _⟩
 refine go ?_
 refine WX.loopA [18,19,20,21,8,7,22,23,24,25,9,26,27,28,29,30,6,31,17] (by kernel_rfl) (fun i=>A.length - i) (fun i t h1=>Ext h h1∧tmGet t 17=I i∧i≤A.length∧Hid (∀ j,j<i→A.getD j default=B.getD j default)) 0 ?_ ?_
 ·exact⟨Ext.refl _,sl_,Nat.zero_le _,⟨fun j hj=>absurd hj (Nat.not_lt_zero _)⟩⟩
 rintro i t h1 hsame ⟨e1,s17,hi,hI⟩
 have ka1:=SlMb.ext ka e1
 have kb1:=SlMb.ext kb e1
 refine go ?_
 refine WX.br (fun hb=> ?_) (fun hb=> ?_)<;>simp only[DB]at hb
 ·obtain⟨ca,ra,pca,hsa⟩:=slr_atX ka1 (show i<A.length by omega)
  obtain⟨cb,rb,pcb,hsb⟩:=slr_atX kb1 (show i<B.length by omega)
  have ra0:=ra
  have rb0:=rb
  obtain⟨va,rfl,sa,na⟩:=ra0
  obtain⟨vb,rfl,sb,nb⟩:=rb0
  obtain⟨xa1,xa2,xa3,rfl⟩:=slv_shape sa
  obtain⟨xb1,xb2,xb3,rfl⟩:=slv_shape sb
  have pa1:=(pca _ (Ext.refl _)).1
  refine go ?_
  refine WO.al ?_
  intro p2 h2 e2 o2
  have pa2:=(pca _ e2).1
  refine go ?_
  refine WO.stC0 (cs:=[I (A.getD i default).site,I (A.getD i default).ty,I (A.getD i default).depth,.bool (A.getD i default).alive,.slice xa1 xa2 xa3]) o2 e2 ?_
  intro h3 e3 o3 u3
  have kb3:=SlMb.ext kb1 e3
  have pb3:=(pcb _ e3).1
  refine go ?_
  refine WO.al ?_
  intro p4 h4 e4 o4
  have o34:=o3.ext e4
  refine go ?_
  refine WO.stC0 (cs:=[I (B.getD i default).site,I (B.getD i default).ty,I (B.getD i default).depth,.bool (B.getD i default).alive,.slice xb1 xb2 xb3]) o4 e4 ?_
  intro h5 e5 o5 u5
  have o35:=o3.ext e5
  have e15:=e3.trans e5
  refine go ?_
  refine WO.conV (WV.func (blkEq_ok h5 _ _ (A.getD i default) (B.getD i default) (RMb.ext ra e15) (RMb.ext rb e15))) ?_
  rintro _ h6 ⟨rfl,e6⟩
  by_cases c:A.getD i default=B.getD i default
  ·rw[decide_eq_true c]
   refine go ?_
   refine loopK_normal (i+1) (by omega) ⟨e1.trans (e15.trans e6),sln,by omega,⟨fun j hj=> ?_⟩⟩
   by_cases e:j=i
   ·subst e;exact c
   ·exact hI.out j (by omega)
  ·rw[decide_eq_false c]
   refine go ?_
   refine rt ?_
   refine⟨?_,e1.trans (e15.trans e6)⟩
   rw[decide_eq_false (fun e=>by subst e;exact c rfl)];rfl
 ·refine go ?_
  refine rt ?_
  exact⟨by rw[decide_eq_true (list_ext hl fun j hj=>hI.out j (by omega))];rfl,e1⟩
noncomputable def body23_0:ACode:=(.seq (.region [⟨some 18,none,(.bin .lss (.tmp 17) (.tmp 16))⟩]) (.seq (.cond (.tmp 18) .skip (.exit 0)) (.seq (.block 1 (.seq (.region [⟨some 19,none,(.mov (.tmp 17))⟩,⟨some 20,none,(.idx 5 (.tmp 15) (.tmp 17))⟩,⟨some 21,none,(.load true 5 (.tmp 20))⟩,⟨some 8,none,(.alloc [(.int .i64 0),(.int .i64 0),(.int .i64 0),(.slice none 0 0),(.int .i64 0)])⟩,⟨some 7,none,(.mov (.tmp 19))⟩,⟨none,none,(.store 5 (.tmp 8) (.tmp 21))⟩]) (.seq (.region [⟨some 22,none,(.mov (.tmp 1))⟩,⟨some 23,none,(.mov (.tmp 7))⟩,⟨some 24,none,(.idx 5 (.tmp 22) (.tmp 23))⟩,⟨some 25,none,(.load true 5 (.tmp 24))⟩,⟨some 9,none,(.alloc [(.int .i64 0),(.int .i64 0),(.int .i64 0),(.slice none 0 0),(.int .i64 0)])⟩,⟨none,none,(.store 5 (.tmp 9) (.tmp 25))⟩]) (.seq (.region [⟨some 26,none,(.mov (.tmp 2))⟩,⟨some 27,none,(.load true 5 (.tmp 8))⟩,⟨some 28,none,(.load true 5 (.tmp 9))⟩,⟨some 29,none,(.call (.tmp 26) [(.tmp 27),(.tmp 28)])⟩,⟨some 30,none,(.un .not (.tmp 29))⟩]) (.cond (.tmp 30) (.seq (.region [⟨some 6,none,(.mov (.const (.bool false)))⟩]) .ret) .skip))))) (.region [⟨some 31,none,(.bin .add (.tmp 17) (.const (.int .i64 1)))⟩,⟨some 17,none,(.mov (.tmp 31))⟩]))))
noncomputable def body23:ACode:=(.seq (.region [⟨some 6,none,(.mov (.const (.bool false)))⟩]) (.seq (.seq (.region [⟨some 10,none,(.mov (.tmp 0))⟩,⟨some 11,none,(.len (.tmp 10))⟩,⟨some 12,none,(.mov (.tmp 1))⟩,⟨some 13,none,(.len (.tmp 12))⟩,⟨some 14,none,(.bin .neq (.tmp 11) (.tmp 13))⟩]) (.cond (.tmp 14) (.seq (.region [⟨some 6,none,(.mov (.const (.bool false)))⟩]) .ret) .skip)) (.seq (.seq (.region [⟨some 15,none,(.mov (.tmp 0))⟩,⟨some 16,none,(.len (.tmp 15))⟩,⟨some 17,none,(.mov (.const (.int .i64 0)))⟩]) (.block 0 (.loop body23_0))) (.seq (.region [⟨some 6,none,(.mov (.const (.bool true)))⟩]) .ret))))
set_option maxRecDepth 100000 in
theorem tab23:tb.code 23=some ⟨32,[(6,none)],body23⟩:=by kernel_rfl
theorem eqfF_ok (h:AHeap) (xa xb:Value) (A B:List MFrm) (ka:SlMf h xa A) (kb:SlMf h xb B) (la:(A.length:Int)≤9223372036854775807):WC Try.prog tb 23 [xa,xb,.func (.func 18) #[] #[]] h fun r h'=>r= .bool (decide (A=B))∧Ext h h':=by
 refine WC.of (nostub 23) tab23 ?_;simp only[mkTm,Nat.zero_add,Nat.reduceAdd]
 by_cases hl:A.length=B.length
 case neg=>
  refine go ?_
  refine rt ?_
  exact⟨by rw[decide_eq_false (fun e=>hl (by rw[e]))];rfl,Ext.refl _⟩
 refine go ?_
 refine WX.loopA [18,19,20,21,8,7,22,23,24,25,9,26,27,28,29,30,6,31,17] (by kernel_rfl) (fun i=>A.length - i) (fun i t h1=>Ext h h1∧tmGet t 17=I i∧i≤A.length∧Hid (∀ j,j<i→A.getD j default=B.getD j default)) 0 ?_ ?_
 ·exact⟨Ext.refl _,sl_,Nat.zero_le _,⟨fun j hj=>absurd hj (Nat.not_lt_zero _)⟩⟩
 rintro i t h1 hsame ⟨e1,s17,hi,hI⟩
 have ka1:=SlMf.ext ka e1
 have kb1:=SlMf.ext kb e1
 refine go ?_
 refine WX.br (fun hb=> ?_) (fun hb=> ?_)<;>simp only[DB]at hb
 ·obtain⟨ca,ra,pca,hsa⟩:=slr_atX ka1 (show i<A.length by omega)
  obtain⟨cb,rb,pcb,hsb⟩:=slr_atX kb1 (show i<B.length by omega)
  have ra0:=ra
  have rb0:=rb
  obtain⟨va,rfl,sa,na⟩:=ra0
  obtain⟨vb,rfl,sb,nb⟩:=rb0
  obtain⟨xa1,xa2,xa3,rfl⟩:=slv_shape sa
  obtain⟨xb1,xb2,xb3,rfl⟩:=slv_shape sb
  have pa1:=(pca _ (Ext.refl _)).1
  refine go ?_
  refine WO.al ?_
  intro p2 h2 e2 o2
  have pa2:=(pca _ e2).1
  refine go ?_
  refine WO.stC0 (cs:=[I (A.getD i default).fn,I (A.getD i default).block,I (A.getD i default).pos,.slice xa1 xa2 xa3,I (A.getD i default).into]) o2 e2 ?_
  intro h3 e3 o3 u3
  have kb3:=SlMf.ext kb1 e3
  have pb3:=(pcb _ e3).1
  refine go ?_
  refine WO.al ?_
  intro p4 h4 e4 o4
  have o34:=o3.ext e4
  refine go ?_
  refine WO.stC0 (cs:=[I (B.getD i default).fn,I (B.getD i default).block,I (B.getD i default).pos,.slice xb1 xb2 xb3,I (B.getD i default).into]) o4 e4 ?_
  intro h5 e5 o5 u5
  have o35:=o3.ext e5
  have e15:=e3.trans e5
  refine go ?_
  refine WO.conV (WV.func (frmEq_ok h5 _ _ (A.getD i default) (B.getD i default) (RMf.ext ra e15) (RMf.ext rb e15))) ?_
  rintro _ h6 ⟨rfl,e6⟩
  by_cases c:A.getD i default=B.getD i default
  ·rw[decide_eq_true c]
   refine go ?_
   refine loopK_normal (i+1) (by omega) ⟨e1.trans (e15.trans e6),sln,by omega,⟨fun j hj=> ?_⟩⟩
   by_cases e:j=i
   ·subst e;exact c
   ·exact hI.out j (by omega)
  ·rw[decide_eq_false c]
   refine go ?_
   refine rt ?_
   refine⟨?_,e1.trans (e15.trans e6)⟩
   rw[decide_eq_false (fun e=>by subst e;exact c rfl)];rfl
 ·refine go ?_
  refine rt ?_
  exact⟨by rw[decide_eq_true (list_ext hl fun j hj=>hI.out j (by omega))];rfl,e1⟩
noncomputable def body22:ACode:=(.seq (.region [⟨some 4,none,(.mov (.const (.bool false)))⟩]) (.seq (.region [⟨some 5,none,(.mov (.tmp 0))⟩,⟨some 6,none,(.mov (.tmp 1))⟩,⟨some 7,none,(.call (.func 29) [(.tmp 5),(.tmp 6),(.func 30)])⟩,⟨some 4,none,(.mov (.tmp 7))⟩]) .ret))
set_option maxRecDepth 100000 in
theorem tab22:tb.code 22=some ⟨8,[(4,none)],body22⟩:=by kernel_rfl
theorem memSame_ok (h:AHeap) (xa xb:Value) (A B:List MBlk) (ka:SlMb h xa A) (kb:SlMb h xb B) (la:(A.length:Int)≤9223372036854775807):WC Try.prog tb 22 [xa,xb] h fun r h'=>r= .bool (decide (A=B))∧Ext h h':=by
 refine WC.of (nostub 22) tab22 ?_;simp only[mkTm,Nat.zero_add,Nat.reduceAdd]
 refine go ?_
 refine WO.con (eqfB_ok h xa xb A B ka kb la) ?_
 rintro _ h1 ⟨rfl,e1⟩
 refine go ?_
 refine rt ?_
 exact⟨rfl,e1⟩
end Go.Proofs.Ytmilpkdhbdgjfaa
namespace Go.Proofs.Ytmilpkdhbdgjfaa
open Go.Am
set_option linter.unusedVariables false
set_option linter.unusedSimpArgs false
set_option maxHeartbeats 2000000
structure MMach where
 mem:List MBlk
 frs:List MFrm
 inn:List Int
 used:Int
 evs:List MEv
 steps:Int
 heaps:Int
 state:Int
 trap:Int
 exit:Int
deriving DecidableEq
def RMm (h:AHeap) (cs:List Value) (x:MMach):Prop:=∃ vm vf vi ve,cs=[vm,vf,vi,I x.used,ve,I x.steps,I x.heaps,.int .u8 x.state,I x.trap,I x.exit]∧SlMb h vm x.mem∧SlMf h vf x.frs∧SlI h vi x.inn∧SlE h ve x.evs∧
 (x.mem.length:Int)≤9223372036854775807∧(x.frs.length:Int)≤9223372036854775807∧(x.inn.length:Int)≤9223372036854775807∧(x.evs.length:Int)≤9223372036854775807
theorem RMm.ext {h h' cs x} (r:RMm h cs x) (e:Ext h h'):RMm h' cs x:=let ⟨vm,vf,vi,ve,a,m,f,i,v,q⟩:=r;⟨vm,vf,vi,ve,a,SlMb.ext m e,SlMf.ext f e,SlI.ext i e,SlE.ext v e,q⟩
theorem mm_ext {a b:MMach} (h1:a.mem=b.mem) (h2:a.frs=b.frs) (h3:a.inn=b.inn) (h4:a.used=b.used) (h5:a.evs=b.evs) (h6:a.steps=b.steps) (h7:a.heaps=b.heaps) (h8:a.state=b.state) (h9:a.trap=b.trap) (h10:a.exit=b.exit):a=b:=by
 cases a;cases b;cases h1;cases h2;cases h3;cases h4;cases h5;cases h6;cases h7;cases h8;cases h9;cases h10;rfl
noncomputable def body7:ACode:=(.seq (.region [⟨some 2,none,(.box (.tmp 0))⟩,⟨some 3,none,(.box (.tmp 1))⟩,⟨some 4,none,(.mov (.const (.bool false)))⟩]) (.seq (.region [⟨some 5,none,(.mov (.func 18))⟩]) (.seq (.region [⟨some 7,none,(.fld 3 (.tmp 2))⟩,⟨some 8,none,(.load false 1 (.tmp 7))⟩,⟨some 9,none,(.fld 3 (.tmp 3))⟩,⟨some 10,none,(.load false 1 (.tmp 9))⟩,⟨some 11,none,(.bin .eql (.tmp 8) (.tmp 10))⟩,⟨some 12,none,(.mov (.tmp 11))⟩,⟨some 13,some (12,true),(.fld 5 (.tmp 2))⟩,⟨some 14,some (12,true),(.load false 1 (.tmp 13))⟩,⟨some 15,some (12,true),(.fld 5 (.tmp 3))⟩,⟨some 16,some (12,true),(.load false 1 (.tmp 15))⟩,⟨some 17,some (12,true),(.bin .eql (.tmp 14) (.tmp 16))⟩,⟨some 18,none,(.pick (.tmp 12) (.tmp 17) (.const (.bool false)))⟩,⟨some 19,none,(.mov (.tmp 18))⟩,⟨some 20,some (19,true),(.fld 6 (.tmp 2))⟩,⟨some 21,some (19,true),(.load false 1 (.tmp 20))⟩,⟨some 22,some (19,true),(.fld 6 (.tmp 3))⟩,⟨some 23,some (19,true),(.load false 1 (.tmp 22))⟩,⟨some 24,some (19,true),(.bin .eql (.tmp 21) (.tmp 23))⟩,⟨some 25,none,(.pick (.tmp 19) (.tmp 24) (.const (.bool false)))⟩,⟨some 26,none,(.mov (.tmp 25))⟩,⟨some 27,some (26,true),(.fld 7 (.tmp 2))⟩,⟨some 28,some (26,true),(.load false 1 (.tmp 27))⟩,⟨some 29,some (26,true),(.fld 7 (.tmp 3))⟩,⟨some 30,some (26,true),(.load false 1 (.tmp 29))⟩,⟨some 31,some (26,true),(.bin .eql (.tmp 28) (.tmp 30))⟩,⟨some 32,none,(.pick (.tmp 26) (.tmp 31) (.const (.bool false)))⟩,⟨some 33,none,(.mov (.tmp 32))⟩,⟨some 34,some (33,true),(.fld 8 (.tmp 2))⟩,⟨some 35,some (33,true),(.load false 1 (.tmp 34))⟩,⟨some 36,some (33,true),(.fld 8 (.tmp 3))⟩,⟨some 37,some (33,true),(.load false 1 (.tmp 36))⟩,⟨some 38,some (33,true),(.bin .eql (.tmp 35) (.tmp 37))⟩,⟨some 39,none,(.pick (.tmp 33) (.tmp 38) (.const (.bool false)))⟩,⟨some 40,none,(.mov (.tmp 39))⟩,⟨some 41,some (40,true),(.fld 9 (.tmp 2))⟩,⟨some 42,some (40,true),(.load false 1 (.tmp 41))⟩,⟨some 43,some (40,true),(.fld 9 (.tmp 3))⟩,⟨some 44,some (40,true),(.load false 1 (.tmp 43))⟩,⟨some 45,some (40,true),(.bin .eql (.tmp 42) (.tmp 44))⟩,⟨some 46,none,(.pick (.tmp 40) (.tmp 45) (.const (.bool false)))⟩,⟨some 6,none,(.mov (.tmp 46))⟩]) (.seq (.region [⟨some 47,none,(.mov (.tmp 6))⟩,⟨some 48,none,(.mov (.tmp 47))⟩,⟨some 49,some (48,true),(.fld 2 (.tmp 2))⟩,⟨some 50,some (48,true),(.load false 1 (.tmp 49))⟩,⟨some 51,some (48,true),(.fld 2 (.tmp 3))⟩,⟨some 52,some (48,true),(.load false 1 (.tmp 51))⟩,⟨some 53,some (48,true),(.call (.func 20) [(.tmp 50),(.tmp 52)])⟩,⟨some 54,none,(.pick (.tmp 48) (.tmp 53) (.const (.bool false)))⟩,⟨some 55,none,(.mov (.tmp 54))⟩,⟨some 56,some (55,true),(.fld 4 (.tmp 2))⟩,⟨some 57,some (55,true),(.load false 1 (.tmp 56))⟩,⟨some 58,some (55,true),(.fld 4 (.tmp 3))⟩,⟨some 59,some (55,true),(.load false 1 (.tmp 58))⟩,⟨some 60,some (55,true),(.call (.func 21) [(.tmp 57),(.tmp 59)])⟩,⟨some 61,none,(.pick (.tmp 55) (.tmp 60) (.const (.bool false)))⟩,⟨some 62,none,(.mov (.tmp 61))⟩,⟨some 63,some (62,true),(.fld 0 (.tmp 2))⟩,⟨some 64,some (62,true),(.load false 1 (.tmp 63))⟩,⟨some 65,some (62,true),(.fld 0 (.tmp 3))⟩,⟨some 66,some (62,true),(.load false 1 (.tmp 65))⟩,⟨some 67,some (62,true),(.call (.func 22) [(.tmp 64),(.tmp 66)])⟩,⟨some 68,none,(.pick (.tmp 62) (.tmp 67) (.const (.bool false)))⟩,⟨some 69,none,(.mov (.tmp 68))⟩,⟨some 70,some (69,true),(.fld 1 (.tmp 2))⟩,⟨some 71,some (69,true),(.load false 1 (.tmp 70))⟩,⟨some 72,some (69,true),(.fld 1 (.tmp 3))⟩,⟨some 73,some (69,true),(.load false 1 (.tmp 72))⟩,⟨some 74,some (69,true),(.mov (.tmp 5))⟩,⟨some 75,some (69,true),(.call (.func 23) [(.tmp 71),(.tmp 73),(.tmp 74)])⟩,⟨some 76,none,(.pick (.tmp 69) (.tmp 75) (.const (.bool false)))⟩,⟨some 4,none,(.mov (.tmp 76))⟩]) .ret))))
set_option maxRecDepth 100000 in
theorem tab7:tb.code 7=some ⟨77,[(4,none)],body7⟩:=by kernel_rfl
theorem machSame_ok (h:AHeap) (ca cb:List Value) (a b:MMach) (ra:RMm h ca a) (rb:RMm h cb b):WC Try.prog tb 7 [.agg ca.toArray,.agg cb.toArray] h fun r h'=>r= .bool (decide (a=b))∧Ext h h':=by
 obtain⟨am,af,ai,ae,rfl,kam,kaf,kai,kae,lam,laf,lai,lae⟩:=ra
 obtain⟨bm,bf,bi,be,rfl,kbm,kbf,kbi,kbe,lbm,lbf,lbi,lbe⟩:=rb
 refine WC.of (nostub 7) tab7 ?_;simp only[mkTm,Nat.zero_add,Nat.reduceAdd]
 refine go ?_
 refine WO.bx ?_
 intro p h1 e1 o1
 refine go ?_
 refine WO.bx ?_
 intro q h2 e2 o2
 have o1:=o1.ext e2
 have e12:=e1.trans e2
 by_cases c1:a.used=b.used
 case neg=>
  refine go ?_
  refine rt ?_
  exact⟨by rw[decide_eq_false (fun e=>c1 (by rw[e]))];rfl,e12⟩
 by_cases c2:a.steps=b.steps
 case neg=>
  refine go ?_
  refine rt ?_
  exact⟨by rw[decide_eq_false (fun e=>c2 (by rw[e]))];rfl,e12⟩
 by_cases c3:a.heaps=b.heaps
 case neg=>
  refine go ?_
  refine rt ?_
  exact⟨by rw[decide_eq_false (fun e=>c3 (by rw[e]))];rfl,e12⟩
 by_cases c4:a.state=b.state
 case neg=>
  refine go ?_
  refine rt ?_
  exact⟨by rw[decide_eq_false (fun e=>c4 (by rw[e]))];rfl,e12⟩
 by_cases c5:a.trap=b.trap
 case neg=>
  refine go ?_
  refine rt ?_
  exact⟨by rw[decide_eq_false (fun e=>c5 (by rw[e]))];rfl,e12⟩
 by_cases c6:a.exit=b.exit
 case neg=>
  refine go ?_
  refine rt ?_
  exact⟨by rw[decide_eq_false (fun e=>c6 (by rw[e]))];rfl,e12⟩
 refine go ?_
 refine WO.con (equalN_ok h2 ai bi a.inn b.inn (SlI.ext kai e12) (SlI.ext kbi e12) lai) ?_
 rintro _ _ ⟨rfl,rfl⟩
 by_cases ci:a.inn=b.inn
 case neg=>
  rw[decide_eq_false ci]
  refine go ?_
  refine rt ?_
  exact⟨by rw[decide_eq_false (fun e=>ci (by rw[e]))];rfl,e12⟩
 rw[decide_eq_true ci]
 refine go ?_
 refine WO.con (equalE_ok h2 ae be a.evs b.evs (SlE.ext kae e12) (SlE.ext kbe e12) lae) ?_
 rintro _ _ ⟨rfl,rfl⟩
 by_cases cv:a.evs=b.evs
 case neg=>
  rw[decide_eq_false cv]
  refine go ?_
  refine rt ?_
  exact⟨by rw[decide_eq_false (fun e=>cv (by rw[e]))];rfl,e12⟩
 rw[decide_eq_true cv]
 refine go ?_
 refine WO.con (memSame_ok h2 am bm a.mem b.mem (SlMb.ext kam e12) (SlMb.ext kbm e12) lam) ?_
 rintro _ hcm ⟨rfl,ecm⟩
 have o1:=o1.ext ecm
 have o2:=o2.ext ecm
 by_cases cm:a.mem=b.mem
 case neg=>
  rw[decide_eq_false cm]
  refine go ?_
  refine rt ?_
  exact⟨by rw[decide_eq_false (fun e=>cm (by rw[e]))];rfl,(e12.trans ecm)⟩
 rw[decide_eq_true cm]
 refine go ?_
 refine WO.con (eqfF_ok hcm af bf a.frs b.frs (SlMf.ext kaf (e12.trans ecm)) (SlMf.ext kbf (e12.trans ecm)) laf) ?_
 rintro _ hcf ⟨rfl,ecf⟩
 have o1:=o1.ext ecf
 have o2:=o2.ext ecf
 refine go ?_
 refine rt ?_
 refine⟨?_,((e12.trans ecm).trans ecf)⟩
 by_cases cf:a.frs=b.frs
 ·rw[decide_eq_true cf,decide_eq_true (mm_ext cm cf ci c1 cv c2 c3 c4 c5 c6)];rfl
 ·rw[decide_eq_false cf,decide_eq_false (fun e=>cf (by rw[e]))];rfl
end Go.Proofs.Ytmilpkdhbdgjfaa
namespace Go.Proofs.Ytmilpkdhbdgjfaa
open Go.Am
set_option linter.unusedVariables false
set_option linter.unusedSimpArgs false
set_option maxHeartbeats 2000000
noncomputable def body26_0:ACode:=(.seq (.seq (.region [⟨some 11,none,(.mov (.tmp 5))⟩,⟨some 12,none,(.mov (.tmp 0))⟩,⟨some 13,none,(.len (.tmp 12))⟩,⟨some 14,none,(.bin .lss (.tmp 11) (.tmp 13))⟩]) (.cond (.tmp 14) .skip (.exit 0))) (.seq (.block 1 (.seq (.regionC [(⟨some 17,none,(.mov (.tmp 0))⟩,[]),(⟨some 18,none,(.mov (.tmp 5))⟩,[]),(⟨some 19,none,(.idx 5 (.tmp 17) (.tmp 18))⟩,[]),(⟨some 20,none,(.fld 0 (.tmp 19))⟩,[]),(⟨some 21,none,(.load false 1 (.tmp 20))⟩,[]),(⟨some 22,none,(.mov (.tmp 1))⟩,[]),(⟨some 23,none,(.mov (.tmp 5))⟩,[]),(⟨some 24,none,(.idx 5 (.tmp 22) (.tmp 23))⟩,[]),(⟨some 25,none,(.fld 0 (.tmp 24))⟩,[]),(⟨some 26,none,(.load false 1 (.tmp 25))⟩,[]),(⟨some 27,none,(.bin .neq (.tmp 21) (.tmp 26))⟩,[]),(⟨some 28,none,(.mov (.tmp 27))⟩,[]),(⟨some 29,some (28,false),(.mov (.tmp 0))⟩,[]),(⟨some 30,some (28,false),(.mov (.tmp 5))⟩,[]),(⟨some 31,some (28,false),(.idx 5 (.tmp 29) (.tmp 30))⟩,[]),(⟨some 32,some (28,false),(.fld 1 (.tmp 31))⟩,[]),(⟨some 33,some (28,false),(.load false 1 (.tmp 32))⟩,[]),(⟨some 34,some (28,false),(.mov (.tmp 1))⟩,[]),(⟨some 35,some (28,false),(.mov (.tmp 5))⟩,[]),(⟨some 36,some (28,false),(.idx 5 (.tmp 34) (.tmp 35))⟩,[]),(⟨some 37,some (28,false),(.fld 1 (.tmp 36))⟩,[]),(⟨some 38,some (28,false),(.load false 1 (.tmp 37))⟩,[]),(⟨some 39,some (28,false),(.bin .neq (.tmp 33) (.tmp 38))⟩,[]),(⟨some 40,none,(.pick (.tmp 28) (.const (.bool true)) (.tmp 39))⟩,[]),(⟨some 41,none,(.mov (.tmp 40))⟩,[]),(⟨some 42,some (41,false),(.mov (.tmp 0))⟩,[]),(⟨some 43,some (41,false),(.mov (.tmp 5))⟩,[]),(⟨some 44,some (41,false),(.idx 5 (.tmp 42) (.tmp 43))⟩,[]),(⟨some 45,some (41,false),(.fld 2 (.tmp 44))⟩,[]),(⟨some 46,some (41,false),(.load false 1 (.tmp 45))⟩,[]),(⟨some 47,some (41,false),(.mov (.tmp 1))⟩,[]),(⟨some 48,some (41,false),(.mov (.tmp 5))⟩,[]),(⟨some 49,some (41,false),(.idx 5 (.tmp 47) (.tmp 48))⟩,[]),(⟨some 50,some (41,false),(.fld 2 (.tmp 49))⟩,[]),(⟨some 51,some (41,false),(.load false 1 (.tmp 50))⟩,[]),(⟨some 52,some (41,false),(.bin .neq (.tmp 46) (.tmp 51))⟩,[]),(⟨some 53,none,(.pick (.tmp 41) (.const (.bool true)) (.tmp 52))⟩,[]),(⟨some 54,none,(.mov (.tmp 53))⟩,[]),(⟨some 55,some (54,false),(.mov (.tmp 0))⟩,[]),(⟨some 56,some (54,false),(.mov (.tmp 5))⟩,[]),(⟨some 57,some (54,false),(.idx 5 (.tmp 55) (.tmp 56))⟩,[]),(⟨some 58,some (54,false),(.fld 3 (.tmp 57))⟩,[]),(⟨some 59,some (54,false),(.load false 1 (.tmp 58))⟩,[]),(⟨some 60,some (54,false),(.mov (.tmp 1))⟩,[]),(⟨some 61,some (54,false),(.mov (.tmp 5))⟩,[]),(⟨some 62,some (54,false),(.idx 5 (.tmp 60) (.tmp 61))⟩,[]),(⟨some 63,some (54,false),(.fld 3 (.tmp 62))⟩,[]),(⟨some 64,some (54,false),(.load false 1 (.tmp 63))⟩,[]),(⟨some 65,some (54,false),(.binB true (.tmp 59) (.tmp 64))⟩,[]),(⟨some 66,none,(.pick (.tmp 54) (.const (.bool true)) (.tmp 65))⟩,[]),(⟨some 67,none,(.mov (.tmp 66))⟩,[]),(⟨some 68,some (67,false),(.mov (.tmp 0))⟩,[]),(⟨some 69,some (67,false),(.mov (.tmp 5))⟩,[]),(⟨some 70,some (67,false),(.idx 5 (.tmp 68) (.tmp 69))⟩,[]),(⟨some 71,some (67,false),(.fld 4 (.tmp 70))⟩,[]),(⟨some 72,some (67,false),(.load false 1 (.tmp 71))⟩,[]),(⟨some 73,some (67,false),(.mov (.tmp 1))⟩,[]),(⟨some 74,some (67,false),(.mov (.tmp 5))⟩,[]),(⟨some 75,some (67,false),(.idx 5 (.tmp 73) (.tmp 74))⟩,[]),(⟨some 76,some (67,false),(.fld 4 (.tmp 75))⟩,[]),(⟨some 77,some (67,false),(.load false 1 (.tmp 76))⟩,[]),(⟨some 78,some (67,false),(.call (.func 31) [(.tmp 72),(.tmp 77)])⟩,[]),(⟨some 79,some (67,false),(.un .not (.tmp 78))⟩,[]),(⟨some 80,none,(.pick (.tmp 67) (.const (.bool true)) (.tmp 79))⟩,[])]) (.cond (.tmp 80) (.seq (.region [⟨some 4,none,(.mov (.const (.bool false)))⟩]) .ret) .skip))) (.region [⟨some 15,none,(.mov (.tmp 5))⟩,⟨some 16,none,(.bin .add (.tmp 15) (.const (.int .i64 1)))⟩,⟨some 5,none,(.mov (.tmp 16))⟩])))
noncomputable def body26:ACode:=(.seq (.region [⟨some 4,none,(.mov (.const (.bool false)))⟩]) (.seq (.seq (.region [⟨some 6,none,(.mov (.tmp 0))⟩,⟨some 7,none,(.len (.tmp 6))⟩,⟨some 8,none,(.mov (.tmp 1))⟩,⟨some 9,none,(.len (.tmp 8))⟩,⟨some 10,none,(.bin .neq (.tmp 7) (.tmp 9))⟩]) (.cond (.tmp 10) (.seq (.region [⟨some 4,none,(.mov (.const (.bool false)))⟩]) .ret) .skip)) (.seq (.seq (.region [⟨some 5,none,(.mov (.const (.int .i64 0)))⟩]) (.block 0 (.loop body26_0))) (.seq (.region [⟨some 4,none,(.mov (.const (.bool true)))⟩]) .ret))))
set_option maxRecDepth 100000 in
theorem tab26:tb.code 26=some ⟨81,[(4,none)],body26⟩:=by kernel_rfl
theorem rMemSame_ok (h:AHeap) (xa xb:Value) (A B:List MBlk) (ka:SlMb h xa A) (kb:SlMb h xb B) (la:(A.length:Int)≤9223372036854775807):WC Try.prog tb 26 [xa,xb] h fun r h'=>r= .bool (decide (A=B))∧Ext h h':=by
 refine WC.of (nostub 26) tab26 ?_;simp only[mkTm,Nat.zero_add,Nat.reduceAdd]
 by_cases hl:A.length=B.length
 case neg=>
  refine go ?_
  refine rt ?_
  exact⟨by rw[decide_eq_false (fun e=>hl (by rw[e]))];rfl,Ext.refl _⟩
 refine go ?_
 refine WX.loopA [11,12,13,14,17,18,19,20,21,22,23,24,25,26,27,28,29,30,31,32,33,34,35,36,37,38,39,40,41,42,43,44,45,46,47,48,49,50,51,52,53,54,55,56,57,58,59,60,61,62,63,64,65,66,67,68,69,70,71,72,73,74,75,76,77,78,79,80,4,15,16,5] (by kernel_rfl) (fun i=>A.length - i) (fun i t h1=>Ext h h1∧tmGet t 5=I i∧i≤A.length∧Hid (∀ j,j<i→A.getD j default=B.getD j default)) 0 ?_ ?_
 ·exact⟨Ext.refl _,sl_,Nat.zero_le _,⟨fun j hj=>absurd hj (Nat.not_lt_zero _)⟩⟩
 rintro i t h1 hsame ⟨e1,s5,hi,hI⟩
 have ka1:=SlMb.ext ka e1
 have kb1:=SlMb.ext kb e1
 refine go ?_
 refine WX.br (fun hb=> ?_) (fun hb=> ?_)<;>simp only[DB]at hb
 ·obtain⟨ca,ra,pca,hsa⟩:=slr_atX ka1 (show i<A.length by omega)
  obtain⟨cb,rb,pcb,hsb⟩:=slr_atX kb1 (show i<B.length by omega)
  obtain⟨va,rfl,sa,na⟩:=ra
  obtain⟨vb,rfl,sb,nb⟩:=rb
  have pa1:=(pca _ (Ext.refl _)).2
  have pb1:=(pcb _ (Ext.refl _)).2
  refine go ?_
  refine WX.cutA [17,18,19,20,21,22,23,24,25,26,27,28,29,30,31,32,33,34,35,36,37,38,39,40,41,42,43,44,45,46,47,48,49,50,51,52,53,54,55,56,57,58,59,60,61,62,63,64,65,66,67,68,69,70,71,72,73,74,75,76,77,78,79,80] rfl (fun t h'=>∃ q,Ext h1 h'∧tmGet t 80= .bool q∧(q=true↔A.getD i default≠B.getD i default)) ?_ ?_
  ·refine WX.regionU2 0 rfl rfl ?_
   have kaX:SlMb (inC (asideN 0 h1)) xa A:=ka1
   have kbX:SlMb (inC (asideN 0 h1)) xb B:=kb1
   have paX:Piece (inC (asideN 0 h1)) xa (i * 5) [I (A.getD i default).site,I (A.getD i default).ty,I (A.getD i default).depth,.bool (A.getD i default).alive,va]:=pa1
   have pbX:Piece (inC (asideN 0 h1)) xb (i * 5) [I (B.getD i default).site,I (B.getD i default).ty,I (B.getD i default).depth,.bool (B.getD i default).alive,vb]:=pb1
   by_cases c1:(A.getD i default).site=(B.getD i default).site
   case neg=>
    refine goU ?_
    show cutK _ _ _ _ _ _ _
    exact cutK_normal ⟨true,by exact Ext.refl h1,sl_,⟨fun _ e=>c1 (by rw[e]),fun _=>rfl⟩⟩
   by_cases c2:(A.getD i default).ty=(B.getD i default).ty
   case neg=>
    refine goU ?_
    show cutK _ _ _ _ _ _ _
    exact cutK_normal ⟨true,by exact Ext.refl h1,sl_,⟨fun _ e=>c2 (by rw[e]),fun _=>rfl⟩⟩
   by_cases c3:(A.getD i default).depth=(B.getD i default).depth
   case neg=>
    refine goU ?_
    show cutK _ _ _ _ _ _ _
    exact cutK_normal ⟨true,by exact Ext.refl h1,sl_,⟨fun _ e=>c3 (by rw[e]),fun _=>rfl⟩⟩
   by_cases c4:(A.getD i default).alive=(B.getD i default).alive
   case neg=>
    have c4b:((A.getD i default).alive != (B.getD i default).alive)=true:=by simpa using c4
    refine goU ?_
    show cutK _ _ _ _ _ _ _
    exact cutK_normal ⟨true,by exact Ext.refl h1,sl_,⟨fun _ e=>c4 (by rw[e]),fun _=>rfl⟩⟩
   have c4b:((A.getD i default).alive != (B.getD i default).alive)=false:=by simpa using c4
   refine goU ?_
   refine WO.con (sameVals_ok (inC (asideN 0 h1)) va vb (A.getD i default).cells (B.getD i default).cells sa sb na) ?_
   rintro _ _ ⟨rfl,rfl⟩
   refine WO.nil ?_
   refine uK2_e (Ext.refl _) reads_call ?_
   refine goU ?_
   show cutK _ _ _ _ _ _ _
   refine cutK_normal ⟨_,by exact Ext.refl h1,sl_,⟨fun q e=> ?_,fun q=> ?_⟩⟩
   ·rw[decide_eq_true (by rw[e])]at q;cases q
   ·rw[decide_eq_false (fun c=>q (mb_ext c1 c2 c3 c4 c))];rfl
  rintro t2 h2 hs2 ⟨q,e2,s80,hq⟩
  have ka2:=SlMb.ext ka1 e2
  cases q
  ·refine go ?_
   refine loopK_normal (i+1) (by omega) ⟨e1.trans e2,sln,by omega,⟨fun j hj=> ?_⟩⟩
   by_cases e:j=i
   ·subst e;exact Classical.byContradiction fun c=>by have:=hq.2 c;cases this
   ·exact hI.out j (by omega)
  ·refine go ?_
   refine rt ?_
   refine⟨?_,e1.trans e2⟩
   rw[decide_eq_false (fun e=>hq.1 rfl (by rw[e]))];rfl
 ·refine go ?_
  refine rt ?_
  exact⟨by rw[decide_eq_true (list_ext hl fun j hj=>hI.out j (by omega))];rfl,e1⟩
noncomputable def body27_0:ACode:=(.seq (.seq (.region [⟨some 11,none,(.mov (.tmp 5))⟩,⟨some 12,none,(.mov (.tmp 0))⟩,⟨some 13,none,(.len (.tmp 12))⟩,⟨some 14,none,(.bin .lss (.tmp 11) (.tmp 13))⟩]) (.cond (.tmp 14) .skip (.exit 0))) (.seq (.block 1 (.seq (.regionC [(⟨some 17,none,(.mov (.tmp 0))⟩,[]),(⟨some 18,none,(.mov (.tmp 5))⟩,[]),(⟨some 19,none,(.idx 5 (.tmp 17) (.tmp 18))⟩,[]),(⟨some 20,none,(.fld 0 (.tmp 19))⟩,[]),(⟨some 21,none,(.load false 1 (.tmp 20))⟩,[]),(⟨some 22,none,(.mov (.tmp 1))⟩,[]),(⟨some 23,none,(.mov (.tmp 5))⟩,[]),(⟨some 24,none,(.idx 5 (.tmp 22) (.tmp 23))⟩,[]),(⟨some 25,none,(.fld 0 (.tmp 24))⟩,[]),(⟨some 26,none,(.load false 1 (.tmp 25))⟩,[]),(⟨some 27,none,(.bin .neq (.tmp 21) (.tmp 26))⟩,[]),(⟨some 28,none,(.mov (.tmp 27))⟩,[]),(⟨some 29,some (28,false),(.mov (.tmp 0))⟩,[]),(⟨some 30,some (28,false),(.mov (.tmp 5))⟩,[]),(⟨some 31,some (28,false),(.idx 5 (.tmp 29) (.tmp 30))⟩,[]),(⟨some 32,some (28,false),(.fld 1 (.tmp 31))⟩,[]),(⟨some 33,some (28,false),(.load false 1 (.tmp 32))⟩,[]),(⟨some 34,some (28,false),(.mov (.tmp 1))⟩,[]),(⟨some 35,some (28,false),(.mov (.tmp 5))⟩,[]),(⟨some 36,some (28,false),(.idx 5 (.tmp 34) (.tmp 35))⟩,[]),(⟨some 37,some (28,false),(.fld 1 (.tmp 36))⟩,[]),(⟨some 38,some (28,false),(.load false 1 (.tmp 37))⟩,[]),(⟨some 39,some (28,false),(.bin .neq (.tmp 33) (.tmp 38))⟩,[]),(⟨some 40,none,(.pick (.tmp 28) (.const (.bool true)) (.tmp 39))⟩,[]),(⟨some 41,none,(.mov (.tmp 40))⟩,[]),(⟨some 42,some (41,false),(.mov (.tmp 0))⟩,[]),(⟨some 43,some (41,false),(.mov (.tmp 5))⟩,[]),(⟨some 44,some (41,false),(.idx 5 (.tmp 42) (.tmp 43))⟩,[]),(⟨some 45,some (41,false),(.fld 2 (.tmp 44))⟩,[]),(⟨some 46,some (41,false),(.load false 1 (.tmp 45))⟩,[]),(⟨some 47,some (41,false),(.mov (.tmp 1))⟩,[]),(⟨some 48,some (41,false),(.mov (.tmp 5))⟩,[]),(⟨some 49,some (41,false),(.idx 5 (.tmp 47) (.tmp 48))⟩,[]),(⟨some 50,some (41,false),(.fld 2 (.tmp 49))⟩,[]),(⟨some 51,some (41,false),(.load false 1 (.tmp 50))⟩,[]),(⟨some 52,some (41,false),(.bin .neq (.tmp 46) (.tmp 51))⟩,[]),(⟨some 53,none,(.pick (.tmp 41) (.const (.bool true)) (.tmp 52))⟩,[]),(⟨some 54,none,(.mov (.tmp 53))⟩,[]),(⟨some 55,some (54,false),(.mov (.tmp 0))⟩,[]),(⟨some 56,some (54,false),(.mov (.tmp 5))⟩,[]),(⟨some 57,some (54,false),(.idx 5 (.tmp 55) (.tmp 56))⟩,[]),(⟨some 58,some (54,false),(.fld 4 (.tmp 57))⟩,[]),(⟨some 59,some (54,false),(.load false 1 (.tmp 58))⟩,[]),(⟨some 60,some (54,false),(.mov (.tmp 1))⟩,[]),(⟨some 61,some (54,false),(.mov (.tmp 5))⟩,[]),(⟨some 62,some (54,false),(.idx 5 (.tmp 60) (.tmp 61))⟩,[]),(⟨some 63,some (54,false),(.fld 4 (.tmp 62))⟩,[]),(⟨some 64,some (54,false),(.load false 1 (.tmp 63))⟩,[]),(⟨some 65,some (54,false),(.bin .neq (.tmp 59) (.tmp 64))⟩,[]),(⟨some 66,none,(.pick (.tmp 54) (.const (.bool true)) (.tmp 65))⟩,[]),(⟨some 67,none,(.mov (.tmp 66))⟩,[]),(⟨some 68,some (67,false),(.mov (.tmp 0))⟩,[]),(⟨some 69,some (67,false),(.mov (.tmp 5))⟩,[]),(⟨some 70,some (67,false),(.idx 5 (.tmp 68) (.tmp 69))⟩,[]),(⟨some 71,some (67,false),(.fld 3 (.tmp 70))⟩,[]),(⟨some 72,some (67,false),(.load false 1 (.tmp 71))⟩,[]),(⟨some 73,some (67,false),(.mov (.tmp 1))⟩,[]),(⟨some 74,some (67,false),(.mov (.tmp 5))⟩,[]),(⟨some 75,some (67,false),(.idx 5 (.tmp 73) (.tmp 74))⟩,[]),(⟨some 76,some (67,false),(.fld 3 (.tmp 75))⟩,[]),(⟨some 77,some (67,false),(.load false 1 (.tmp 76))⟩,[]),(⟨some 78,some (67,false),(.call (.func 31) [(.tmp 72),(.tmp 77)])⟩,[]),(⟨some 79,some (67,false),(.un .not (.tmp 78))⟩,[]),(⟨some 80,none,(.pick (.tmp 67) (.const (.bool true)) (.tmp 79))⟩,[])]) (.cond (.tmp 80) (.seq (.region [⟨some 4,none,(.mov (.const (.bool false)))⟩]) .ret) .skip))) (.region [⟨some 15,none,(.mov (.tmp 5))⟩,⟨some 16,none,(.bin .add (.tmp 15) (.const (.int .i64 1)))⟩,⟨some 5,none,(.mov (.tmp 16))⟩])))
noncomputable def body27:ACode:=(.seq (.region [⟨some 4,none,(.mov (.const (.bool false)))⟩]) (.seq (.seq (.region [⟨some 6,none,(.mov (.tmp 0))⟩,⟨some 7,none,(.len (.tmp 6))⟩,⟨some 8,none,(.mov (.tmp 1))⟩,⟨some 9,none,(.len (.tmp 8))⟩,⟨some 10,none,(.bin .neq (.tmp 7) (.tmp 9))⟩]) (.cond (.tmp 10) (.seq (.region [⟨some 4,none,(.mov (.const (.bool false)))⟩]) .ret) .skip)) (.seq (.seq (.region [⟨some 5,none,(.mov (.const (.int .i64 0)))⟩]) (.block 0 (.loop body27_0))) (.seq (.region [⟨some 4,none,(.mov (.const (.bool true)))⟩]) .ret))))
set_option maxRecDepth 100000 in
theorem tab27:tb.code 27=some ⟨81,[(4,none)],body27⟩:=by kernel_rfl
theorem rFrames_ok (h:AHeap) (xa xb:Value) (A B:List MFrm) (ka:SlMf h xa A) (kb:SlMf h xb B) (la:(A.length:Int)≤9223372036854775807):WC Try.prog tb 27 [xa,xb] h fun r h'=>r= .bool (decide (A=B))∧Ext h h':=by
 refine WC.of (nostub 27) tab27 ?_;simp only[mkTm,Nat.zero_add,Nat.reduceAdd]
 by_cases hl:A.length=B.length
 case neg=>
  refine go ?_
  refine rt ?_
  exact⟨by rw[decide_eq_false (fun e=>hl (by rw[e]))];rfl,Ext.refl _⟩
 refine go ?_
 refine WX.loopA [11,12,13,14,17,18,19,20,21,22,23,24,25,26,27,28,29,30,31,32,33,34,35,36,37,38,39,40,41,42,43,44,45,46,47,48,49,50,51,52,53,54,55,56,57,58,59,60,61,62,63,64,65,66,67,68,69,70,71,72,73,74,75,76,77,78,79,80,4,15,16,5] (by kernel_rfl) (fun i=>A.length - i) (fun i t h1=>Ext h h1∧tmGet t 5=I i∧i≤A.length∧Hid (∀ j,j<i→A.getD j default=B.getD j default)) 0 ?_ ?_
 ·exact⟨Ext.refl _,sl_,Nat.zero_le _,⟨fun j hj=>absurd hj (Nat.not_lt_zero _)⟩⟩
 rintro i t h1 hsame ⟨e1,s5,hi,hI⟩
 have ka1:=SlMf.ext ka e1
 have kb1:=SlMf.ext kb e1
 refine go ?_
 refine WX.br (fun hb=> ?_) (fun hb=> ?_)<;>simp only[DB]at hb
 ·obtain⟨ca,ra,pca,hsa⟩:=slr_atX ka1 (show i<A.length by omega)
  obtain⟨cb,rb,pcb,hsb⟩:=slr_atX kb1 (show i<B.length by omega)
  obtain⟨va,rfl,sa,na⟩:=ra
  obtain⟨vb,rfl,sb,nb⟩:=rb
  have pa1:=(pca _ (Ext.refl _)).2
  have pb1:=(pcb _ (Ext.refl _)).2
  refine go ?_
  refine WX.cutA [17,18,19,20,21,22,23,24,25,26,27,28,29,30,31,32,33,34,35,36,37,38,39,40,41,42,43,44,45,46,47,48,49,50,51,52,53,54,55,56,57,58,59,60,61,62,63,64,65,66,67,68,69,70,71,72,73,74,75,76,77,78,79,80] rfl (fun t h'=>∃ q,Ext h1 h'∧tmGet t 80= .bool q∧(q=true↔A.getD i default≠B.getD i default)) ?_ ?_
  ·refine WX.regionU2 0 rfl rfl ?_
   have kaX:SlMf (inC (asideN 0 h1)) xa A:=ka1
   have kbX:SlMf (inC (asideN 0 h1)) xb B:=kb1
   have paX:Piece (inC (asideN 0 h1)) xa (i * 5) [I (A.getD i default).fn,I (A.getD i default).block,I (A.getD i default).pos,va,I (A.getD i default).into]:=pa1
   have pbX:Piece (inC (asideN 0 h1)) xb (i * 5) [I (B.getD i default).fn,I (B.getD i default).block,I (B.getD i default).pos,vb,I (B.getD i default).into]:=pb1
   by_cases c1:(A.getD i default).fn=(B.getD i default).fn
   case neg=>
    refine goU ?_
    show cutK _ _ _ _ _ _ _
    exact cutK_normal ⟨true,by exact Ext.refl h1,sl_,⟨fun _ e=>c1 (by rw[e]),fun _=>rfl⟩⟩
   by_cases c2:(A.getD i default).block=(B.getD i default).block
   case neg=>
    refine goU ?_
    show cutK _ _ _ _ _ _ _
    exact cutK_normal ⟨true,by exact Ext.refl h1,sl_,⟨fun _ e=>c2 (by rw[e]),fun _=>rfl⟩⟩
   by_cases c3:(A.getD i default).pos=(B.getD i default).pos
   case neg=>
    refine goU ?_
    show cutK _ _ _ _ _ _ _
    exact cutK_normal ⟨true,by exact Ext.refl h1,sl_,⟨fun _ e=>c3 (by rw[e]),fun _=>rfl⟩⟩
   by_cases c4:(A.getD i default).into=(B.getD i default).into
   case neg=>
    refine goU ?_
    show cutK _ _ _ _ _ _ _
    exact cutK_normal ⟨true,by exact Ext.refl h1,sl_,⟨fun _ e=>c4 (by rw[e]),fun _=>rfl⟩⟩
   refine goU ?_
   refine WO.con (sameVals_ok (inC (asideN 0 h1)) va vb (A.getD i default).regs (B.getD i default).regs sa sb na) ?_
   rintro _ _ ⟨rfl,rfl⟩
   refine WO.nil ?_
   refine uK2_e (Ext.refl _) reads_call ?_
   refine goU ?_
   show cutK _ _ _ _ _ _ _
   refine cutK_normal ⟨_,by exact Ext.refl h1,sl_,⟨fun q e=> ?_,fun q=> ?_⟩⟩
   ·rw[decide_eq_true (by rw[e])]at q;cases q
   ·rw[decide_eq_false (fun c=>q (mf_ext c1 c2 c3 c c4))];rfl
  rintro t2 h2 hs2 ⟨q,e2,s80,hq⟩
  have ka2:=SlMf.ext ka1 e2
  cases q
  ·refine go ?_
   refine loopK_normal (i+1) (by omega) ⟨e1.trans e2,sln,by omega,⟨fun j hj=> ?_⟩⟩
   by_cases e:j=i
   ·subst e;exact Classical.byContradiction fun c=>by have:=hq.2 c;cases this
   ·exact hI.out j (by omega)
  ·refine go ?_
   refine rt ?_
   refine⟨?_,e1.trans e2⟩
   rw[decide_eq_false (fun e=>hq.1 rfl (by rw[e]))];rfl
 ·refine go ?_
  refine rt ?_
  exact⟨by rw[decide_eq_true (list_ext hl fun j hj=>hI.out j (by omega))];rfl,e1⟩
end Go.Proofs.Ytmilpkdhbdgjfaa
