/- What functions of the program come to in the abstract machine, and plain laws about it; no statement of the seat is proved in this text. -/
import Derived.Test.YtmilpkdhbdgjfaaJb
import Derived.Test.YtmilpkdhbdgjfaaAmV
namespace Go.Proofs.Ytmilpkdhbdgjfaa
open Go.Am
set_option linter.unusedVariables false
set_option linter.unusedSimpArgs false
set_option maxHeartbeats 2000000
noncomputable def body8:ACode:=(.seq (.region [⟨some 2,none,(.box (.tmp 0))⟩,⟨some 3,none,(.box (.tmp 1))⟩,⟨some 4,none,(.mov (.const (.bool false)))⟩]) (.seq (.seq (.region [⟨some 5,none,(.fld 3 (.tmp 2))⟩,⟨some 6,none,(.load false 1 (.tmp 5))⟩,⟨some 7,none,(.fld 3 (.tmp 3))⟩,⟨some 8,none,(.load false 1 (.tmp 7))⟩,⟨some 9,none,(.bin .neq (.tmp 6) (.tmp 8))⟩,⟨some 10,none,(.mov (.tmp 9))⟩,⟨some 11,some (10,false),(.fld 5 (.tmp 2))⟩,⟨some 12,some (10,false),(.load false 1 (.tmp 11))⟩,⟨some 13,some (10,false),(.fld 5 (.tmp 3))⟩,⟨some 14,some (10,false),(.load false 1 (.tmp 13))⟩,⟨some 15,some (10,false),(.bin .neq (.tmp 12) (.tmp 14))⟩,⟨some 16,none,(.pick (.tmp 10) (.const (.bool true)) (.tmp 15))⟩,⟨some 17,none,(.mov (.tmp 16))⟩,⟨some 18,some (17,false),(.fld 6 (.tmp 2))⟩,⟨some 19,some (17,false),(.load false 1 (.tmp 18))⟩,⟨some 20,some (17,false),(.fld 6 (.tmp 3))⟩,⟨some 21,some (17,false),(.load false 1 (.tmp 20))⟩,⟨some 22,some (17,false),(.bin .neq (.tmp 19) (.tmp 21))⟩,⟨some 23,none,(.pick (.tmp 17) (.const (.bool true)) (.tmp 22))⟩,⟨some 24,none,(.mov (.tmp 23))⟩,⟨some 25,some (24,false),(.fld 7 (.tmp 2))⟩,⟨some 26,some (24,false),(.load false 1 (.tmp 25))⟩,⟨some 27,some (24,false),(.fld 7 (.tmp 3))⟩,⟨some 28,some (24,false),(.load false 1 (.tmp 27))⟩,⟨some 29,some (24,false),(.bin .neq (.tmp 26) (.tmp 28))⟩,⟨some 30,none,(.pick (.tmp 24) (.const (.bool true)) (.tmp 29))⟩,⟨some 31,none,(.mov (.tmp 30))⟩,⟨some 32,some (31,false),(.fld 8 (.tmp 2))⟩,⟨some 33,some (31,false),(.load false 1 (.tmp 32))⟩,⟨some 34,some (31,false),(.fld 8 (.tmp 3))⟩,⟨some 35,some (31,false),(.load false 1 (.tmp 34))⟩,⟨some 36,some (31,false),(.bin .neq (.tmp 33) (.tmp 35))⟩,⟨some 37,none,(.pick (.tmp 31) (.const (.bool true)) (.tmp 36))⟩,⟨some 38,none,(.mov (.tmp 37))⟩,⟨some 39,some (38,false),(.fld 9 (.tmp 2))⟩,⟨some 40,some (38,false),(.load false 1 (.tmp 39))⟩,⟨some 41,some (38,false),(.fld 9 (.tmp 3))⟩,⟨some 42,some (38,false),(.load false 1 (.tmp 41))⟩,⟨some 43,some (38,false),(.bin .neq (.tmp 40) (.tmp 42))⟩,⟨some 44,none,(.pick (.tmp 38) (.const (.bool true)) (.tmp 43))⟩]) (.cond (.tmp 44) (.seq (.region [⟨some 4,none,(.mov (.const (.bool false)))⟩]) .ret) .skip)) (.seq (.region [⟨some 45,none,(.fld 2 (.tmp 2))⟩,⟨some 46,none,(.load false 1 (.tmp 45))⟩,⟨some 47,none,(.fld 2 (.tmp 3))⟩,⟨some 48,none,(.load false 1 (.tmp 47))⟩,⟨some 49,none,(.call (.func 24) [(.tmp 46),(.tmp 48)])⟩,⟨some 50,none,(.mov (.tmp 49))⟩,⟨some 51,some (50,true),(.fld 4 (.tmp 2))⟩,⟨some 52,some (50,true),(.load false 1 (.tmp 51))⟩,⟨some 53,some (50,true),(.fld 4 (.tmp 3))⟩,⟨some 54,some (50,true),(.load false 1 (.tmp 53))⟩,⟨some 55,some (50,true),(.call (.func 25) [(.tmp 52),(.tmp 54)])⟩,⟨some 56,none,(.pick (.tmp 50) (.tmp 55) (.const (.bool false)))⟩,⟨some 57,none,(.mov (.tmp 56))⟩,⟨some 58,some (57,true),(.fld 0 (.tmp 2))⟩,⟨some 59,some (57,true),(.load false 1 (.tmp 58))⟩,⟨some 60,some (57,true),(.fld 0 (.tmp 3))⟩,⟨some 61,some (57,true),(.load false 1 (.tmp 60))⟩,⟨some 62,some (57,true),(.call (.func 26) [(.tmp 59),(.tmp 61)])⟩,⟨some 63,none,(.pick (.tmp 57) (.tmp 62) (.const (.bool false)))⟩,⟨some 64,none,(.mov (.tmp 63))⟩,⟨some 65,some (64,true),(.fld 1 (.tmp 2))⟩,⟨some 66,some (64,true),(.load false 1 (.tmp 65))⟩,⟨some 67,some (64,true),(.fld 1 (.tmp 3))⟩,⟨some 68,some (64,true),(.load false 1 (.tmp 67))⟩,⟨some 69,some (64,true),(.call (.func 27) [(.tmp 66),(.tmp 68)])⟩,⟨some 70,none,(.pick (.tmp 64) (.tmp 69) (.const (.bool false)))⟩,⟨some 4,none,(.mov (.tmp 70))⟩]) .ret)))
set_option maxRecDepth 100000 in
theorem tab8:tb.code 8=some ⟨71,[(4,none)],body8⟩:=by kernel_rfl
theorem rMachSame_ok (h:AHeap) (ca cb:List Value) (a b:MMach) (ra:RMm h ca a) (rb:RMm h cb b):WC Try.prog tb 8 [.agg ca.toArray,.agg cb.toArray] h fun r h'=>r= .bool (decide (a=b))∧Ext h h':=by
 obtain⟨am,af,ai,ae,rfl,kam,kaf,kai,kae,lam,laf,lai,lae⟩:=ra
 obtain⟨bm,bf,bi,be,rfl,kbm,kbf,kbi,kbe,lbm,lbf,lbi,lbe⟩:=rb
 refine WC.of (nostub 8) tab8 ?_;simp only[mkTm,Nat.zero_add,Nat.reduceAdd]
 refine go ?_
 refine WO.bx ?_
 intro p h1 e1 o1
 refine go ?_
 refine WO.bx ?_
 intro q h2 e2 o2
 have o1:=o1.ext e2
 have e12:=e1.trans e2
 by_cases c1:a.used=b.used
 case neg=>
  refine go ?_
  refine rt ?_
  exact⟨by rw[decide_eq_false (fun e=>c1 (by rw[e]))];rfl,e12⟩
 by_cases c2:a.steps=b.steps
 case neg=>
  refine go ?_
  refine rt ?_
  exact⟨by rw[decide_eq_false (fun e=>c2 (by rw[e]))];rfl,e12⟩
 by_cases c3:a.heaps=b.heaps
 case neg=>
  refine go ?_
  refine rt ?_
  exact⟨by rw[decide_eq_false (fun e=>c3 (by rw[e]))];rfl,e12⟩
 by_cases c4:a.state=b.state
 case neg=>
  refine go ?_
  refine rt ?_
  exact⟨by rw[decide_eq_false (fun e=>c4 (by rw[e]))];rfl,e12⟩
 by_cases c5:a.trap=b.trap
 case neg=>
  refine go ?_
  refine rt ?_
  exact⟨by rw[decide_eq_false (fun e=>c5 (by rw[e]))];rfl,e12⟩
 by_cases c6:a.exit=b.exit
 case neg=>
  refine go ?_
  refine rt ?_
  exact⟨by rw[decide_eq_false (fun e=>c6 (by rw[e]))];rfl,e12⟩
 refine go ?_
 refine WO.con (sameNumbers_ok h2 ai bi a.inn b.inn (SlI.ext kai e12) (SlI.ext kbi e12) lai) ?_
 rintro _ _ ⟨rfl,rfl⟩
 by_cases ci:a.inn=b.inn
 case neg=>
  rw[decide_eq_false ci]
  refine go ?_
  refine rt ?_
  exact⟨by rw[decide_eq_false (fun e=>ci (by rw[e]))];rfl,e12⟩
 rw[decide_eq_true ci]
 refine go ?_
 refine WO.con (sameEvents_ok h2 ae be a.evs b.evs (SlE.ext kae e12) (SlE.ext kbe e12) lae) ?_
 rintro _ _ ⟨rfl,rfl⟩
 by_cases cv:a.evs=b.evs
 case neg=>
  rw[decide_eq_false cv]
  refine go ?_
  refine rt ?_
  exact⟨by rw[decide_eq_false (fun e=>cv (by rw[e]))];rfl,e12⟩
 rw[decide_eq_true cv]
 refine go ?_
 refine WO.con (rMemSame_ok h2 am bm a.mem b.mem (SlMb.ext kam e12) (SlMb.ext kbm e12) lam) ?_
 rintro _ hcm ⟨rfl,ecm⟩
 have o1:=o1.ext ecm
 have o2:=o2.ext ecm
 by_cases cm:a.mem=b.mem
 case neg=>
  rw[decide_eq_false cm]
  refine go ?_
  refine rt ?_
  exact⟨by rw[decide_eq_false (fun e=>cm (by rw[e]))];rfl,(e12.trans ecm)⟩
 rw[decide_eq_true cm]
 refine go ?_
 refine WO.con (rFrames_ok hcm af bf a.frs b.frs (SlMf.ext kaf (e12.trans ecm)) (SlMf.ext kbf (e12.trans ecm)) laf) ?_
 rintro _ hcf ⟨rfl,ecf⟩
 have o1:=o1.ext ecf
 have o2:=o2.ext ecf
 refine go ?_
 refine rt ?_
 refine⟨?_,((e12.trans ecm).trans ecf)⟩
 by_cases cf:a.frs=b.frs
 ·rw[decide_eq_true cf,decide_eq_true (mm_ext cm cf ci c1 cv c2 c3 c4 c5 c6)];rfl
 ·rw[decide_eq_false cf,decide_eq_false (fun e=>cf (by rw[e]))];rfl
end Go.Proofs.Ytmilpkdhbdgjfaa
namespace Go.Proofs.Ytmilpkdhbdgjfaa
open Go.Am
set_option linter.unusedVariables false
set_option linter.unusedSimpArgs false
set_option maxHeartbeats 2000000
noncomputable def body10_0:ACode:=(.seq (.seq (.region [⟨some 4,none,(.mov (.tmp 3))⟩,⟨some 5,none,(.mov (.tmp 0))⟩,⟨some 6,none,(.len (.tmp 5))⟩,⟨some 7,none,(.bin .lss (.tmp 4) (.tmp 6))⟩,⟨some 8,none,(.mov (.tmp 7))⟩,⟨some 9,some (8,true),(.mov (.tmp 3))⟩,⟨some 10,some (8,true),(.bin .lss (.tmp 9) (.const (.int .i64 50)))⟩,⟨some 11,none,(.pick (.tmp 8) (.tmp 10) (.const (.bool false)))⟩]) (.cond (.tmp 11) .skip (.exit 0))) (.seq (.block 1 (.seq (.region [⟨some 14,none,(.mov (.tmp 0))⟩,⟨some 15,none,(.mov (.tmp 3))⟩,⟨some 16,none,(.idx 5 (.tmp 14) (.tmp 15))⟩,⟨some 17,none,(.fld 4 (.tmp 16))⟩,⟨some 18,none,(.load false 1 (.tmp 17))⟩,⟨some 19,none,(.len (.tmp 18))⟩,⟨some 20,none,(.bin .gtr (.tmp 19) (.const (.int .i64 40)))⟩]) (.cond (.tmp 20) (.seq (.region [⟨some 2,none,(.mov (.const (.bool true)))⟩]) .ret) .skip))) (.region [⟨some 12,none,(.mov (.tmp 3))⟩,⟨some 13,none,(.bin .add (.tmp 12) (.const (.int .i64 1)))⟩,⟨some 3,none,(.mov (.tmp 13))⟩])))
noncomputable def body10:ACode:=(.seq (.region [⟨some 2,none,(.mov (.const (.bool false)))⟩]) (.seq (.seq (.region [⟨some 3,none,(.mov (.const (.int .i64 0)))⟩]) (.block 0 (.loop body10_0))) (.seq (.region [⟨some 21,none,(.mov (.tmp 0))⟩,⟨some 22,none,(.len (.tmp 21))⟩,⟨some 23,none,(.bin .gtr (.tmp 22) (.const (.int .i64 40)))⟩,⟨some 2,none,(.mov (.tmp 23))⟩]) .ret)))
set_option maxRecDepth 100000 in
theorem tab10:tb.code 10=some ⟨24,[(2,none)],body10⟩:=by kernel_rfl
theorem memGreat_ok (h:AHeap) (v:Value) (l:List MBlk) (k:SlMb h v l) (hl:(l.length:Int)≤9223372036854775807):WC Try.prog tb 10 [v] h fun r h'=>(r= .bool true∨(r= .bool false∧l.length≤40∧∀ i,i<l.length→(l.getD i default).cells.length≤40))∧h=h':=by
 refine WC.of (nostub 10) tab10 ?_;simp only[mkTm,Nat.zero_add,Nat.reduceAdd]
 refine go ?_
 refine WX.loopA [4,5,6,7,8,9,10,11,14,15,16,17,18,19,20,2,12,13,3] (by kernel_rfl) (fun i=>l.length - i) (fun i t h1=>h=h1∧tmGet t 3=I i∧i≤l.length∧i≤50∧Hid (∀ j,j<i→(l.getD j default).cells.length≤40)) 0 ?_ ?_
 ·exact⟨rfl,sl_,Nat.zero_le _,Nat.zero_le _,⟨fun j hj=>absurd hj (Nat.not_lt_zero _)⟩⟩
 rintro i t _ hsame ⟨rfl,s3,hi,h50,hI⟩
 by_cases c1:(i:Int)<(l.length:Int)
 ·by_cases c2:(i:Int)<50
  ·obtain⟨ca,ra,pca,hsa⟩:=slr_atX k (show i<l.length by omega)
   obtain⟨va,rfl,sa,na⟩:=ra
   have pa:=(pca _ (Ext.refl _)).1
   refine go ?_
   refine WX.br (fun hb=> ?_) (fun hb=> ?_)<;>simp only[DB]at hb<;>refine go ?_
   ·refine rt ?_
    exact⟨.inl rfl,rfl⟩
   ·refine loopK_normal (i+1) (by omega) ⟨rfl,sln,by omega,by omega,⟨fun j hj=> ?_⟩⟩
    by_cases e:j=i
    ·subst e;omega
    ·exact hI.out j (by omega)
  ·have:(40:Int)<(l.length:Int):=by omega
   refine go ?_
   refine rt ?_
   exact⟨.inl (by rw[decide_eq_true this];rfl),rfl⟩
 ·have e:i=l.length:=by omega
  subst e
  by_cases c3:(40:Int)<(l.length:Int)
  ·refine go ?_
   refine rt ?_
   exact⟨.inl (by rw[decide_eq_true c3];rfl),rfl⟩
  ·refine go ?_
   refine rt ?_
   exact⟨.inr ⟨by rw[decide_eq_false c3];rfl,by omega,hI.out⟩,rfl⟩
noncomputable def body4_0:ACode:=(.seq (.seq (.region [⟨some 4,none,(.mov (.tmp 3))⟩,⟨some 5,none,(.fld 1 (.tmp 1))⟩,⟨some 6,none,(.load false 1 (.tmp 5))⟩,⟨some 7,none,(.len (.tmp 6))⟩,⟨some 8,none,(.bin .lss (.tmp 4) (.tmp 7))⟩,⟨some 9,none,(.mov (.tmp 8))⟩,⟨some 10,some (9,true),(.mov (.tmp 3))⟩,⟨some 11,some (9,true),(.bin .lss (.tmp 10) (.const (.int .i64 50)))⟩,⟨some 12,none,(.pick (.tmp 9) (.tmp 11) (.const (.bool false)))⟩]) (.cond (.tmp 12) .skip (.exit 0))) (.seq (.block 1 (.seq (.region [⟨some 15,none,(.fld 1 (.tmp 1))⟩,⟨some 16,none,(.load false 1 (.tmp 15))⟩,⟨some 17,none,(.mov (.tmp 3))⟩,⟨some 18,none,(.idx 5 (.tmp 16) (.tmp 17))⟩,⟨some 19,none,(.fld 3 (.tmp 18))⟩,⟨some 20,none,(.load false 1 (.tmp 19))⟩,⟨some 21,none,(.len (.tmp 20))⟩,⟨some 22,none,(.bin .gtr (.tmp 21) (.const (.int .i64 200)))⟩]) (.cond (.tmp 22) (.seq (.region [⟨some 2,none,(.mov (.const (.bool true)))⟩]) .ret) .skip))) (.region [⟨some 13,none,(.mov (.tmp 3))⟩,⟨some 14,none,(.bin .add (.tmp 13) (.const (.int .i64 1)))⟩,⟨some 3,none,(.mov (.tmp 14))⟩])))
noncomputable def body4:ACode:=(.seq (.region [⟨some 1,none,(.box (.tmp 0))⟩,⟨some 2,none,(.mov (.const (.bool false)))⟩]) (.seq (.seq (.region [⟨some 3,none,(.mov (.const (.int .i64 0)))⟩]) (.block 0 (.loop body4_0))) (.seq (.region [⟨some 23,none,(.fld 0 (.tmp 1))⟩,⟨some 24,none,(.load false 1 (.tmp 23))⟩,⟨some 25,none,(.call (.func 10) [(.tmp 24)])⟩,⟨some 26,none,(.mov (.tmp 25))⟩,⟨some 27,some (26,false),(.fld 1 (.tmp 1))⟩,⟨some 28,some (26,false),(.load false 1 (.tmp 27))⟩,⟨some 29,some (26,false),(.len (.tmp 28))⟩,⟨some 30,some (26,false),(.bin .gtr (.tmp 29) (.const (.int .i64 40)))⟩,⟨some 31,none,(.pick (.tmp 26) (.const (.bool true)) (.tmp 30))⟩,⟨some 32,none,(.mov (.tmp 31))⟩,⟨some 33,some (32,false),(.fld 2 (.tmp 1))⟩,⟨some 34,some (32,false),(.load false 1 (.tmp 33))⟩,⟨some 35,some (32,false),(.len (.tmp 34))⟩,⟨some 36,some (32,false),(.bin .gtr (.tmp 35) (.const (.int .i64 100)))⟩,⟨some 37,none,(.pick (.tmp 32) (.const (.bool true)) (.tmp 36))⟩,⟨some 38,none,(.mov (.tmp 37))⟩,⟨some 39,some (38,false),(.fld 4 (.tmp 1))⟩,⟨some 40,some (38,false),(.load false 1 (.tmp 39))⟩,⟨some 41,some (38,false),(.len (.tmp 40))⟩,⟨some 42,some (38,false),(.bin .gtr (.tmp 41) (.const (.int .i64 200)))⟩,⟨some 43,none,(.pick (.tmp 38) (.const (.bool true)) (.tmp 42))⟩,⟨some 2,none,(.mov (.tmp 43))⟩]) .ret)))
set_option maxRecDepth 100000 in
theorem tab4:tb.code 4=some ⟨44,[(2,none)],body4⟩:=by kernel_rfl
theorem machGreat_ok (h:AHeap) (ca:List Value) (a:MMach) (ra:RMm h ca a):WC Try.prog tb 4 [.agg ca.toArray] h fun r h'=>(r= .bool true∨(r= .bool false∧a.mem.length≤40∧(∀ i,i<a.mem.length→(a.mem.getD i default).cells.length≤40)∧a.frs.length≤40∧(∀ i,i<a.frs.length→(a.frs.getD i default).regs.length≤200)∧a.inn.length≤100∧a.evs.length≤200))∧Ext h h':=by
 obtain⟨am,af,ai,ae,rfl,kam,kaf,kai,kae,lam,laf,lai,lae⟩:=ra
 refine WC.of (nostub 4) tab4 ?_;simp only[mkTm,Nat.zero_add,Nat.reduceAdd]
 refine go ?_
 refine WO.bx ?_
 intro p h1 e1 o1
 have kam1:=SlMb.ext kam e1
 have kaf1:=SlMf.ext kaf e1
 have kai1:=SlI.ext kai e1
 have kae1:=SlE.ext kae e1
 refine go ?_
 refine WX.loopA [4,5,6,7,8,9,10,11,12,15,16,17,18,19,20,21,22,2,13,14,3] (by kernel_rfl) (fun i=>a.frs.length - i) (fun i t h2=>h1=h2∧tmGet t 3=I i∧i≤a.frs.length∧i≤50∧Hid (∀ j,j<i→(a.frs.getD j default).regs.length≤200)) 0 ?_ ?_
 ·exact⟨rfl,sl_,Nat.zero_le _,Nat.zero_le _,⟨fun j hj=>absurd hj (Nat.not_lt_zero _)⟩⟩
 rintro i t _ hsame ⟨rfl,s3,hi,h50,hI⟩
 by_cases c1:(i:Int)<(a.frs.length:Int)∧(i:Int)<50
 ·obtain⟨c1,c2⟩:=c1
  obtain⟨ca,rx,pca,hsa⟩:=slr_atX kaf1 (show i<a.frs.length by omega)
  obtain⟨va,rfl,sa,na⟩:=rx
  have pa:=(pca _ (Ext.refl _)).1
  refine go ?_
  refine WX.br (fun hb=> ?_) (fun hb=> ?_)<;>simp only[DB]at hb<;>refine go ?_
  ·refine rt ?_
   exact⟨.inl rfl,e1⟩
  ·refine loopK_normal (i+1) (by omega) ⟨rfl,sln,by omega,by omega,⟨fun j hj=> ?_⟩⟩
   by_cases e:j=i
   ·subst e;omega
   ·exact hI.out j (by omega)
 ·have hex:(i:Int)<(a.frs.length:Int)→¬(i:Int)<50:=fun q1 q2=>c1 ⟨q1,q2⟩
  have key:∀ (G:Prop),((i:Int)<(a.frs.length:Int)→¬(i:Int)<50→G)→(¬(i:Int)<(a.frs.length:Int)→G)→G:=fun G g1 g2=>(Classical.em _).elim (fun q=>g1 q (hex q)) g2
  refine key _ (fun d1 d2=> ?_) (fun d1=> ?_)
  ·refine go ?_
   refine WO.con (memGreat_ok h1 am a.mem kam1 lam) ?_
   rintro r _ ⟨hr,rfl⟩
   have c4:(40:Int)<(a.frs.length:Int):=by omega
   rcases hr with rfl|⟨rfl,m1,m2⟩
   ·refine go ?_
    refine rt ?_
    exact⟨.inl rfl,e1⟩
   ·refine go ?_
    refine rt ?_
    exact⟨.inl rfl,e1⟩
  ·have e:i=a.frs.length:=by omega
   subst e
   refine go ?_
   refine WO.con (memGreat_ok h1 am a.mem kam1 lam) ?_
   rintro r _ ⟨hr,rfl⟩
   rcases hr with rfl|⟨rfl,m1,m2⟩
   ·refine go ?_
    refine rt ?_
    exact⟨.inl rfl,e1⟩
   by_cases c4:(40:Int)<(a.frs.length:Int)
   ·refine go ?_
    refine rt ?_
    exact⟨.inl rfl,e1⟩
   by_cases c5:(100:Int)<(a.inn.length:Int)
   ·refine go ?_
    refine rt ?_
    exact⟨.inl rfl,e1⟩
   by_cases c6:(200:Int)<(a.evs.length:Int)
   ·refine go ?_
    refine rt ?_
    exact⟨.inl (by rw[decide_eq_true c6];rfl),e1⟩
   refine go ?_
   refine rt ?_
   exact⟨.inr ⟨by rw[decide_eq_false c6];rfl,m1,m2,by omega,hI.out,by omega,by omega⟩,e1⟩
end Go.Proofs.Ytmilpkdhbdgjfaa
namespace Go.Proofs.Ytmilpkdhbdgjfaa
open Go.Am
set_option linter.unusedVariables false
set_option linter.unusedSimpArgs false
set_option maxHeartbeats 2000000
structure RawB where
 site:Int
 ty:Int
 depth:Int
 alive:Bool
 v:Value
deriving Inhabited
structure RawF where
 fn:Int
 block:Int
 pos:Int
 v:Value
 into:Int
deriving Inhabited
def RRb (_:AHeap) (cs:List Value) (x:RawB):Prop:=cs=[I x.site,I x.ty,I x.depth,.bool x.alive,x.v]∧oneCells [x.v]=true
def RRf (_:AHeap) (cs:List Value) (x:RawF):Prop:=cs=[I x.fn,I x.block,I x.pos,x.v,I x.into]∧oneCells [x.v]=true
theorem getD_of {α:Type} [Inhabited α] {l:List α} {i:Nat} {a:α} (h:l[i]?=some a):l.getD i default=a:=by rw[List.getD_eq_getElem?_getD,h];rfl
theorem slr_raw {α β:Type} [Inhabited α] [Inhabited β] {c:Nat} {A:AHeap→List Value→α→Prop} {B:AHeap→List Value→β→Prop} {h:AHeap} {v:Value} {l:List α} (s:SlR c A h v l) {rel:β→α→Prop} (hr:∀ cs a,A h cs a→∃ x,B h cs x∧rel x a):
  ∃ xs,SlR c B h v xs∧xs.length=l.length∧∀ i,i<l.length→rel (xs.getD i default) (l.getD i default):=by
 obtain⟨cells,s1,s2⟩:=s
 obtain⟨xs,x1,x2⟩:=list_of (p:=fun i x=>B h ((cells.drop (i * c)).take c) x∧rel x (l.getD i default)) l.length fun i hi=>by
  obtain⟨x,a,b⟩:=hr _ _ (s2 i l[i] (List.getElem?_eq_getElem hi))
  exact⟨x,a,by rw[getD_of (List.getElem?_eq_getElem hi)];exact b⟩
 refine⟨xs,⟨cells,by rw[x1];exact s1,fun i x hx=>(x2 i x hx).1⟩,x1,fun i hi=> ?_⟩
 have hx:xs[i]?=some xs[i]:=List.getElem?_eq_getElem (by omega)
 rw[getD_of hx];exact(x2 i _ hx).2
theorem slr_shapeM {α:Type} {c:Nat} {R:AHeap→List Value→α→Prop} {h:AHeap} {v:Value} {T:List α} (s:SlR c R h v T):∃ a n k,v= .slice a n k:=let ⟨_,a,_⟩:=s;a.shape
theorem slr_none {α:Type} {c n k:Nat} {R:AHeap→List Value→α→Prop} {h:AHeap} {T:List α} (s:SlR c R h (.slice none n k) T):T=[]:=by
 obtain⟨cells,s1,_⟩:=s
 rcases s1.2 with ⟨h0,_⟩|⟨g,off,row,hv,_⟩
 ·exact List.length_eq_zero_iff.1 h0
 ·cases hv
theorem mem_getD {α:Type} [Inhabited α] {l:List α} {i:Nat} (h:i<l.length):l.getD i default∈l:=by
 rw[getD_of (List.getElem?_eq_getElem h)];exact List.getElem_mem h
theorem take_succM {α:Type} [Inhabited α] {l:List α} {i:Nat} (h:i<l.length):l.take (i+1)=l.take i++[l.getD i default]:=by
 rw[List.take_add_one,List.getElem?_eq_getElem h,getD_of (List.getElem?_eq_getElem h)];rfl
theorem own_atM {h0 h:AHeap} {p:Value} {cs:List Value} (o:OwnC h0 h p cs):∀ g,p= .pointer (some ⟨g,0,none⟩)→h0.n≤g∧g<h.n:=by
 obtain⟨g,a,b,rfl,_⟩:=o
 intro g' e;cases e;exact⟨a,b⟩
theorem ownR_ltM {α:Type} {c b:Nat} {R:AHeap→List Value→α→Prop} {h:AHeap} {v:Value} {xs:List α} (o:OwnR c R b h v xs) {g n k:Nat} (e:v= .slice (some ⟨g,0,none⟩) n k):b≤g∧g<h.n:=by
 rcases o with ⟨e2,_⟩|⟨g1,_,_,g2,g3,e2,_⟩
 ·rw[e2]at e;cases e
 ·rw[e2]at e;cases e;exact⟨g2,g3⟩
theorem RMb.raw {h cs a} (r:RMb h cs a):∃ x,RRb h cs x∧(x.site=a.site∧x.ty=a.ty∧x.depth=a.depth∧x.alive=a.alive∧SlV h x.v a.cells):=by
 obtain⟨v,rfl,s,hl⟩:=r
 obtain⟨p,n,k,rfl⟩:=slv_shape s
 exact⟨⟨a.site,a.ty,a.depth,a.alive,.slice p n k⟩,⟨rfl,rfl⟩,rfl,rfl,rfl,rfl,s⟩
theorem RMf.raw {h cs a} (r:RMf h cs a):∃ x,RRf h cs x∧(x.fn=a.fn∧x.block=a.block∧x.pos=a.pos∧x.into=a.into∧SlV h x.v a.regs):=by
 obtain⟨v,rfl,s,hl⟩:=r
 obtain⟨p,n,k,rfl⟩:=slv_shape s
 exact⟨⟨a.fn,a.block,a.pos,.slice p n k,a.into⟩,⟨rfl,rfl⟩,rfl,rfl,rfl,rfl,s⟩
theorem RVal.one {h cs a} (r:RVal h cs a):oneCells cs=true:=by rw[show cs=_ from r];rfl
theorem REv.one {h cs a} (r:REv h cs a):oneCells cs=true:=by rw[show cs=_ from r];rfl
theorem one_app {a b:List Value} (h1:oneCells a=true) (h2:oneCells b=true):oneCells (a++b)=true:=by
 unfold oneCells at *;rw[List.all_append,h1,h2];rfl
theorem RRb.one {h cs a} (r:RRb h cs a):oneCells cs=true:=by rw[show cs=[I a.site,I a.ty,I a.depth,.bool a.alive]++[a.v] from r.1];exact one_app rfl r.2
theorem RRf.one {h cs a} (r:RRf h cs a):oneCells cs=true:=by rw[show cs=[I a.fn,I a.block,I a.pos]++([a.v]++[I a.into]) from r.1];exact one_app rfl (one_app r.2 rfl)
noncomputable def body17:ACode:=(.seq (.region [⟨some 2,none,(.mov (.const (.slice none 0 0)))⟩]) (.seq (.seq (.region [⟨some 3,none,(.mov (.tmp 0))⟩,⟨some 4,none,(.isNil 0 false (.tmp 3))⟩]) (.cond (.tmp 4) (.seq (.region [⟨some 2,none,(.mov (.const (.slice none 0 0)))⟩]) .ret) .skip)) (.seq (.region [⟨some 5,none,(.buildSlice 0 4 [(.int .u8 0),(.int .i64 0),(.int .i64 0),(.int .i64 0)] [])⟩,⟨some 6,none,(.mov (.tmp 0))⟩,⟨some 7,none,(.append 4 (.tmp 5) (.tmp 6))⟩,⟨some 2,none,(.mov (.tmp 7))⟩]) .ret)))
set_option maxRecDepth 100000 in
theorem tab17:tb.code 17=some ⟨8,[(2,none)],body17⟩:=by kernel_rfl
theorem cloneV_ok (h:AHeap) (v:Value) (l:List MVal) (s:SlV h v l) (hl:l.length≤100000):WC Try.prog tb 17 [v] h fun r h'=>OwnR 4 RVal h.n h' r l∧Ext h h':=by
 refine WC.of (nostub 17) tab17 ?_;simp only[mkTm,Nat.zero_add,Nat.reduceAdd]
 obtain⟨a,n,k,rfl⟩:=slr_shapeM s
 cases a with
 |none=>
  have hn:l=[]:=slr_none s
  subst hn
  refine go ?_
  refine WX.br (fun hb=> ?_) (fun hb=> ?_)
  ·refine go ?_
   refine rt ?_
   exact⟨OwnR.nil,Ext.refl _⟩
  ·exact absurd hb (by simp)
 |some a=>
  refine go ?_
  refine WX.br (fun hb=> ?_) (fun hb=> ?_)
  ·exact absurd hb (by simp)
  ·refine go ?_
   refine WO.bl0 RVal ?_
   intro v1 h1 e1 o1
   refine go ?_
   refine WO.apAll o1 (SlV.ext s e1) (by decide) (fun cs a r hx _ _=>r) (fun cs a r=>r.one) e1 (Nat.le_refl _) e1.n hl ?_
   intro v2 h2 e2 o2
   refine go ?_
   refine rt ?_
   exact⟨o2,e2⟩
noncomputable def body15:ACode:=(.seq (.region [⟨some 2,none,(.mov (.const (.slice none 0 0)))⟩]) (.seq (.seq (.region [⟨some 3,none,(.mov (.tmp 0))⟩,⟨some 4,none,(.isNil 0 false (.tmp 3))⟩]) (.cond (.tmp 4) (.seq (.region [⟨some 2,none,(.mov (.const (.slice none 0 0)))⟩]) .ret) .skip)) (.seq (.region [⟨some 5,none,(.buildSlice 0 2 [(.int .u8 0),(.int .i64 0)] [])⟩,⟨some 6,none,(.mov (.tmp 0))⟩,⟨some 7,none,(.append 2 (.tmp 5) (.tmp 6))⟩,⟨some 2,none,(.mov (.tmp 7))⟩]) .ret)))
set_option maxRecDepth 100000 in
theorem tab15:tb.code 15=some ⟨8,[(2,none)],body15⟩:=by kernel_rfl
theorem cloneE_ok (h:AHeap) (v:Value) (l:List MEv) (s:SlE h v l) (hl:l.length≤100000):WC Try.prog tb 15 [v] h fun r h'=>OwnR 2 REv h.n h' r l∧Ext h h':=by
 refine WC.of (nostub 15) tab15 ?_;simp only[mkTm,Nat.zero_add,Nat.reduceAdd]
 obtain⟨a,n,k,rfl⟩:=slr_shapeM s
 cases a with
 |none=>
  have hn:l=[]:=slr_none s
  subst hn
  refine go ?_
  refine WX.br (fun hb=> ?_) (fun hb=> ?_)
  ·refine go ?_
   refine rt ?_
   exact⟨OwnR.nil,Ext.refl _⟩
  ·exact absurd hb (by simp)
 |some a=>
  refine go ?_
  refine WX.br (fun hb=> ?_) (fun hb=> ?_)
  ·exact absurd hb (by simp)
  ·refine go ?_
   refine WO.bl0 REv ?_
   intro v1 h1 e1 o1
   refine go ?_
   refine WO.apAll o1 (SlE.ext s e1) (by decide) (fun cs a r hx _ _=>r) (fun cs a r=>r.one) e1 (Nat.le_refl _) e1.n hl ?_
   intro v2 h2 e2 o2
   refine go ?_
   refine rt ?_
   exact⟨o2,e2⟩
noncomputable def body16:ACode:=(.seq (.region [⟨some 2,none,(.mov (.const (.slice none 0 0)))⟩]) (.seq (.seq (.region [⟨some 3,none,(.mov (.tmp 0))⟩,⟨some 4,none,(.isNil 0 false (.tmp 3))⟩]) (.cond (.tmp 4) (.seq (.region [⟨some 2,none,(.mov (.const (.slice none 0 0)))⟩]) .ret) .skip)) (.seq (.region [⟨some 5,none,(.buildSlice 0 5 [(.int .i64 0),(.int .i64 0),(.int .i64 0),(.slice none 0 0),(.int .i64 0)] [])⟩,⟨some 6,none,(.mov (.tmp 0))⟩,⟨some 7,none,(.append 5 (.tmp 5) (.tmp 6))⟩,⟨some 2,none,(.mov (.tmp 7))⟩]) .ret)))
set_option maxRecDepth 100000 in
theorem tab16:tb.code 16=some ⟨8,[(2,none)],body16⟩:=by kernel_rfl
theorem cloneF_ok (h:AHeap) (v:Value) (l:List RawF) (s:SlR 5 RRf h v l) (hl:l.length≤100000):WC Try.prog tb 16 [v] h fun r h'=>OwnR 5 RRf h.n h' r l∧Ext h h':=by
 refine WC.of (nostub 16) tab16 ?_;simp only[mkTm,Nat.zero_add,Nat.reduceAdd]
 obtain⟨a,n,k,rfl⟩:=slr_shapeM s
 cases a with
 |none=>
  have hn:l=[]:=slr_none s
  subst hn
  refine go ?_
  refine WX.br (fun hb=> ?_) (fun hb=> ?_)
  ·refine go ?_
   refine rt ?_
   exact⟨OwnR.nil,Ext.refl _⟩
  ·exact absurd hb (by simp)
 |some a=>
  refine go ?_
  refine WX.br (fun hb=> ?_) (fun hb=> ?_)
  ·exact absurd hb (by simp)
  ·refine go ?_
   refine WO.bl0 RRf ?_
   intro v1 h1 e1 o1
   refine go ?_
   refine WO.apAll o1 (SlR.ext (h:=h) (h':=h1) (fun cs a (r:RRf h cs a)=>(r:RRf h1 cs a)) s e1) (by decide) (fun cs a r hx _ _=>r) (fun cs a r=>r.one) e1 (Nat.le_refl _) e1.n hl ?_
   intro v2 h2 e2 o2
   refine go ?_
   refine rt ?_
   exact⟨o2,e2⟩
noncomputable def body28:ACode:=(.seq (.region [⟨some 2,none,(.mov (.const (.slice none 0 0)))⟩]) (.seq (.seq (.region [⟨some 3,none,(.mov (.tmp 0))⟩,⟨some 4,none,(.isNil 0 false (.tmp 3))⟩]) (.cond (.tmp 4) (.seq (.region [⟨some 2,none,(.mov (.const (.slice none 0 0)))⟩]) .ret) .skip)) (.seq (.region [⟨some 5,none,(.buildSlice 0 5 [(.int .i64 0),(.int .i64 0),(.int .i64 0),(.bool false),(.slice none 0 0)] [])⟩,⟨some 6,none,(.mov (.tmp 0))⟩,⟨some 7,none,(.append 5 (.tmp 5) (.tmp 6))⟩,⟨some 2,none,(.mov (.tmp 7))⟩]) .ret)))
set_option maxRecDepth 100000 in
theorem tab28:tb.code 28=some ⟨8,[(2,none)],body28⟩:=by kernel_rfl
theorem cloneB_ok (h:AHeap) (v:Value) (l:List RawB) (s:SlR 5 RRb h v l) (hl:l.length≤100000):WC Try.prog tb 28 [v] h fun r h'=>OwnR 5 RRb h.n h' r l∧Ext h h':=by
 refine WC.of (nostub 28) tab28 ?_;simp only[mkTm,Nat.zero_add,Nat.reduceAdd]
 obtain⟨a,n,k,rfl⟩:=slr_shapeM s
 cases a with
 |none=>
  have hn:l=[]:=slr_none s
  subst hn
  refine go ?_
  refine WX.br (fun hb=> ?_) (fun hb=> ?_)
  ·refine go ?_
   refine rt ?_
   exact⟨OwnR.nil,Ext.refl _⟩
  ·exact absurd hb (by simp)
 |some a=>
  refine go ?_
  refine WX.br (fun hb=> ?_) (fun hb=> ?_)
  ·exact absurd hb (by simp)
  ·refine go ?_
   refine WO.bl0 RRb ?_
   intro v1 h1 e1 o1
   refine go ?_
   refine WO.apAll o1 (SlR.ext (h:=h) (h':=h1) (fun cs a (r:RRb h cs a)=>(r:RRb h1 cs a)) s e1) (by decide) (fun cs a r hx _ _=>r) (fun cs a r=>r.one) e1 (Nat.le_refl _) e1.n hl ?_
   intro v2 h2 e2 o2
   refine go ?_
   refine rt ?_
   exact⟨o2,e2⟩
noncomputable def body14:ACode:=(.seq (.region [⟨some 2,none,(.mov (.const (.slice none 0 0)))⟩]) (.seq (.seq (.region [⟨some 3,none,(.mov (.tmp 0))⟩,⟨some 4,none,(.isNil 0 false (.tmp 3))⟩]) (.cond (.tmp 4) (.seq (.region [⟨some 2,none,(.mov (.const (.slice none 0 0)))⟩]) .ret) .skip)) (.seq (.region [⟨some 5,none,(.buildSlice 0 1 [(.int .i64 0)] [])⟩,⟨some 6,none,(.mov (.tmp 0))⟩,⟨some 7,none,(.append 1 (.tmp 5) (.tmp 6))⟩,⟨some 2,none,(.mov (.tmp 7))⟩]) .ret)))
set_option maxRecDepth 100000 in
theorem tab14:tb.code 14=some ⟨8,[(2,none)],body14⟩:=by kernel_rfl
theorem cloneN_ok (h:AHeap) (v:Value) (l:List Int) (s:SlI h v l) (hl:l.length≤100000):WC Try.prog tb 14 [v] h fun r h'=>OwnN h h' r l∧Ext h h':=by
 refine WC.of (nostub 14) tab14 ?_;simp only[mkTm,Nat.zero_add,Nat.reduceAdd]
 obtain⟨a,n,k,rfl⟩:=SlC.shape s
 cases a with
 |none=>
  have hn:l=[]:=by
   rcases s.2 with ⟨h0,_⟩|⟨g,off,row,hv,_⟩
   ·exact List.length_eq_zero_iff.1 h0
   ·cases hv
  subst hn
  refine go ?_
  refine WX.br (fun hb=> ?_) (fun hb=> ?_)
  ·refine go ?_
   refine rt ?_
   exact⟨.inl ⟨rfl,rfl⟩,Ext.refl _⟩
  ·exact absurd hb (by simp)
 |some a=>
  refine go ?_
  refine WX.br (fun hb=> ?_) (fun hb=> ?_)
  ·exact absurd hb (by simp)
  ·refine go ?_
   refine WO.bl [] ?_
   intro v1 h1 e1 o1
   refine go ?_
   refine WO.apN (.inr o1) (SlI.ext s e1) e1 (by simp only[List.length_nil];omega) ?_
   intro v2 h2 e2 o2
   refine go ?_
   refine rt ?_
   exact⟨o2,e2⟩
theorem dep_frm {b:Nat} {h:AHeap} {x:MFrm} {w:Value} (o:OwnR 4 RVal b h w x.regs) (hl:(x.regs.length:Int)≤9223372036854775807):Dep RMf h [I x.fn,I x.block,I x.pos,w,I x.into] x (fun k=>b≤k∧k<h.n):=
 fun hx hk hn=>⟨w,rfl,o.dep (fun k o a b e=>hk k o ⟨a,b⟩ e) hn,hl⟩
theorem dep_mblk {b:Nat} {h:AHeap} {x:MBlk} {w:Value} (o:OwnR 4 RVal b h w x.cells) (hl:(x.cells.length:Int)≤9223372036854775807):Dep RMb h [I x.site,I x.ty,I x.depth,.bool x.alive,w] x (fun k=>b≤k∧k<h.n):=
 fun hx hk hn=>⟨w,rfl,o.dep (fun k o a b e=>hk k o ⟨a,b⟩ e) hn,hl⟩
noncomputable def body12_0:ACode:=(.seq (.seq (.region [⟨some 6,none,(.mov (.tmp 4))⟩,⟨some 7,none,(.mov (.tmp 0))⟩,⟨some 8,none,(.len (.tmp 7))⟩,⟨some 9,none,(.bin .lss (.tmp 6) (.tmp 8))⟩]) (.cond (.tmp 9) .skip (.exit 0))) (.seq (.block 1 (.seq (.region [⟨some 12,none,(.mov (.tmp 0))⟩,⟨some 13,none,(.mov (.tmp 4))⟩,⟨some 14,none,(.idx 5 (.tmp 12) (.tmp 13))⟩,⟨some 15,none,(.load true 5 (.tmp 14))⟩,⟨some 5,none,(.alloc [(.int .i64 0),(.int .i64 0),(.int .i64 0),(.slice none 0 0),(.int .i64 0)])⟩,⟨none,none,(.store 5 (.tmp 5) (.tmp 15))⟩]) (.seq (.region [⟨some 16,none,(.buildSlice 0 4 [(.int .u8 0),(.int .i64 0),(.int .i64 0),(.int .i64 0)] [])⟩,⟨some 17,none,(.fld 3 (.tmp 5))⟩,⟨some 18,none,(.load false 1 (.tmp 17))⟩,⟨some 19,none,(.append 4 (.tmp 16) (.tmp 18))⟩,⟨some 20,none,(.fld 3 (.tmp 5))⟩,⟨none,none,(.store 1 (.tmp 20) (.tmp 19))⟩]) (.region [⟨some 21,none,(.mov (.tmp 3))⟩,⟨some 22,none,(.load true 5 (.tmp 5))⟩,⟨some 23,none,(.buildSlice 1 5 [(.int .i64 0),(.int .i64 0),(.int .i64 0),(.slice none 0 0),(.int .i64 0)] [(0,5,(.tmp 22))])⟩,⟨some 24,none,(.append 5 (.tmp 21) (.tmp 23))⟩,⟨some 3,none,(.mov (.tmp 24))⟩])))) (.region [⟨some 10,none,(.mov (.tmp 4))⟩,⟨some 11,none,(.bin .add (.tmp 10) (.const (.int .i64 1)))⟩,⟨some 4,none,(.mov (.tmp 11))⟩])))
noncomputable def body12:ACode:=(.seq (.region [⟨some 2,none,(.mov (.const (.slice none 0 0)))⟩]) (.seq (.region [⟨some 3,none,(.mov (.const (.slice none 0 0)))⟩]) (.seq (.seq (.region [⟨some 4,none,(.mov (.const (.int .i64 0)))⟩]) (.block 0 (.loop body12_0))) (.seq (.region [⟨some 25,none,(.mov (.tmp 3))⟩,⟨some 2,none,(.mov (.tmp 25))⟩]) .ret))))
set_option maxRecDepth 100000 in
theorem tab12:tb.code 12=some ⟨26,[(2,none)],body12⟩:=by kernel_rfl
theorem rTwinF_ok (h:AHeap) (v:Value) (L:List MFrm) (s:SlMf h v L) (hL:L.length≤1000) (hp:∀ x∈L,x.regs.length≤1000):WC Try.prog tb 12 [v] h fun r h'=>OwnR 5 RMf h.n h' r L∧Ext h h':=by
 refine WC.of (nostub 12) tab12 ?_;simp only[mkTm,Nat.zero_add,Nat.reduceAdd]
 replace hp:=Hid.mk hp
 refine go ?_
 refine WX.loopA [6,7,8,9,12,13,14,15,5,16,17,18,19,20,21,22,23,24,3,10,11,4] (by kernel_rfl) (fun i=>L.length - i) (fun i t h1=>Ext h h1∧tmGet t 4=I i∧i≤L.length∧∃ w,tmGet t 3=w∧OwnR 5 RMf h.n h1 w (L.take i)) 0 ?_ ?_
 ·exact⟨Ext.refl _,sl_,Nat.zero_le _,_,sl_,OwnR.nil⟩
 rintro i t h1 hsame ⟨e1,s4,hi,w,s3,ow⟩
 have st1:=SlMf.ext s e1
 refine go ?_
 refine WX.br (fun hc=> ?_) (fun hc=> ?_)<;>simp only[DB]at hc
 ·have hi':i<L.length:=by omega
  obtain⟨cs,⟨va,rfl,sa,hla⟩,pc,hs⟩:=slr_atX st1 hi'
  have pc:=(pc _ (Ext.refl _)).1
  have hpl:=hp.out _ (mem_getD (l:=L) hi')
  have hsucc:=take_succM (l:=L) hi'
  generalize L.getD i default=x at *
  obtain⟨aa,an,ak,rfl⟩:=slv_shape sa
  refine go ?_
  refine WO.al ?_
  intro p h2 e2 o2
  have hpn:=own_atM o2
  refine go ?_
  refine WO.stC0 o2 e2 ?_
  intro h3 e3 o3 u3
  have sa3:=SlV.ext sa e3
  have e23:h2.n≤h3.n:=u3.1
  refine go ?_
  refine WO.bl0 RVal ?_
  intro v4 h4 e4 o4
  have o3:=o3.ext e4
  have sa4:=SlV.ext sa3 e4
  refine go ?_
  refine WO.apAll (hB:=h3) o4 sa4 (by decide) (fun cs a r hx _ _=>r) (fun cs a r=>r.one) e4 (Nat.le_refl _) e4.n (by omega) ?_
  intro v5 h5 e5 o5
  obtain⟨b5,n5,k5,rfl⟩:=slr_shapeM o5.sl
  have o3:=(by assumption:OwnC h1 h3 p _).ext e5
  refine go ?_
  refine WO.stC (cs:=[.slice b5 n5 k5]) (j:=3) (hl:=by simp[putAt]) o3 (e3.trans e5) ?_
  intro h6 e6 o6 u6
  have o5':=OwnR.upd o5 (fun k hk1 hk2=>u6.2 k hk2 (fun e=>by have:=(hpn k e).2;omega)) u6.1
  have e06:=e1.trans e6
  refine go ?_
  have hn6:h3.n≤h6.n:=by have:=e5.n;have:=u6.1;omega
  have hn1:h1.n≤h3.n:=e3.n
  refine WO.apR x (fun k=>h3.n≤k∧k<h6.n) (ow.ext e6) e06 (Nat.le_refl _) (by have:=e1.n;omega) (by decide) (by rw[List.length_take];omega) (dep_frm o5' hla) (fun k hk=>⟨by have:=e1.n;omega,hk.2⟩) (fun g n k e hk=>by have:=(ownR_ltM ow e).2;omega) ?_
  intro v7 h7 lit e7 o7 _ _
  refine go ?_
  exact loopK_normal (i+1) (by omega) ⟨e7,sln,by omega,v7,sl_,by rw[hsucc];exact o7⟩
 ·have hii:i=L.length:=by omega
  subst hii
  rw[List.take_length]at ow
  refine go ?_
  refine rt ?_
  exact⟨ow,e1⟩
noncomputable def body11_0:ACode:=(.seq (.seq (.region [⟨some 6,none,(.mov (.tmp 4))⟩,⟨some 7,none,(.mov (.tmp 0))⟩,⟨some 8,none,(.len (.tmp 7))⟩,⟨some 9,none,(.bin .lss (.tmp 6) (.tmp 8))⟩]) (.cond (.tmp 9) .skip (.exit 0))) (.seq (.block 1 (.seq (.region [⟨some 12,none,(.mov (.tmp 0))⟩,⟨some 13,none,(.mov (.tmp 4))⟩,⟨some 14,none,(.idx 5 (.tmp 12) (.tmp 13))⟩,⟨some 15,none,(.load true 5 (.tmp 14))⟩,⟨some 5,none,(.alloc [(.int .i64 0),(.int .i64 0),(.int .i64 0),(.bool false),(.slice none 0 0)])⟩,⟨none,none,(.store 5 (.tmp 5) (.tmp 15))⟩]) (.seq (.region [⟨some 16,none,(.buildSlice 0 4 [(.int .u8 0),(.int .i64 0),(.int .i64 0),(.int .i64 0)] [])⟩,⟨some 17,none,(.fld 4 (.tmp 5))⟩,⟨some 18,none,(.load false 1 (.tmp 17))⟩,⟨some 19,none,(.append 4 (.tmp 16) (.tmp 18))⟩,⟨some 20,none,(.fld 4 (.tmp 5))⟩,⟨none,none,(.store 1 (.tmp 20) (.tmp 19))⟩]) (.region [⟨some 21,none,(.mov (.tmp 3))⟩,⟨some 22,none,(.load true 5 (.tmp 5))⟩,⟨some 23,none,(.buildSlice 1 5 [(.int .i64 0),(.int .i64 0),(.int .i64 0),(.bool false),(.slice none 0 0)] [(0,5,(.tmp 22))])⟩,⟨some 24,none,(.append 5 (.tmp 21) (.tmp 23))⟩,⟨some 3,none,(.mov (.tmp 24))⟩])))) (.region [⟨some 10,none,(.mov (.tmp 4))⟩,⟨some 11,none,(.bin .add (.tmp 10) (.const (.int .i64 1)))⟩,⟨some 4,none,(.mov (.tmp 11))⟩])))
noncomputable def body11:ACode:=(.seq (.region [⟨some 2,none,(.mov (.const (.slice none 0 0)))⟩]) (.seq (.region [⟨some 3,none,(.mov (.const (.slice none 0 0)))⟩]) (.seq (.seq (.region [⟨some 4,none,(.mov (.const (.int .i64 0)))⟩]) (.block 0 (.loop body11_0))) (.seq (.region [⟨some 25,none,(.mov (.tmp 3))⟩,⟨some 2,none,(.mov (.tmp 25))⟩]) .ret))))
set_option maxRecDepth 100000 in
theorem tab11:tb.code 11=some ⟨26,[(2,none)],body11⟩:=by kernel_rfl
theorem rTwinM_ok (h:AHeap) (v:Value) (L:List MBlk) (s:SlMb h v L) (hL:L.length≤1000) (hp:∀ x∈L,x.cells.length≤1000):WC Try.prog tb 11 [v] h fun r h'=>OwnR 5 RMb h.n h' r L∧Ext h h':=by
 refine WC.of (nostub 11) tab11 ?_;simp only[mkTm,Nat.zero_add,Nat.reduceAdd]
 replace hp:=Hid.mk hp
 refine go ?_
 refine WX.loopA [6,7,8,9,12,13,14,15,5,16,17,18,19,20,21,22,23,24,3,10,11,4] (by kernel_rfl) (fun i=>L.length - i) (fun i t h1=>Ext h h1∧tmGet t 4=I i∧i≤L.length∧∃ w,tmGet t 3=w∧OwnR 5 RMb h.n h1 w (L.take i)) 0 ?_ ?_
 ·exact⟨Ext.refl _,sl_,Nat.zero_le _,_,sl_,OwnR.nil⟩
 rintro i t h1 hsame ⟨e1,s4,hi,w,s3,ow⟩
 have st1:=SlMb.ext s e1
 refine go ?_
 refine WX.br (fun hc=> ?_) (fun hc=> ?_)<;>simp only[DB]at hc
 ·have hi':i<L.length:=by omega
  obtain⟨cs,⟨va,rfl,sa,hla⟩,pc,hs⟩:=slr_atX st1 hi'
  have pc:=(pc _ (Ext.refl _)).1
  have hpl:=hp.out _ (mem_getD (l:=L) hi')
  have hsucc:=take_succM (l:=L) hi'
  generalize L.getD i default=x at *
  obtain⟨aa,an,ak,rfl⟩:=slv_shape sa
  refine go ?_
  refine WO.al ?_
  intro p h2 e2 o2
  have hpn:=own_atM o2
  refine go ?_
  refine WO.stC0 o2 e2 ?_
  intro h3 e3 o3 u3
  have sa3:=SlV.ext sa e3
  have e23:h2.n≤h3.n:=u3.1
  refine go ?_
  refine WO.bl0 RVal ?_
  intro v4 h4 e4 o4
  have o3:=o3.ext e4
  have sa4:=SlV.ext sa3 e4
  refine go ?_
  refine WO.apAll (hB:=h3) o4 sa4 (by decide) (fun cs a r hx _ _=>r) (fun cs a r=>r.one) e4 (Nat.le_refl _) e4.n (by omega) ?_
  intro v5 h5 e5 o5
  obtain⟨b5,n5,k5,rfl⟩:=slr_shapeM o5.sl
  have o3:=(by assumption:OwnC h1 h3 p _).ext e5
  refine go ?_
  refine WO.stC (cs:=[.slice b5 n5 k5]) (j:=4) (hl:=by simp[putAt]) o3 (e3.trans e5) ?_
  intro h6 e6 o6 u6
  have o5':=OwnR.upd o5 (fun k hk1 hk2=>u6.2 k hk2 (fun e=>by have:=(hpn k e).2;omega)) u6.1
  have e06:=e1.trans e6
  refine go ?_
  have hn6:h3.n≤h6.n:=by have:=e5.n;have:=u6.1;omega
  have hn1:h1.n≤h3.n:=e3.n
  refine WO.apR x (fun k=>h3.n≤k∧k<h6.n) (ow.ext e6) e06 (Nat.le_refl _) (by have:=e1.n;omega) (by decide) (by rw[List.length_take];omega) (dep_mblk o5' hla) (fun k hk=>⟨by have:=e1.n;omega,hk.2⟩) (fun g n k e hk=>by have:=(ownR_ltM ow e).2;omega) ?_
  intro v7 h7 lit e7 o7 _ _
  refine go ?_
  exact loopK_normal (i+1) (by omega) ⟨e7,sln,by omega,v7,sl_,by rw[hsucc];exact o7⟩
 ·have hii:i=L.length:=by omega
  subst hii
  rw[List.take_length]at ow
  refine go ?_
  refine rt ?_
  exact⟨ow,e1⟩
end Go.Proofs.Ytmilpkdhbdgjfaa
