/- What functions of the program come to in the abstract machine, and plain laws about it; no statement of the seat is proved in this text. -/
import Derived.Test.YtdcgdfbblnljjaaDoorJd
import Derived.Test.YtdcgdfbblnljjaaDoorJb
import Derived.Test.YtdcgdfbblnljjaaDoorJc
namespace Go.Proofs.YtdcgdfbblnljjaaDoor
open Go.Am
set_option linter.unusedVariables false
set_option linter.unusedSimpArgs false
set_option maxHeartbeats 1000000
theorem Env.inC {h:AHeap} {vt vf:Value} {T:List LType} {F:List LFn} (E:Env h vt vf T F):Env (inC (asideN 0 h)) vt vf T F:=⟨E.tt,Nat.le_refl _,E.sm,E.st,E.sf⟩
def Alh (T:List LType) (F:List LFn) (f a:Int) (L:List Int) (k:Nat) (all:Bool):Prop:=all=true↔∀ j,j<k→askL T F f (L.getD j 0)=0→RulP T F f a (L.getD j 0)
theorem Alh.succ {T:List LType} {F:List LFn} {f a:Int} {L:List Int} {k:Nat} {all b2:Bool} (h:Alh T F f a L k all) (hb:b2=true↔all=true∧(askL T F f (L.getD k 0)=0→RulP T F f a (L.getD k 0))):Alh T F f a L (k+1) b2:=by
 unfold Alh at *
 rw[hb,h]
 refine⟨fun ⟨h1,h2⟩ j hj hk=> ?_,fun h=>⟨fun j hj=>h j (by omega),h k (by omega)⟩⟩
 by_cases e:j=k
 ·subst e;exact h2 hk
 ·exact h1 j (by omega) hk
theorem Alh.fin {T:List LType} {F:List LFn} {f a b:Int} {all:Bool} (hb:(blocksL T F f 0).2=0) (h:Alh T F f a (PredsL T F f b).1 (PredsL T F f b).1.length all) (hbb:(blocksL T F f b).2=0) (ha:rulE T F f a b=0) (hx:∃ xs,Rul (nxF T F f) xs) (hb0:b≠0) (hab:a≠b):Dom (nxF T F f) a b↔all=true:=by
 have hP:(PredsL T F f b).1=aheadN (blocksL T F f 0).1 b (blocksL T F f 0).1.length:=by
  have h1:=(blocks_in hbb).2.2.1
  have h2:=(blocks_in hb).2.2.1
  unfold PredsL
  rw[if_neg (by rw[hbb];exact fun e=>e rfl),h1,←h2]
 rw[dom_preds hb0 hab]
 unfold Alh at h
 rw[h]
 refine⟨fun h j hj hk=> .of hk ?_ hx,fun h c wc hc=> ?_⟩
 ·have hm:=getD_mem hj
  rw[hP]at hm
  exact h _ (ask_way hk).2 (mem_aheadN'.1 (by rw[hP];exact hm)).2
 ·have hin:=way_in hb wc
  have hm:c∈(PredsL T F f b).1:=by rw[hP];exact mem_aheadN'.2 ⟨hin,hc⟩
  obtain⟨j,hj,e⟩:=List.getElem_of_mem hm
  have e2:(PredsL T F f b).1.getD j 0=c:=by simp[List.getD,List.getElem?_eq_getElem hj,e]
  have:=h j hj (by rw[e2];exact ask_of hb wc)
  rw[e2]at this
  exact this.2.1
noncomputable def body5_0:ACode:=(.seq (.seq (.region [⟨some 52,none,(.mov (.tmp 15))⟩,⟨some 53,none,(.mov (.tmp 12))⟩,⟨some 54,none,(.len (.tmp 53))⟩,⟨some 55,none,(.bin .lss (.tmp 52) (.tmp 54))⟩]) (.cond (.tmp 55) .skip (.exit 0))) (.seq (.block 1 (.seq (.regionC [(⟨some 59,none,(.load true 2 (.tmp 4))⟩,[]),(⟨some 60,none,(.mov (.tmp 1))⟩,[]),(⟨some 61,none,(.mov (.tmp 12))⟩,[]),(⟨some 62,none,(.mov (.tmp 15))⟩,[]),(⟨some 63,none,(.idx 1 (.tmp 61) (.tmp 62))⟩,[]),(⟨some 64,none,(.load false 1 (.tmp 63))⟩,[]),(⟨some 65,none,(.call (.func 10) [(.tmp 59),(.tmp 60),(.tmp 64)])⟩,[]),(⟨some 58,none,(.mov (.tmp 65))⟩,[]),(⟨some 66,none,(.extract (.tmp 58) 0)⟩,[]),(⟨some 67,none,(.extract (.tmp 58) 1)⟩,[]),(⟨some 16,none,(.mov (.tmp 66))⟩,[]),(⟨some 17,none,(.mov (.tmp 67))⟩,[])]) (.regionC [(⟨some 68,none,(.mov (.tmp 14))⟩,[]),(⟨some 69,none,(.mov (.tmp 68))⟩,[]),(⟨some 70,some (69,true),(.mov (.tmp 17))⟩,[]),(⟨some 71,some (69,true),(.bin .neq (.tmp 70) (.const (.int .i64 0)))⟩,[]),(⟨some 72,some (69,true),(.mov (.tmp 71))⟩,[]),(⟨some 73,some (72,false),(.load true 2 (.tmp 4))⟩,[]),(⟨some 74,some (72,false),(.mov (.tmp 1))⟩,[]),(⟨some 75,some (72,false),(.mov (.tmp 2))⟩,[]),(⟨some 76,some (72,false),(.mov (.tmp 12))⟩,[]),(⟨some 77,some (72,false),(.mov (.tmp 15))⟩,[]),(⟨some 78,some (72,false),(.idx 1 (.tmp 76) (.tmp 77))⟩,[]),(⟨some 79,some (72,false),(.load false 1 (.tmp 78))⟩,[]),(⟨some 80,some (72,false),(.call (.func 11) [(.tmp 73),(.tmp 74),(.tmp 75),(.tmp 79)])⟩,[]),(⟨some 81,some (69,true),(.pick (.tmp 72) (.const (.bool true)) (.tmp 80))⟩,[]),(⟨some 82,none,(.pick (.tmp 69) (.tmp 81) (.const (.bool false)))⟩,[]),(⟨some 14,none,(.mov (.tmp 82))⟩,[])]))) (.region [⟨some 56,none,(.mov (.tmp 15))⟩,⟨some 57,none,(.bin .add (.tmp 56) (.const (.int .i64 1)))⟩,⟨some 15,none,(.mov (.tmp 57))⟩])))
noncomputable def body5:ACode:=(.seq (.region [⟨some 4,none,(.box (.tmp 0))⟩,⟨some 8,none,(.mov (.const (.bool false)))⟩]) (.seq (.region [⟨some 18,none,(.call (.func 8) [])⟩,⟨some 9,none,(.mov (.tmp 18))⟩]) (.seq (.seq (.region [⟨some 19,none,(.load true 2 (.tmp 4))⟩,⟨some 20,none,(.call (.func 9) [(.tmp 19),(.const (.int .i64 300))])⟩,⟨some 21,none,(.mov (.tmp 20))⟩,⟨some 22,some (21,false),(.mov (.tmp 9))⟩,⟨some 23,some (21,false),(.un .not (.tmp 22))⟩,⟨some 24,none,(.pick (.tmp 21) (.const (.bool true)) (.tmp 23))⟩]) (.cond (.tmp 24) (.seq (.region [⟨some 25,none,(.mov (.tmp 9))⟩,⟨some 8,none,(.mov (.tmp 25))⟩]) .ret) .skip)) (.seq (.region [⟨some 27,none,(.load true 2 (.tmp 4))⟩,⟨some 28,none,(.mov (.tmp 1))⟩,⟨some 29,none,(.mov (.tmp 2))⟩,⟨some 30,none,(.mov (.tmp 3))⟩,⟨some 31,none,(.call (.func 12) [(.tmp 27),(.tmp 28),(.tmp 29),(.tmp 30)])⟩,⟨some 26,none,(.mov (.tmp 31))⟩,⟨some 32,none,(.extract (.tmp 26) 0)⟩,⟨some 33,none,(.extract (.tmp 26) 1)⟩,⟨some 10,none,(.mov (.tmp 32))⟩,⟨some 11,none,(.mov (.tmp 33))⟩]) (.seq (.region [⟨some 35,none,(.load true 2 (.tmp 4))⟩,⟨some 36,none,(.mov (.tmp 1))⟩,⟨some 37,none,(.mov (.tmp 3))⟩,⟨some 38,none,(.call (.func 13) [(.tmp 35),(.tmp 36),(.tmp 37)])⟩,⟨some 34,none,(.mov (.tmp 38))⟩,⟨some 39,none,(.extract (.tmp 34) 0)⟩,⟨some 40,none,(.extract (.tmp 34) 1)⟩,⟨some 12,none,(.mov (.tmp 39))⟩,⟨some 13,none,(.mov (.tmp 40))⟩]) (.seq (.seq (.region [⟨some 41,none,(.mov (.tmp 11))⟩,⟨some 42,none,(.bin .neq (.tmp 41) (.const (.int .i64 0)))⟩,⟨some 43,none,(.mov (.tmp 42))⟩,⟨some 44,some (43,false),(.mov (.tmp 13))⟩,⟨some 45,some (43,false),(.bin .neq (.tmp 44) (.const (.int .i64 0)))⟩,⟨some 46,none,(.pick (.tmp 43) (.const (.bool true)) (.tmp 45))⟩]) (.cond (.tmp 46) (.seq (.region [⟨some 47,none,(.mov (.tmp 9))⟩,⟨some 48,none,(.mov (.tmp 47))⟩,⟨some 49,some (48,true),(.mov (.tmp 10))⟩,⟨some 50,some (48,true),(.un .not (.tmp 49))⟩,⟨some 51,none,(.pick (.tmp 48) (.tmp 50) (.const (.bool false)))⟩,⟨some 8,none,(.mov (.tmp 51))⟩]) .ret) .skip)) (.seq (.region [⟨some 14,none,(.mov (.const (.bool true)))⟩]) (.seq (.seq (.region [⟨some 15,none,(.mov (.const (.int .i64 0)))⟩]) (.block 0 (.loop body5_0))) (.seq (.seq (.region [⟨some 83,none,(.mov (.tmp 3))⟩,⟨some 84,none,(.bin .eql (.tmp 83) (.const (.int .i64 0)))⟩,⟨some 85,none,(.mov (.tmp 84))⟩,⟨some 86,some (85,false),(.mov (.tmp 2))⟩,⟨some 87,some (85,false),(.mov (.tmp 3))⟩,⟨some 88,some (85,false),(.bin .eql (.tmp 86) (.tmp 87))⟩,⟨some 89,none,(.pick (.tmp 85) (.const (.bool true)) (.tmp 88))⟩]) (.cond (.tmp 89) (.seq (.region [⟨some 90,none,(.mov (.tmp 9))⟩,⟨some 91,none,(.mov (.tmp 90))⟩,⟨some 92,some (91,true),(.mov (.tmp 10))⟩,⟨some 93,some (91,true),(.mov (.tmp 2))⟩,⟨some 94,some (91,true),(.mov (.tmp 3))⟩,⟨some 95,some (91,true),(.bin .eql (.tmp 93) (.tmp 94))⟩,⟨some 96,some (91,true),(.binB false (.tmp 92) (.tmp 95))⟩,⟨some 97,none,(.pick (.tmp 91) (.tmp 96) (.const (.bool false)))⟩,⟨some 8,none,(.mov (.tmp 97))⟩]) .ret) .skip)) (.seq (.region [⟨some 98,none,(.mov (.tmp 9))⟩,⟨some 99,none,(.mov (.tmp 98))⟩,⟨some 100,some (99,true),(.mov (.tmp 10))⟩,⟨some 101,some (99,true),(.mov (.tmp 14))⟩,⟨some 102,some (99,true),(.binB false (.tmp 100) (.tmp 101))⟩,⟨some 103,none,(.pick (.tmp 99) (.tmp 102) (.const (.bool false)))⟩,⟨some 8,none,(.mov (.tmp 103))⟩]) .ret))))))))))
set_option maxRecDepth 100000 in
theorem tab5:tb.code 5=some ⟨104,[(8,none)],body5⟩:=by kernel_rfl
theorem DomAhead_ok (h:AHeap) (vt vf:Value) (T:List LType) (F:List LFn) (f a b:Int) (tt:Tbl h) (hm:h.mark≤h.n) (st:SlT h vt T) (sf:SlF h vf F) (hT:(T.length:Int)≤1152921504606846976) (hF:(F.length:Int)≤1152921504606846976):
  WC Tryd.prog tb 5 [.agg #[vt,vf],I f,I a,I b] h fun r h'=>r= .bool true:=by
 refine WC.of (nostub 5) tab5 ?_;simp only[mkTm,Nat.zero_add,Nat.reduceAdd]
 refine go ?_
 refine WO.bx ?_
 intro p h1 e1 o1
 have tt1:=tt.ext e1
 refine go ?_
 refine WO.con (alive_ok h1 tt1.1) ?_
 rintro _ _ ⟨rfl,rfl⟩
 refine go ?_
 refine WO.con (great_ok h1 vt vf T F 300 (by omega) (st.ext e1) (SlF.ext sf e1) (by omega) (by omega)) ?_
 rintro r h3 ⟨hr,e3⟩
 have o1:=o1.ext e3
 rcases hr with rfl|⟨rfl,sm⟩
 ·refine go ?_
  refine rt ?_
  rfl
 have E:Env h3 vt vf T F:=⟨tt1.ext e3,mark_ext e3 (mark_ext e1 hm),sm,(st.ext e1).ext e3,SlF.ext (SlF.ext sf e1) e3⟩
 refine go ?_
 refine WO.con (dRules_ok h3 vt vf T F f a b E) ?_
 rintro _ h4 ⟨⟨bb,rfl,hb1,hb2⟩,e4⟩
 have o1:=o1.ext e4
 have E:=E.ext e4
 refine go ?_
 refine WO.con (Preds_ok h4 vt vf T F f b E.tt E.hm E.sm E.st E.sf) ?_
 rintro _ h5 ⟨⟨prv,rfl,opr⟩,e5⟩
 have spr:=opr.sl
 have o1:=o1.ext e5
 have E:=E.ext e5
 rw[preds_err]
 by_cases hr:rulE T F f a b=0
 case neg=>
  have hr':rulE T F f a b≠0:=hr
  obtain rfl:=hb1 hr
  refine go ?_
  refine rt ?_
  rfl
 obtain⟨hdom,hex⟩:=hb2 hr
 obtain⟨hbl,wb⟩:=ask_way (rulE_zero hr).2
 have hbb:=blocks_other hbl (way_in hbl wb)
 have hb0:(blocksL T F f b).2=0:=by rw[hbb];exact hbl
 have hlen:(PredsL T F f b).1.length≤(blocksL T F f b).1.length:=by
  unfold PredsL;rw[if_neg (by rw[hb0];exact fun e=>e rfl)];exact aheadN_len _ _ _
 obtain⟨hl16,_⟩:=blocks_nx hb0
 rw[hr,hb0]
 have hfin:Hid (∀ all,Alh T F f a (PredsL T F f b).1 (PredsL T F f b).1.length all→b≠0→a≠b→(bb=all)):=⟨fun all h1 h2 h3=>by rw[Bool.eq_iff_iff,hdom];exact h1.fin hbl hb0 hr hex h2 h3⟩
 have hz:b=0∨a=b→bb=decide (a=b):=fun h=>by
  rw[Bool.eq_iff_iff,hdom,decide_eq_true_iff]
  rcases h with rfl|rfl
  ·exact dom_of_zero
  ·exact⟨fun _=>rfl,fun _=>Dom.self _ _⟩
 have hex:=Hid.mk hex
 clear hdom hb1 hb2 e1 e3 e4 e5 st sf tt tt1 hm opr
 generalize (PredsL T F f b).1=L at *
 refine go ?_
 refine WX.loopA [52,53,54,55,59,60,61,62,63,64,65,58,66,67,16,17,68,69,70,71,72,73,74,75,76,77,78,79,80,81,82,14,56,57,15] (by kernel_rfl) (fun x=>L.length - x.1) (fun (x:Nat×Bool) t h6=>Env h6 vt vf T F∧OwnC h h6 p [vt,vf]∧SlI h6 prv L∧tmGet t 15=I x.1∧x.1≤L.length∧tmGet t 14= .bool x.2∧Hid (Alh T F f a L x.1 x.2)) (0,true) ?_ ?_
 ·exact⟨E,o1,spr,sl_,Nat.zero_le _,sl_,⟨⟨fun _ j hj=>absurd hj (Nat.not_lt_zero _),fun _=>rfl⟩⟩⟩
 clear E o1 spr
 rintro⟨k,all⟩ t h6 hsame ⟨E,o1,spr,s15,hk,s14,hA⟩
 simp only at s15 hk s14 hA
 refine go ?_
 refine WX.br (fun he=> ?_) (fun he=> ?_)<;>simp only[DB]at he
 ·have hk':k<L.length:=by omega
  refine go ?_
  refine WX.regionU2 0 rfl rfl ?_
  have oX:OwnC h (inC (asideN 0 h6)) p [vt,vf]:=o1
  have sX:SlI (inC (asideN 0 h6)) prv L:=spr
  refine goU ?_
  refine WO.con (dNext_ok _ vt vf T F f (L.getD k 0) E.inC) ?_
  rintro _ h7 ⟨⟨v,rfl,hv⟩,e7⟩
  refine WO.nil ?_
  refine uK2_e e7 reads_call ?_
  refine goU ?_
  have e8:Ext h6 (outC h6 (inC h7)):=by have e6x:Ext h6 (outC h6 h7):=Ext.outC e7;exact e6x
  obtain⟨h8,hh8⟩:∃ h8,h8=outC h6 (inC h7):=⟨_,rfl⟩
  rw[←hh8]at e8
  rw[←hh8]
  clear oX sX e7 hv hh8
  have o1:=o1.ext e8
  have E:=E.ext e8
  have spr:=spr.ext e8
  refine go ?_
  refine WX.cutA [68,69,70,71,72,73,74,75,76,77,78,79,80,81,82,14] (by kernel_rfl) (fun t h'=>Env h' vt vf T F∧OwnC h h' p [vt,vf]∧SlI h' prv L∧∃ b2,tmGet t 14= .bool b2∧Hid (b2=true↔all=true∧(askL T F f (L.getD k 0)=0→RulP T F f a (L.getD k 0)))) ?_ ?_
  ·refine WX.regionU2 0 rfl rfl ?_
   have oX:OwnC h (inC (asideN 0 h8)) p [vt,vf]:=o1
   have sX:SlI (inC (asideN 0 h8)) prv L:=spr
   cases all with
   |false=>
    refine goU ?_
    exact cutK_normal ⟨E,o1,spr,_,sl_,⟨by simp⟩⟩
   |true=>
    by_cases hac:askL T F f (L.getD k 0)=0
    ·refine goU ?_
     refine WO.con (rules_ok _ vt vf T F f a (L.getD k 0) E.inC) ?_
     rintro _ h9 ⟨⟨b9,rfl,hb9⟩,e9⟩
     refine WO.nil ?_
     refine uK2_e e9 reads_call ?_
     refine goU ?_
     have e10:Ext h8 (outC h8 (inC h9)):=by have e6x:Ext h8 (outC h8 h9):=Ext.outC e9;exact e6x
     exact cutK_normal ⟨E.ext e10,o1.ext e10,spr.ext e10,_,sl_,⟨by rw[hb9];exact⟨fun h=>⟨rfl,fun _=>h⟩,fun h=>h.2 hac⟩⟩⟩
    ·have hac':askL T F f (L.getD k 0)≠0:=hac
     refine goU ?_
     exact cutK_normal ⟨E,o1,spr,_,sl_,⟨⟨fun _=>⟨rfl,fun h=>absurd h hac⟩,fun _=>rfl⟩⟩⟩
  clear E o1 spr
  rintro t9 h9 hs9 ⟨E,o1,spr,b2,q14,hb2⟩
  refine go ?_
  exact loopK_normal (k+1,b2) (by omega) ⟨E,o1,spr,sln,by omega,sl_,⟨hA.out.succ hb2.out⟩⟩
 ·have hkk:k=L.length:=by omega
  subst hkk
  by_cases hb0:b=0
  ·have:=hz (.inl hb0)
   refine go ?_
   refine rt ?_
   simp[one,this]
  ·by_cases hab:a=b
   ·have:=hz (.inr hab)
    refine go ?_
    refine rt ?_
    simp[one,this]
   ·have:=hfin.out all hA.out hb0 hab
    refine go ?_
    refine rt ?_
    simp[one,this]
end Go.Proofs.YtdcgdfbblnljjaaDoor
