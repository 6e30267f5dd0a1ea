/- What functions of the program come to in the abstract machine, and plain laws about it; no statement of the seat is proved in this text. -/
import Derived.Test.YtdcgdfbblnljjaaDoorJd
import Derived.Test.YtdcgdfbblnljjaaDoorJb
namespace Go.Proofs.YtdcgdfbblnljjaaDoor
open Go.Am
set_option linter.unusedVariables false
set_option linter.unusedSimpArgs false
set_option maxHeartbeats 1000000
noncomputable def body3:ACode:=(.seq (.region [⟨some 3,none,(.box (.tmp 0))⟩,⟨some 5,none,(.box (.tmp 2))⟩,⟨some 6,none,(.mov (.const (.bool false)))⟩]) (.seq (.region [⟨some 13,none,(.call (.func 8) [])⟩,⟨some 7,none,(.mov (.tmp 13))⟩]) (.seq (.seq (.region [⟨some 14,none,(.load true 2 (.tmp 3))⟩,⟨some 15,none,(.call (.func 9) [(.tmp 14),(.const (.int .i64 300))])⟩,⟨some 16,none,(.mov (.tmp 15))⟩,⟨some 17,some (16,false),(.mov (.tmp 7))⟩,⟨some 18,some (16,false),(.un .not (.tmp 17))⟩,⟨some 19,none,(.pick (.tmp 16) (.const (.bool true)) (.tmp 18))⟩]) (.cond (.tmp 19) (.seq (.region [⟨some 20,none,(.mov (.tmp 7))⟩,⟨some 6,none,(.mov (.tmp 20))⟩]) .ret) .skip)) (.seq (.regionC [(⟨some 21,none,(.idxArr 3 1 (.tmp 5) (.const (.int .i64 0)))⟩,[]),(⟨some 22,none,(.load false 1 (.tmp 21))⟩,[]),(⟨some 23,none,(.idxArr 3 1 (.tmp 5) (.const (.int .i64 1)))⟩,[]),(⟨some 24,none,(.load false 1 (.tmp 23))⟩,[]),(⟨some 25,none,(.idxArr 3 1 (.tmp 5) (.const (.int .i64 2)))⟩,[]),(⟨some 26,none,(.load false 1 (.tmp 25))⟩,[]),(⟨some 8,none,(.mov (.tmp 22))⟩,[]),(⟨some 9,none,(.mov (.tmp 24))⟩,[]),(⟨some 10,none,(.mov (.tmp 26))⟩,[])]) (.seq (.region [⟨some 28,none,(.load true 2 (.tmp 3))⟩,⟨some 29,none,(.mov (.tmp 1))⟩,⟨some 30,none,(.mov (.tmp 10))⟩,⟨some 31,none,(.call (.func 10) [(.tmp 28),(.tmp 29),(.tmp 30)])⟩,⟨some 27,none,(.mov (.tmp 31))⟩,⟨some 32,none,(.extract (.tmp 27) 0)⟩,⟨some 33,none,(.extract (.tmp 27) 1)⟩,⟨some 11,none,(.mov (.tmp 32))⟩,⟨some 12,none,(.mov (.tmp 33))⟩]) (.seq (.seq (.region [⟨some 34,none,(.mov (.tmp 12))⟩,⟨some 35,none,(.bin .neq (.tmp 34) (.const (.int .i64 0)))⟩]) (.cond (.tmp 35) (.seq (.region [⟨some 36,none,(.mov (.tmp 7))⟩,⟨some 37,none,(.mov (.tmp 36))⟩,⟨some 38,some (37,true),(.load true 2 (.tmp 3))⟩,⟨some 39,some (37,true),(.mov (.tmp 1))⟩,⟨some 40,some (37,true),(.mov (.tmp 8))⟩,⟨some 41,some (37,true),(.mov (.tmp 10))⟩,⟨some 42,some (37,true),(.call (.func 11) [(.tmp 38),(.tmp 39),(.tmp 40),(.tmp 41)])⟩,⟨some 43,some (37,true),(.un .not (.tmp 42))⟩,⟨some 44,none,(.pick (.tmp 37) (.tmp 43) (.const (.bool false)))⟩,⟨some 6,none,(.mov (.tmp 44))⟩]) .ret) .skip)) (.seq (.seq (.region [⟨some 45,none,(.load true 2 (.tmp 3))⟩,⟨some 46,none,(.mov (.tmp 1))⟩,⟨some 47,none,(.mov (.tmp 10))⟩,⟨some 48,none,(.call (.func 11) [(.tmp 45),(.tmp 46),(.const (.int .i64 0)),(.tmp 47)])⟩,⟨some 49,none,(.un .not (.tmp 48))⟩,⟨some 50,none,(.mov (.tmp 49))⟩,⟨some 51,some (50,false),(.load true 2 (.tmp 3))⟩,⟨some 52,some (50,false),(.mov (.tmp 1))⟩,⟨some 53,some (50,false),(.mov (.tmp 10))⟩,⟨some 54,some (50,false),(.mov (.tmp 10))⟩,⟨some 55,some (50,false),(.call (.func 11) [(.tmp 51),(.tmp 52),(.tmp 53),(.tmp 54)])⟩,⟨some 56,some (50,false),(.un .not (.tmp 55))⟩,⟨some 57,none,(.pick (.tmp 50) (.const (.bool true)) (.tmp 56))⟩,⟨some 58,none,(.mov (.tmp 57))⟩,⟨some 59,some (58,false),(.load true 2 (.tmp 3))⟩,⟨some 60,some (58,false),(.mov (.tmp 1))⟩,⟨some 61,some (58,false),(.mov (.tmp 8))⟩,⟨some 62,some (58,false),(.mov (.tmp 9))⟩,⟨some 63,some (58,false),(.call (.func 11) [(.tmp 59),(.tmp 60),(.tmp 61),(.tmp 62)])⟩,⟨some 64,some (58,false),(.mov (.tmp 63))⟩,⟨some 65,some (64,true),(.load true 2 (.tmp 3))⟩,⟨some 66,some (64,true),(.mov (.tmp 1))⟩,⟨some 67,some (64,true),(.mov (.tmp 9))⟩,⟨some 68,some (64,true),(.mov (.tmp 10))⟩,⟨some 69,some (64,true),(.call (.func 11) [(.tmp 65),(.tmp 66),(.tmp 67),(.tmp 68)])⟩,⟨some 70,some (58,false),(.pick (.tmp 64) (.tmp 69) (.const (.bool false)))⟩,⟨some 71,some (58,false),(.mov (.tmp 70))⟩,⟨some 72,some (71,true),(.load true 2 (.tmp 3))⟩,⟨some 73,some (71,true),(.mov (.tmp 1))⟩,⟨some 74,some (71,true),(.mov (.tmp 8))⟩,⟨some 75,some (71,true),(.mov (.tmp 10))⟩,⟨some 76,some (71,true),(.call (.func 11) [(.tmp 72),(.tmp 73),(.tmp 74),(.tmp 75)])⟩,⟨some 77,some (71,true),(.un .not (.tmp 76))⟩,⟨some 78,some (58,false),(.pick (.tmp 71) (.tmp 77) (.const (.bool false)))⟩,⟨some 79,none,(.pick (.tmp 58) (.const (.bool true)) (.tmp 78))⟩]) (.cond (.tmp 79) (.seq (.region [⟨some 6,none,(.mov (.const (.bool false)))⟩]) .ret) .skip)) (.seq (.seq (.region [⟨some 80,none,(.mov (.tmp 8))⟩,⟨some 81,none,(.mov (.tmp 10))⟩,⟨some 82,none,(.bin .neq (.tmp 80) (.tmp 81))⟩,⟨some 83,none,(.mov (.tmp 82))⟩,⟨some 84,some (83,true),(.load true 2 (.tmp 3))⟩,⟨some 85,some (83,true),(.mov (.tmp 1))⟩,⟨some 86,some (83,true),(.mov (.tmp 8))⟩,⟨some 87,some (83,true),(.mov (.tmp 10))⟩,⟨some 88,some (83,true),(.call (.func 11) [(.tmp 84),(.tmp 85),(.tmp 86),(.tmp 87)])⟩,⟨some 89,none,(.pick (.tmp 83) (.tmp 88) (.const (.bool false)))⟩,⟨some 90,none,(.mov (.tmp 89))⟩,⟨some 91,some (90,true),(.load true 2 (.tmp 3))⟩,⟨some 92,some (90,true),(.mov (.tmp 1))⟩,⟨some 93,some (90,true),(.mov (.tmp 10))⟩,⟨some 94,some (90,true),(.mov (.tmp 8))⟩,⟨some 95,some (90,true),(.call (.func 11) [(.tmp 91),(.tmp 92),(.tmp 93),(.tmp 94)])⟩,⟨some 96,none,(.pick (.tmp 90) (.tmp 95) (.const (.bool false)))⟩]) (.cond (.tmp 96) (.seq (.region [⟨some 6,none,(.mov (.const (.bool false)))⟩]) .ret) .skip)) (.seq (.region [⟨some 97,none,(.mov (.tmp 7))⟩,⟨some 98,none,(.mov (.tmp 97))⟩,⟨some 99,some (98,true),(.load true 2 (.tmp 3))⟩,⟨some 100,some (98,true),(.mov (.tmp 1))⟩,⟨some 101,some (98,true),(.mov (.tmp 8))⟩,⟨some 102,some (98,true),(.mov (.tmp 10))⟩,⟨some 103,some (98,true),(.call (.func 11) [(.tmp 99),(.tmp 100),(.tmp 101),(.tmp 102)])⟩,⟨some 104,some (98,true),(.un .not (.tmp 103))⟩,⟨some 105,some (98,true),(.mov (.tmp 104))⟩,⟨some 106,some (105,false),(.load true 2 (.tmp 3))⟩,⟨some 107,some (105,false),(.mov (.tmp 1))⟩,⟨some 108,some (105,false),(.mov (.tmp 9))⟩,⟨some 109,some (105,false),(.mov (.tmp 10))⟩,⟨some 110,some (105,false),(.call (.func 11) [(.tmp 106),(.tmp 107),(.tmp 108),(.tmp 109)])⟩,⟨some 111,some (105,false),(.un .not (.tmp 110))⟩,⟨some 112,some (98,true),(.pick (.tmp 105) (.const (.bool true)) (.tmp 111))⟩,⟨some 113,some (98,true),(.mov (.tmp 112))⟩,⟨some 114,some (113,false),(.load true 2 (.tmp 3))⟩,⟨some 115,some (113,false),(.mov (.tmp 1))⟩,⟨some 116,some (113,false),(.mov (.tmp 8))⟩,⟨some 117,some (113,false),(.mov (.tmp 9))⟩,⟨some 118,some (113,false),(.call (.func 11) [(.tmp 114),(.tmp 115),(.tmp 116),(.tmp 117)])⟩,⟨some 119,some (98,true),(.pick (.tmp 113) (.const (.bool true)) (.tmp 118))⟩,⟨some 120,some (98,true),(.mov (.tmp 119))⟩,⟨some 121,some (120,false),(.load true 2 (.tmp 3))⟩,⟨some 122,some (120,false),(.mov (.tmp 1))⟩,⟨some 123,some (120,false),(.mov (.tmp 9))⟩,⟨some 124,some (120,false),(.mov (.tmp 8))⟩,⟨some 125,some (120,false),(.call (.func 11) [(.tmp 121),(.tmp 122),(.tmp 123),(.tmp 124)])⟩,⟨some 126,some (98,true),(.pick (.tmp 120) (.const (.bool true)) (.tmp 125))⟩,⟨some 127,none,(.pick (.tmp 98) (.tmp 126) (.const (.bool false)))⟩,⟨some 6,none,(.mov (.tmp 127))⟩]) .ret)))))))))
set_option maxRecDepth 100000 in
theorem tab3:tb.code 3=some ⟨128,[(6,none)],body3⟩:=by kernel_rfl
theorem DomLaws_ok (h:AHeap) (vt vf:Value) (T:List LType) (F:List LFn) (f a b c:Int) (tt:Tbl h) (hm:h.mark≤h.n) (st:SlT h vt T) (sf:SlF h vf F) (hT:(T.length:Int)≤1152921504606846976) (hF:(F.length:Int)≤1152921504606846976):
  WC Tryd.prog tb 3 [.agg #[vt,vf],I f,.agg #[I a,I b,I c]] h fun r h'=>r= .bool true:=by
 refine WC.of (nostub 3) tab3 ?_;simp only[mkTm,Nat.zero_add,Nat.reduceAdd]
 refine go ?_
 refine WO.bx ?_
 intro p h1 e1 o1
 refine go ?_
 refine WO.bx ?_
 intro p5 h2 e2 o5
 have o5:OwnC h1 h2 p5 ([a,b,c].map I):=o5
 have e02:=e1.trans e2
 have o1:=o1.ext e2
 have tt2:=tt.ext e02
 refine go ?_
 refine WO.con (alive_ok h2 tt2.1) ?_
 rintro _ _ ⟨rfl,rfl⟩
 refine go ?_
 refine WO.con (great_ok h2 vt vf T F 300 (by omega) (st.ext e02) (SlF.ext sf e02) (by omega) (by omega)) ?_
 rintro r h3 ⟨hr,e3⟩
 have o1:=o1.ext e3
 have o5:=o5.ext e3
 rcases hr with rfl|⟨rfl,sm⟩
 ·refine go ?_
  refine rt ?_
  rfl
 have E:Env h3 vt vf T F:=⟨tt2.ext e3,mark_ext e3 (mark_ext e02 hm),sm,(st.ext e02).ext e3,SlF.ext (SlF.ext sf e02) e3⟩
 refine go ?_
 simp only[List.getD_cons_zero,List.getD_cons_succ]
 refine WO.con (dNext_ok h3 vt vf T F f c E) ?_
 rintro _ h4 ⟨⟨v,rfl,hv⟩,e4⟩
 have o1:=o1.ext e4
 have E:=E.ext e4
 by_cases hc:askL T F f c=0
 case neg=>
  have hc':askL T F f c≠0:=hc
  refine go ?_
  refine WO.con (rules_ok _ vt vf T F f a c E) ?_
  rintro _ h5 ⟨⟨bb,rfl,hbb⟩,e5⟩
  obtain rfl:bb=false:=by cases bb with|false=>rfl|true=>exact absurd (hbb.1 rfl).ask hc
  refine go ?_
  refine rt ?_
  rfl
 obtain⟨xs,hR,_⟩:=hv hc
 rw[hc]
 refine go ?_
 refine WO.con (rules_ok _ vt vf T F f 0 c E) ?_
 rintro _ h5 ⟨⟨bb,rfl,hbb⟩,e5⟩
 obtain rfl:=hbb.2 (RulP.zero hc ⟨xs,hR⟩)
 have o1:=o1.ext e5
 have E:=E.ext e5
 refine go ?_
 refine WO.con (rules_ok _ vt vf T F f c c E) ?_
 rintro _ h6 ⟨⟨bb,rfl,hbb2⟩,e6⟩
 obtain rfl:=hbb2.2 (RulP.self hc ⟨xs,hR⟩)
 have o1:=o1.ext e6
 have E:=E.ext e6
 refine go ?_
 refine WO.mid 17 (fun t' h'=>Env h' vt vf T F∧OwnC h h' p [vt,vf]∧tmGet t' 79= .bool false) ?_ ?_<;>simp only[List.take_succ_cons,List.take_zero,List.drop_succ_cons,List.drop_zero]
 ·refine WO.con (rules_ok _ vt vf T F f a b E) ?_
  rintro _ h7 ⟨⟨b7,rfl,hb7⟩,e7⟩
  have o1:=o1.ext e7
  have E:=E.ext e7
  cases b7 with
  |false=>
   refine go ?_
   exact⟨rfl,rfl,E,o1,sl_⟩
  |true=>
   refine go ?_
   refine WO.con (rules_ok _ vt vf T F f b c E) ?_
   rintro _ h8 ⟨⟨b8,rfl,hb8⟩,e8⟩
   have o1:=o1.ext e8
   have E:=E.ext e8
   cases b8 with
   |false=>
    refine go ?_
    exact⟨rfl,rfl,E,o1,sl_⟩
   |true=>
    refine go ?_
    refine WO.con (rules_ok _ vt vf T F f a c E) ?_
    rintro _ h9 ⟨⟨b9,rfl,hb9⟩,e9⟩
    have o1:=o1.ext e9
    have E:=E.ext e9
    obtain rfl:=hb9.2 ((hb7.1 rfl).trans (hb8.1 rfl))
    refine go ?_
    exact⟨rfl,rfl,E,o1,sl_⟩
 clear e1 e2 e02 e3 e4 e5 e6 o5
 rintro t7 h7 hs7 ⟨E,o1,q79⟩
 refine go ?_
 refine WO.mid 13 (fun t' h'=>Env h' vt vf T F∧OwnC h h' p [vt,vf]∧tmGet t' 96= .bool false) ?_ ?_<;>simp only[List.take_succ_cons,List.take_zero,List.drop_succ_cons,List.drop_zero]
 ·by_cases hac:a=c
  ·refine go ?_
   exact⟨rfl,rfl,E,o1,sl_⟩
  ·refine go ?_
   refine WO.con (rules_ok _ vt vf T F f a c E) ?_
   rintro _ h8 ⟨⟨b8,rfl,hb8⟩,e8⟩
   have o1:=o1.ext e8
   have E:=E.ext e8
   cases b8 with
   |false=>
    refine go ?_
    exact⟨rfl,rfl,E,o1,sl_⟩
   |true=>
    refine go ?_
    refine WO.con (rules_ok _ vt vf T F f c a E) ?_
    rintro _ h9 ⟨⟨b9,rfl,hb9⟩,e9⟩
    have o1:=o1.ext e9
    have E:=E.ext e9
    obtain rfl:b9=false:=by cases b9 with|false=>rfl|true=>exact absurd ((hb8.1 rfl).anti (hb9.1 rfl)) hac
    refine go ?_
    exact⟨rfl,rfl,E,o1,sl_⟩
 clear o1 E
 rintro t8 h8 hs8 ⟨E,o1,q96⟩
 refine go ?_
 refine WO.con (rules_ok _ vt vf T F f a c E) ?_
 rintro _ h9 ⟨⟨b9,rfl,hb9⟩,e9⟩
 have o1:=o1.ext e9
 have E:=E.ext e9
 cases b9 with
 |false=>
  refine go ?_
  refine rt ?_
  rfl
 |true=>
  refine go ?_
  refine WO.con (rules_ok _ vt vf T F f b c E) ?_
  rintro _ h10 ⟨⟨b10,rfl,hb10⟩,e10⟩
  have o1:=o1.ext e10
  have E:=E.ext e10
  cases b10 with
  |false=>
   refine go ?_
   refine rt ?_
   rfl
  |true=>
   refine go ?_
   refine WO.con (rules_ok _ vt vf T F f a b E) ?_
   rintro _ h11 ⟨⟨b11,rfl,hb11⟩,e11⟩
   have o1:=o1.ext e11
   have E:=E.ext e11
   cases b11 with
   |true=>
    refine go ?_
    refine rt ?_
    rfl
   |false=>
    refine go ?_
    refine WO.con (rules_ok _ vt vf T F f b a E) ?_
    rintro _ h12 ⟨⟨b12,rfl,hb12⟩,e12⟩
    obtain rfl:=hb12.2 (((hb9.1 rfl).lin (hb10.1 rfl)).elim (fun h=>absurd (hb11.2 h) Bool.noConfusion) id)
    refine go ?_
    refine rt ?_
    rfl
end Go.Proofs.YtdcgdfbblnljjaaDoor
