/- What functions of the program come to in the abstract machine, and plain laws about it; no statement of the seat is proved in this text. -/
import Derived.Test.YtejjibilgmlhdaaDoorJa
import Derived.Test.YtejjibilgmlhdaaDoorAmV
import Derived.Test.YtejjibilgmlhdaaDoorAmU
import Derived.Test.YtejjibilgmlhdaaDoorAmE
namespace Go.Proofs.YtejjibilgmlhdaaDoor
open Go.Am
set_option linter.unusedVariables false
set_option linter.unusedSimpArgs false
set_option maxHeartbeats 1000000
theorem srt_swp {a b i j:Int} {zs:List Int} (h0:0≤a) (hi:b≤i∧i<zs.length) (hj:b≤j∧j<zs.length) (s:Srt a b zs):Srt a b (swp zs i j):=fun p q h1 h2 h3=>by
 rw[zw (by omega) (by omega) (by omega),zw (by omega) (by omega) (by omega),if_neg (by omega),if_neg (by omega),if_neg (by omega),if_neg (by omega)]
 exact s p q h1 h2 h3
noncomputable def body54_0:ACode:=(.seq (.seq (.regionC [(⟨some 17,none,(.mov (.tmp 7))⟩,[]),(⟨some 18,none,(.mov (.tmp 2))⟩,[]),(⟨some 19,none,(.bin .lss (.tmp 17) (.tmp 18))⟩,[]),(⟨some 20,none,(.mov (.tmp 19))⟩,[]),(⟨some 21,some (20,true),(.mov (.tmp 0))⟩,[]),(⟨some 22,some (20,true),(.mov (.tmp 7))⟩,[]),(⟨some 23,some (20,true),(.idx 1 (.tmp 21) (.tmp 22))⟩,[]),(⟨some 24,some (20,true),(.load false 1 (.tmp 23))⟩,[]),(⟨some 25,some (20,true),(.mov (.tmp 0))⟩,[]),(⟨some 26,some (20,true),(.mov (.tmp 7))⟩,[]),(⟨some 27,some (20,true),(.bin .sub (.tmp 26) (.const (.int .i64 1)))⟩,[]),(⟨some 28,some (20,true),(.idx 1 (.tmp 25) (.tmp 27))⟩,[]),(⟨some 29,some (20,true),(.load false 1 (.tmp 28))⟩,[]),(⟨some 30,some (20,true),(.call (.func 55) [(.tmp 24),(.tmp 29)])⟩,[]),(⟨some 31,some (20,true),(.un .not (.tmp 30))⟩,[]),(⟨some 32,none,(.pick (.tmp 20) (.tmp 31) (.const (.bool false)))⟩,[])]) (.cond (.tmp 32) .skip (.exit 2))) (.block 3 (.region [⟨some 33,none,(.mov (.tmp 7))⟩,⟨some 34,none,(.bin .add (.tmp 33) (.const (.int .i64 1)))⟩,⟨some 7,none,(.mov (.tmp 34))⟩])))
noncomputable def body54_1:ACode:=(.seq (.seq (.region [⟨some 64,none,(.mov (.tmp 9))⟩,⟨some 65,none,(.bin .geq (.tmp 64) (.const (.int .i64 1)))⟩]) (.cond (.tmp 65) .skip (.exit 4))) (.seq (.block 5 (.seq (.seq (.regionC [(⟨some 68,none,(.mov (.tmp 0))⟩,[]),(⟨some 69,none,(.mov (.tmp 9))⟩,[]),(⟨some 70,none,(.idx 1 (.tmp 68) (.tmp 69))⟩,[]),(⟨some 71,none,(.load false 1 (.tmp 70))⟩,[]),(⟨some 72,none,(.mov (.tmp 0))⟩,[]),(⟨some 73,none,(.mov (.tmp 9))⟩,[]),(⟨some 74,none,(.bin .sub (.tmp 73) (.const (.int .i64 1)))⟩,[]),(⟨some 75,none,(.idx 1 (.tmp 72) (.tmp 74))⟩,[]),(⟨some 76,none,(.load false 1 (.tmp 75))⟩,[]),(⟨some 77,none,(.call (.func 55) [(.tmp 71),(.tmp 76)])⟩,[]),(⟨some 78,none,(.un .not (.tmp 77))⟩,[])]) (.cond (.tmp 78) (.exit 4) .skip)) (.regionC [(⟨some 79,none,(.mov (.tmp 0))⟩,[]),(⟨some 80,none,(.mov (.tmp 9))⟩,[]),(⟨some 81,none,(.mov (.tmp 0))⟩,[]),(⟨some 82,none,(.mov (.tmp 9))⟩,[]),(⟨some 83,none,(.bin .sub (.tmp 82) (.const (.int .i64 1)))⟩,[]),(⟨some 84,none,(.mov (.tmp 0))⟩,[]),(⟨some 85,none,(.mov (.tmp 9))⟩,[]),(⟨some 86,none,(.bin .sub (.tmp 85) (.const (.int .i64 1)))⟩,[]),(⟨some 87,none,(.idx 1 (.tmp 84) (.tmp 86))⟩,[]),(⟨some 88,none,(.load false 1 (.tmp 87))⟩,[]),(⟨some 89,none,(.mov (.tmp 0))⟩,[]),(⟨some 90,none,(.mov (.tmp 9))⟩,[]),(⟨some 91,none,(.idx 1 (.tmp 89) (.tmp 90))⟩,[]),(⟨some 92,none,(.load false 1 (.tmp 91))⟩,[]),(⟨some 93,none,(.idx 1 (.tmp 79) (.tmp 80))⟩,[]),(⟨none,none,(.store 1 (.tmp 93) (.tmp 88))⟩,[]),(⟨some 94,none,(.idx 1 (.tmp 81) (.tmp 83))⟩,[]),(⟨none,none,(.store 1 (.tmp 94) (.tmp 92))⟩,[])]))) (.region [⟨some 66,none,(.mov (.tmp 9))⟩,⟨some 67,none,(.bin .sub (.tmp 66) (.const (.int .i64 1)))⟩,⟨some 9,none,(.mov (.tmp 67))⟩])))
noncomputable def body54_2:ACode:=(.seq (.seq (.region [⟨some 101,none,(.mov (.tmp 10))⟩,⟨some 102,none,(.mov (.tmp 2))⟩,⟨some 103,none,(.bin .lss (.tmp 101) (.tmp 102))⟩]) (.cond (.tmp 103) .skip (.exit 6))) (.seq (.block 7 (.seq (.seq (.regionC [(⟨some 106,none,(.mov (.tmp 0))⟩,[]),(⟨some 107,none,(.mov (.tmp 10))⟩,[]),(⟨some 108,none,(.idx 1 (.tmp 106) (.tmp 107))⟩,[]),(⟨some 109,none,(.load false 1 (.tmp 108))⟩,[]),(⟨some 110,none,(.mov (.tmp 0))⟩,[]),(⟨some 111,none,(.mov (.tmp 10))⟩,[]),(⟨some 112,none,(.bin .sub (.tmp 111) (.const (.int .i64 1)))⟩,[]),(⟨some 113,none,(.idx 1 (.tmp 110) (.tmp 112))⟩,[]),(⟨some 114,none,(.load false 1 (.tmp 113))⟩,[]),(⟨some 115,none,(.call (.func 55) [(.tmp 109),(.tmp 114)])⟩,[]),(⟨some 116,none,(.un .not (.tmp 115))⟩,[])]) (.cond (.tmp 116) (.exit 6) .skip)) (.regionC [(⟨some 117,none,(.mov (.tmp 0))⟩,[]),(⟨some 118,none,(.mov (.tmp 10))⟩,[]),(⟨some 119,none,(.mov (.tmp 0))⟩,[]),(⟨some 120,none,(.mov (.tmp 10))⟩,[]),(⟨some 121,none,(.bin .sub (.tmp 120) (.const (.int .i64 1)))⟩,[]),(⟨some 122,none,(.mov (.tmp 0))⟩,[]),(⟨some 123,none,(.mov (.tmp 10))⟩,[]),(⟨some 124,none,(.bin .sub (.tmp 123) (.const (.int .i64 1)))⟩,[]),(⟨some 125,none,(.idx 1 (.tmp 122) (.tmp 124))⟩,[]),(⟨some 126,none,(.load false 1 (.tmp 125))⟩,[]),(⟨some 127,none,(.mov (.tmp 0))⟩,[]),(⟨some 128,none,(.mov (.tmp 10))⟩,[]),(⟨some 129,none,(.idx 1 (.tmp 127) (.tmp 128))⟩,[]),(⟨some 130,none,(.load false 1 (.tmp 129))⟩,[]),(⟨some 131,none,(.idx 1 (.tmp 117) (.tmp 118))⟩,[]),(⟨none,none,(.store 1 (.tmp 131) (.tmp 126))⟩,[]),(⟨some 132,none,(.idx 1 (.tmp 119) (.tmp 121))⟩,[]),(⟨none,none,(.store 1 (.tmp 132) (.tmp 130))⟩,[])]))) (.region [⟨some 104,none,(.mov (.tmp 10))⟩,⟨some 105,none,(.bin .add (.tmp 104) (.const (.int .i64 1)))⟩,⟨some 10,none,(.mov (.tmp 105))⟩])))
noncomputable def body54_3:ACode:=(.seq (.seq (.region [⟨some 13,none,(.mov (.tmp 8))⟩,⟨some 14,none,(.bin .lss (.tmp 13) (.const (.int .i64 5)))⟩]) (.cond (.tmp 14) .skip (.exit 0))) (.seq (.block 1 (.seq (.block 2 (.loop body54_0)) (.seq (.seq (.region [⟨some 35,none,(.mov (.tmp 7))⟩,⟨some 36,none,(.mov (.tmp 2))⟩,⟨some 37,none,(.bin .eql (.tmp 35) (.tmp 36))⟩]) (.cond (.tmp 37) (.seq (.region [⟨some 6,none,(.mov (.const (.bool true)))⟩]) .ret) .skip)) (.seq (.seq (.region [⟨some 38,none,(.mov (.tmp 2))⟩,⟨some 39,none,(.mov (.tmp 1))⟩,⟨some 40,none,(.bin .sub (.tmp 38) (.tmp 39))⟩,⟨some 41,none,(.bin .lss (.tmp 40) (.const (.int .i64 50)))⟩]) (.cond (.tmp 41) (.seq (.region [⟨some 6,none,(.mov (.const (.bool false)))⟩]) .ret) .skip)) (.seq (.regionC [(⟨some 42,none,(.mov (.tmp 0))⟩,[]),(⟨some 43,none,(.mov (.tmp 7))⟩,[]),(⟨some 44,none,(.mov (.tmp 0))⟩,[]),(⟨some 45,none,(.mov (.tmp 7))⟩,[]),(⟨some 46,none,(.bin .sub (.tmp 45) (.const (.int .i64 1)))⟩,[]),(⟨some 47,none,(.mov (.tmp 0))⟩,[]),(⟨some 48,none,(.mov (.tmp 7))⟩,[]),(⟨some 49,none,(.bin .sub (.tmp 48) (.const (.int .i64 1)))⟩,[]),(⟨some 50,none,(.idx 1 (.tmp 47) (.tmp 49))⟩,[]),(⟨some 51,none,(.load false 1 (.tmp 50))⟩,[]),(⟨some 52,none,(.mov (.tmp 0))⟩,[]),(⟨some 53,none,(.mov (.tmp 7))⟩,[]),(⟨some 54,none,(.idx 1 (.tmp 52) (.tmp 53))⟩,[]),(⟨some 55,none,(.load false 1 (.tmp 54))⟩,[]),(⟨some 56,none,(.idx 1 (.tmp 42) (.tmp 43))⟩,[]),(⟨none,none,(.store 1 (.tmp 56) (.tmp 51))⟩,[]),(⟨some 57,none,(.idx 1 (.tmp 44) (.tmp 46))⟩,[]),(⟨none,none,(.store 1 (.tmp 57) (.tmp 55))⟩,[])]) (.seq (.seq (.region [⟨some 58,none,(.mov (.tmp 7))⟩,⟨some 59,none,(.mov (.tmp 1))⟩,⟨some 60,none,(.bin .sub (.tmp 58) (.tmp 59))⟩,⟨some 61,none,(.bin .geq (.tmp 60) (.const (.int .i64 2)))⟩]) (.cond (.tmp 61) (.seq (.region [⟨some 62,none,(.mov (.tmp 7))⟩,⟨some 63,none,(.bin .sub (.tmp 62) (.const (.int .i64 1)))⟩,⟨some 9,none,(.mov (.tmp 63))⟩]) (.block 4 (.loop body54_1))) .skip)) (.seq (.region [⟨some 95,none,(.mov (.tmp 2))⟩,⟨some 96,none,(.mov (.tmp 7))⟩,⟨some 97,none,(.bin .sub (.tmp 95) (.tmp 96))⟩,⟨some 98,none,(.bin .geq (.tmp 97) (.const (.int .i64 2)))⟩]) (.cond (.tmp 98) (.seq (.region [⟨some 99,none,(.mov (.tmp 7))⟩,⟨some 100,none,(.bin .add (.tmp 99) (.const (.int .i64 1)))⟩,⟨some 10,none,(.mov (.tmp 100))⟩]) (.block 6 (.loop body54_2))) .skip)))))))) (.region [⟨some 15,none,(.mov (.tmp 8))⟩,⟨some 16,none,(.bin .add (.tmp 15) (.const (.int .i64 1)))⟩,⟨some 8,none,(.mov (.tmp 16))⟩])))
noncomputable def body54:ACode:=(.seq (.region [⟨some 6,none,(.mov (.const (.bool false)))⟩]) (.seq (.region [⟨some 11,none,(.mov (.tmp 1))⟩,⟨some 12,none,(.bin .add (.tmp 11) (.const (.int .i64 1)))⟩,⟨some 7,none,(.mov (.tmp 12))⟩]) (.seq (.seq (.region [⟨some 8,none,(.mov (.const (.int .i64 0)))⟩]) (.block 0 (.loop body54_3))) (.seq (.region [⟨some 6,none,(.mov (.const (.bool false)))⟩]) .ret))))
set_option maxRecDepth 100000 in
theorem tab54:tb.code 54=some ⟨133,[(6,none)],body54⟩:=by kernel_rfl
theorem partial_ok (hB h:AHeap) (v:Value) (xs:List Int) (a b:Int) (e0:Ext hB h) (hmB:hB.mark≤hB.n) (o:OwnI hB h v xs) (h0:0≤a) (hab:a<b) (hb:b≤xs.length) (hlen:xs.length≤1000000000) (hpre:0<a→∀ k,a≤k→k<b→atI xs (a - 1)≤atI xs k):
  WC Tryd.prog tb 54 [v,I a,I b] h fun r h'=>∃ ys w,r= .bool w∧SS hB h v a b xs ys h'∧(w=true→Srt a b ys):=by
 have s0:=SS.start a b o e0
 have low:Hid (∀ ys,PI a b xs ys→0<a→∀ k,a≤k→k<b→atI ys (a - 1)≤atI ys k):=Hid.mk fun ys p ha=>by
  have e1:atI ys (a - 1)=atI xs (a - 1):=p.out _ (by omega) (.inl (by omega))
  rw[e1]
  exact p.all (p:=fun x=>atI xs (a - 1)≤x) h0 hb (hpre ha)
 refine WC.of (zY 54) tab54 ?_;simp only[mkTm,Nat.zero_add,Nat.reduceAdd]
 refine go ?_
 refine WX.loopA [13,14,17,18,19,20,21,22,23,24,25,26,27,28,29,30,31,32,33,34,7,35,36,37,6,38,39,40,41,6,42,43,44,45,46,47,48,49,50,51,52,53,54,55,56,57,58,59,60,61,62,63,9,64,65,68,69,70,71,72,73,74,75,76,77,78,79,80,81,82,83,84,85,86,87,88,89,90,91,92,93,94,66,67,9,95,96,97,98,99,100,10,101,102,103,106,107,108,109,110,111,112,113,114,115,116,117,118,119,120,121,122,123,124,125,126,127,128,129,130,131,132,104,105,10,15,16,8] (by kernel_rfl) (fun x=>(5 - x.2.2).toNat) (fun (x:List Int×Int×Int) t h4=>SS hB h v a b xs x.1 h4∧zA t 7=I x.2.1∧zA t 8=I x.2.2∧(a+1≤x.2.1∧x.2.1≤b)∧(0≤x.2.2∧x.2.2≤5)∧Srt a x.2.1 x.1) (xs,a+1,0) ?_ ?_
 ·exact⟨s0,sl_,sl_,by simp only;omega,by simp only;omega,Srt.small (by simp only;omega)⟩
 rintro⟨ys,i,c⟩ t h4 hsame ⟨s4,s7,s8,hi,hc,hs⟩
 simp only at s4 s7 s8 hi hc hs
 have hl4:=s4.len
 refine go ?_
 refine WX.br (fun hx=> ?_) (fun hx=> ?_)<;>simp only[DB]at hx
 case refine_2=>
  refine go ?_
  refine rt ?_
  exact⟨_,_,rfl,s4,fun h=>by cases h⟩
 refine go ?_
 refine WX.loopA [17,18,19,20,21,22,23,24,25,26,27,28,29,30,31,32,33,34,7] (by kernel_rfl) (fun i=>(b - i).toNat) (fun (i:Int) t h2=>h4=h2∧zA t 7=I i∧(a+1≤i∧i≤b)∧Srt a i ys) i ?_ ?_
 ·exact⟨rfl,sl_,hi,hs⟩
 clear hs hi s7
 rintro i t _ hsame2 ⟨rfl,s7,hi,hs⟩
 refine go ?_
 refine WX.cutA [17,18,19,20,21,22,23,24,25,26,27,28,29,30,31,32] (by kernel_rfl) (fun t h'=>h4=h'∧zA t 32= .bool (decide (i<b∧¬(atI ys i<atI ys (i - 1))))) ?_ ?_
 ·refine WX.regionU2 0 rfl rfl ?_
  have srX:SlI (inC (zF 0 h4)) v ys:=(s4.own).sl
  refine goU ?_
  refine WO.sp (fun hd=> ?_) (fun hd=> ?_)<;>simp only[DB]at hd<;>refine goU ?_
  ·refine WO.con (yM _ (atI ys i) (atI ys (i - 1))) ?_
   rintro _ _ ⟨rfl,rfl⟩
   refine WO.nil ?_
   refine yC ?_
   refine goU ?_
   exact zD ⟨rfl,by rw[show decide (i<b∧¬(atI ys i<atI ys (i - 1)))= !decide (atI ys i<atI ys (i - 1)) from dec_neg hd];exact sl_⟩
  ·exact zD ⟨rfl,by rw[show decide (i<b∧¬(atI ys i<atI ys (i - 1)))=false from decide_eq_false (fun hh=>absurd hh.1 (by omega))];exact sl_⟩
 rintro t5 _ hs5 ⟨rfl,q5⟩
 refine go ?_
 refine WX.br (fun he=> ?_) (fun he=> ?_)<;>simp only[DB]at he
 ·refine go ?_
  refine zC (i+1) (by omega) ⟨rfl,sl_,by omega,fun p q h1 h2 h3=> ?_⟩
  by_cases e:q=i
  ·by_cases e2:p=i
   ·rw[e,e2];exact Int.le_refl _
   ·have:=hs p (i - 1) h1 (by omega) (by omega)
    rw[e];omega
  ·exact hs p q h1 h2 (by omega)
 refine go ?_
 refine WX.br (fun hf=> ?_) (fun hf=> ?_)<;>simp only[DB]at hf
 ·refine go ?_
  refine rt ?_
  subst hf
  exact⟨_,_,rfl,s4,fun _=>hs⟩
 refine go ?_
 refine WX.br (fun hg=> ?_) (fun hg=> ?_)<;>simp only[DB]at hg
 ·refine go ?_
  refine rt ?_
  exact⟨_,_,rfl,s4,fun h=>by cases h⟩
 have hlt:atI ys i<atI ys (i - 1):=Int.not_le.1 fun hh=>he ⟨by omega,hh⟩
 refine go ?_
 refine WX.regionU2 0 rfl rfl ?_
 have srX:SlI (inC (zF 0 h4)) v ys:=(s4.own).sl
 refine goU ?_
 refine WU2.swA (i) (i - 1) (s4).own (s4).ext (by rw[(s4).ext.mark];exact hmB) ?_
 intro h6 e6 o6 u6
 have s6:=s4.swp e6 o6 u6 h0 hb (by omega) (by omega)
 have hz:∀ p q,a≤p→p≤q→q<i→q≠i - 1→atI (swp ys i (i - 1)) p≤atI (swp ys i (i - 1)) q:=fun p q h1 h2 h3 h4=>by
  rw[zw (by omega) (by omega) (by omega),zw (by omega) (by omega) (by omega),if_neg (by omega),if_neg (by omega),if_neg (by omega),if_neg (by omega)]
  exact hs p q h1 h2 h3
 clear o6 e6 u6 s4 hl4 hs he hlt
 generalize swp ys i (i - 1)=zs at s6 hz
 have hl6:=s6.len
 refine go ?_
 refine WX.cutA [62,63,9,64,65,68,69,70,71,72,73,74,75,76,77,78,79,80,81,82,83,84,85,86,87,88,89,90,91,92,93,94,66,67,9] (by kernel_rfl) (fun t h'=>∃ ws,SS hB h v a b xs ws h'∧Srt a i ws) ?_ ?_
 ·refine WX.br (fun hj=> ?_) (fun hj=> ?_)<;>simp only[DB]at hj<;>refine go ?_
  ·refine WX.loopA [64,65,68,69,70,71,72,73,74,75,76,77,78,79,80,81,82,83,84,85,86,87,88,89,90,91,92,93,94,66,67,9] (by kernel_rfl) (fun x=>(x.2+1).toNat) (fun (x:List Int×Int) t h7=>SS hB h v a b xs x.1 h7∧zA t 9=I x.2∧(a≤x.2∧x.2≤i - 1)∧∀ p q,a≤p→p≤q→q<i→q≠x.2→atI x.1 p≤atI x.1 q) (zs,i - 1) ?_ ?_
   ·exact⟨s6,sl_,by simp only;omega,hz⟩
   rintro⟨ws,j⟩ t h7 hsame3 ⟨s7',s9,hj2,hw⟩
   simp only at s7' s9 hj2 hw
   have hl7:=s7'.len
   have fin:(j<1∨¬atI ws j<atI ws (j - 1))→Srt a i ws:=fun hor p q h1 h2 h3=>by
    by_cases e:q=j
    ·by_cases e2:p=j
     ·rw[e,e2];exact Int.le_refl _
     ·have:=hw p (j - 1) h1 (by omega) (by omega) (by omega)
      rw[e]
      rcases hor with hh|hh
      ·omega
      ·omega
    ·exact hw p q h1 h2 h3 e
   refine go ?_
   refine WX.br (fun hk=> ?_) (fun hk=> ?_)<;>simp only[DB]at hk
   case refine_2=>
    refine go ?_
    exact zD ⟨ws,s7',fin (.inl (by omega))⟩
   refine go ?_
   refine WX.regionU2 0 rfl rfl ?_
   have srX:SlI (inC (zF 0 h7)) v ws:=(s7'.own).sl
   refine goU ?_
   refine WO.con (yM _ (atI ws j) (atI ws (j - 1))) ?_
   rintro _ _ ⟨rfl,rfl⟩
   refine WO.nil ?_
   refine yC ?_
   refine goU ?_
   rw[out_self]
   refine WX.br (fun hm=> ?_) (fun hm=> ?_)<;>simp only[DB]at hm
   ·refine go ?_
    exact zD ⟨ws,s7',fin (.inr (by omega))⟩
   have hja:a<j:=by
    by_cases e:a<j
    ·exact e
    ·have ej:j=a:=by omega
     subst ej
     have:=low.out ws s7'.pi (by omega) j (by omega) (by omega)
     omega
   refine go ?_
   refine WX.regionU2 0 rfl rfl ?_
   have srX:SlI (inC (zF 0 h7)) v ws:=(s7'.own).sl
   refine goU ?_
   refine WU2.swA (j) (j - 1) (s7').own (s7').ext (by rw[(s7').ext.mark];exact hmB) ?_
   intro h8 e8 o8 u8
   have s8':=s7'.swp e8 o8 u8 h0 hb (by omega) (by omega)
   refine go ?_
   refine zC (swp ws j (j - 1),j - 1) (by simp only;omega) ⟨s8',sl_,by simp only;omega,fun p q h1 h2 h3 h4=> ?_⟩
   exact ins_step (i:=i - 1) h0 hja (by omega) (by omega) hm (fun p q h1 h2 h3 h4=>hw p q h1 h2 (by omega) h4) p q h1 h2 (by omega) h4
  ·exact zD ⟨zs,s6,Srt.small (by omega)⟩
 clear s6 hz hl6
 rintro t7 h7 hs7 ⟨zs,s6,hz⟩
 have hl6:=s6.len
 refine go ?_
 refine WX.cutA [99,100,10,101,102,103,106,107,108,109,110,111,112,113,114,115,116,117,118,119,120,121,122,123,124,125,126,127,128,129,130,131,132,104,105,10] (by kernel_rfl) (fun t h'=>∃ ws,SS hB h v a b xs ws h'∧Srt a i ws) ?_ ?_
 ·refine WX.br (fun hj=> ?_) (fun hj=> ?_)<;>simp only[DB]at hj<;>refine go ?_
  ·refine WX.loopA [101,102,103,106,107,108,109,110,111,112,113,114,115,116,117,118,119,120,121,122,123,124,125,126,127,128,129,130,131,132,104,105,10] (by kernel_rfl) (fun x=>(b - x.2).toNat) (fun (x:List Int×Int) t h7=>SS hB h v a b xs x.1 h7∧zA t 10=I x.2∧(i+1≤x.2∧x.2≤b)∧Srt a i x.1) (zs,i+1) ?_ ?_
   ·exact⟨s6,sl_,by simp only;omega,hz⟩
   rintro⟨ws,j⟩ t h7 hsame3 ⟨s7',s10,hj2,hw⟩
   simp only at s7' s10 hj2 hw
   have hl7:=s7'.len
   refine go ?_
   refine WX.br (fun hk=> ?_) (fun hk=> ?_)<;>simp only[DB]at hk
   case refine_2=>
    refine go ?_
    exact zD ⟨ws,s7',hw⟩
   refine go ?_
   refine WX.regionU2 0 rfl rfl ?_
   have srX:SlI (inC (zF 0 h7)) v ws:=(s7'.own).sl
   refine goU ?_
   refine WO.con (yM _ (atI ws j) (atI ws (j - 1))) ?_
   rintro _ _ ⟨rfl,rfl⟩
   refine WO.nil ?_
   refine yC ?_
   refine goU ?_
   rw[out_self]
   refine WX.br (fun hm=> ?_) (fun hm=> ?_)<;>simp only[DB]at hm
   ·refine go ?_
    exact zD ⟨ws,s7',hw⟩
   refine go ?_
   refine WX.regionU2 0 rfl rfl ?_
   have srX:SlI (inC (zF 0 h7)) v ws:=(s7'.own).sl
   refine goU ?_
   refine WU2.swA (j) (j - 1) (s7').own (s7').ext (by rw[(s7').ext.mark];exact hmB) ?_
   intro h8 e8 o8 u8
   have s8':=s7'.swp e8 o8 u8 h0 hb (by omega) (by omega)
   refine go ?_
   exact zC (swp ws j (j - 1),j+1) (by simp only;omega) ⟨s8',sl_,by simp only;omega,srt_swp h0 (by omega) (by omega) hw⟩
  ·exact zD ⟨zs,s6,hz⟩
 clear s6 hz hl6
 rintro t8 h8 hs8 ⟨zs,s6,hz⟩
 refine go ?_
 exact zC (zs,i,c+1) (by simp only;omega) ⟨s6,sl_,sl_,hi,by simp only;omega,hz⟩
noncomputable def body47_0:ACode:=(.block 1 (.seq (.region [⟨some 19,none,(.mov (.tmp 2))⟩,⟨some 20,none,(.mov (.tmp 1))⟩,⟨some 21,none,(.bin .sub (.tmp 19) (.tmp 20))⟩,⟨some 10,none,(.mov (.tmp 21))⟩]) (.seq (.seq (.region [⟨some 22,none,(.mov (.tmp 10))⟩,⟨some 23,none,(.bin .leq (.tmp 22) (.const (.int .i64 12)))⟩]) (.cond (.tmp 23) (.seq (.region [⟨some 24,none,(.mov (.tmp 0))⟩,⟨some 25,none,(.mov (.tmp 1))⟩,⟨some 26,none,(.mov (.tmp 2))⟩,⟨some 27,none,(.call (.func 49) [(.tmp 24),(.tmp 25),(.tmp 26)])⟩]) .ret) .skip)) (.seq (.seq (.region [⟨some 28,none,(.mov (.tmp 3))⟩,⟨some 29,none,(.bin .eql (.tmp 28) (.const (.int .i64 0)))⟩]) (.cond (.tmp 29) (.seq (.region [⟨some 30,none,(.mov (.tmp 0))⟩,⟨some 31,none,(.mov (.tmp 1))⟩,⟨some 32,none,(.mov (.tmp 2))⟩,⟨some 33,none,(.call (.func 50) [(.tmp 30),(.tmp 31),(.tmp 32)])⟩]) .ret) .skip)) (.seq (.seq (.region [⟨some 34,none,(.mov (.tmp 8))⟩,⟨some 35,none,(.un .not (.tmp 34))⟩]) (.cond (.tmp 35) (.seq (.region [⟨some 36,none,(.mov (.tmp 0))⟩,⟨some 37,none,(.mov (.tmp 1))⟩,⟨some 38,none,(.mov (.tmp 2))⟩,⟨some 39,none,(.call (.func 51) [(.tmp 36),(.tmp 37),(.tmp 38)])⟩]) (.region [⟨some 40,none,(.mov (.tmp 3))⟩,⟨some 41,none,(.bin .sub (.tmp 40) (.const (.int .i64 1)))⟩,⟨some 3,none,(.mov (.tmp 41))⟩])) .skip)) (.seq (.region [⟨some 43,none,(.mov (.tmp 0))⟩,⟨some 44,none,(.mov (.tmp 1))⟩,⟨some 45,none,(.mov (.tmp 2))⟩,⟨some 46,none,(.call (.func 52) [(.tmp 43),(.tmp 44),(.tmp 45)])⟩,⟨some 42,none,(.mov (.tmp 46))⟩,⟨some 47,none,(.extract (.tmp 42) 0)⟩,⟨some 48,none,(.extract (.tmp 42) 1)⟩,⟨some 11,none,(.mov (.tmp 47))⟩,⟨some 12,none,(.mov (.tmp 48))⟩]) (.seq (.seq (.region [⟨some 49,none,(.mov (.tmp 12))⟩,⟨some 50,none,(.bin .eql (.tmp 49) (.const (.int .i64 2)))⟩]) (.cond (.tmp 50) (.seq (.region [⟨some 51,none,(.mov (.tmp 0))⟩,⟨some 52,none,(.mov (.tmp 1))⟩,⟨some 53,none,(.mov (.tmp 2))⟩,⟨some 54,none,(.call (.func 53) [(.tmp 51),(.tmp 52),(.tmp 53)])⟩]) (.seq (.region [⟨some 55,none,(.mov (.tmp 2))⟩,⟨some 56,none,(.bin .sub (.tmp 55) (.const (.int .i64 1)))⟩,⟨some 57,none,(.mov (.tmp 11))⟩,⟨some 58,none,(.mov (.tmp 1))⟩,⟨some 59,none,(.bin .sub (.tmp 57) (.tmp 58))⟩,⟨some 60,none,(.bin .sub (.tmp 56) (.tmp 59))⟩,⟨some 11,none,(.mov (.tmp 60))⟩]) (.region [⟨some 12,none,(.mov (.const (.int .i64 1)))⟩]))) .skip)) (.seq (.seq (.region [⟨some 61,none,(.mov (.tmp 8))⟩,⟨some 62,none,(.mov (.tmp 61))⟩,⟨some 63,some (62,true),(.mov (.tmp 9))⟩,⟨some 64,none,(.pick (.tmp 62) (.tmp 63) (.const (.bool false)))⟩,⟨some 65,none,(.mov (.tmp 64))⟩,⟨some 66,some (65,true),(.mov (.tmp 12))⟩,⟨some 67,some (65,true),(.bin .eql (.tmp 66) (.const (.int .i64 1)))⟩,⟨some 68,none,(.pick (.tmp 65) (.tmp 67) (.const (.bool false)))⟩]) (.cond (.tmp 68) (.seq (.region [⟨some 69,none,(.mov (.tmp 0))⟩,⟨some 70,none,(.mov (.tmp 1))⟩,⟨some 71,none,(.mov (.tmp 2))⟩,⟨some 72,none,(.call (.func 54) [(.tmp 69),(.tmp 70),(.tmp 71)])⟩]) (.cond (.tmp 72) .ret .skip)) .skip)) (.seq (.seq (.regionC [(⟨some 73,none,(.mov (.tmp 1))⟩,[]),(⟨some 74,none,(.bin .gtr (.tmp 73) (.const (.int .i64 0)))⟩,[]),(⟨some 75,none,(.mov (.tmp 74))⟩,[]),(⟨some 76,some (75,true),(.mov (.tmp 0))⟩,[]),(⟨some 77,some (75,true),(.mov (.tmp 1))⟩,[]),(⟨some 78,some (75,true),(.bin .sub (.tmp 77) (.const (.int .i64 1)))⟩,[]),(⟨some 79,some (75,true),(.idx 1 (.tmp 76) (.tmp 78))⟩,[]),(⟨some 80,some (75,true),(.load false 1 (.tmp 79))⟩,[]),(⟨some 81,some (75,true),(.mov (.tmp 0))⟩,[]),(⟨some 82,some (75,true),(.mov (.tmp 11))⟩,[]),(⟨some 83,some (75,true),(.idx 1 (.tmp 81) (.tmp 82))⟩,[]),(⟨some 84,some (75,true),(.load false 1 (.tmp 83))⟩,[]),(⟨some 85,some (75,true),(.call (.func 55) [(.tmp 80),(.tmp 84)])⟩,[]),(⟨some 86,some (75,true),(.un .not (.tmp 85))⟩,[]),(⟨some 87,none,(.pick (.tmp 75) (.tmp 86) (.const (.bool false)))⟩,[])]) (.cond (.tmp 87) (.seq (.region [⟨some 88,none,(.mov (.tmp 0))⟩,⟨some 89,none,(.mov (.tmp 1))⟩,⟨some 90,none,(.mov (.tmp 2))⟩,⟨some 91,none,(.mov (.tmp 11))⟩,⟨some 92,none,(.call (.func 56) [(.tmp 88),(.tmp 89),(.tmp 90),(.tmp 91)])⟩,⟨some 13,none,(.mov (.tmp 92))⟩]) (.seq (.region [⟨some 93,none,(.mov (.tmp 13))⟩,⟨some 1,none,(.mov (.tmp 93))⟩]) (.exit 1))) .skip)) (.seq (.region [⟨some 95,none,(.mov (.tmp 0))⟩,⟨some 96,none,(.mov (.tmp 1))⟩,⟨some 97,none,(.mov (.tmp 2))⟩,⟨some 98,none,(.mov (.tmp 11))⟩,⟨some 99,none,(.call (.func 57) [(.tmp 95),(.tmp 96),(.tmp 97),(.tmp 98)])⟩,⟨some 94,none,(.mov (.tmp 99))⟩,⟨some 100,none,(.extract (.tmp 94) 0)⟩,⟨some 101,none,(.extract (.tmp 94) 1)⟩,⟨some 14,none,(.mov (.tmp 100))⟩,⟨some 15,none,(.mov (.tmp 101))⟩]) (.seq (.region [⟨some 102,none,(.mov (.tmp 15))⟩,⟨some 9,none,(.mov (.tmp 102))⟩]) (.seq (.region [⟨some 103,none,(.mov (.tmp 14))⟩,⟨some 104,none,(.mov (.tmp 1))⟩,⟨some 105,none,(.bin .sub (.tmp 103) (.tmp 104))⟩,⟨some 106,none,(.mov (.tmp 2))⟩,⟨some 107,none,(.mov (.tmp 14))⟩,⟨some 108,none,(.bin .sub (.tmp 106) (.tmp 107))⟩,⟨some 16,none,(.mov (.tmp 105))⟩,⟨some 17,none,(.mov (.tmp 108))⟩]) (.seq (.region [⟨some 109,none,(.mov (.tmp 10))⟩,⟨some 110,none,(.bin .quo (.tmp 109) (.const (.int .i64 8)))⟩,⟨some 18,none,(.mov (.tmp 110))⟩]) (.seq (.region [⟨some 111,none,(.mov (.tmp 16))⟩,⟨some 112,none,(.mov (.tmp 17))⟩,⟨some 113,none,(.bin .lss (.tmp 111) (.tmp 112))⟩]) (.cond (.tmp 113) (.seq (.region [⟨some 114,none,(.mov (.tmp 16))⟩,⟨some 115,none,(.mov (.tmp 18))⟩,⟨some 116,none,(.bin .geq (.tmp 114) (.tmp 115))⟩,⟨some 8,none,(.mov (.tmp 116))⟩]) (.seq (.region [⟨some 117,none,(.mov (.tmp 0))⟩,⟨some 118,none,(.mov (.tmp 1))⟩,⟨some 119,none,(.mov (.tmp 14))⟩,⟨some 120,none,(.mov (.tmp 3))⟩,⟨some 121,none,(.call (.func 47) [(.tmp 117),(.tmp 118),(.tmp 119),(.tmp 120)])⟩]) (.region [⟨some 122,none,(.mov (.tmp 14))⟩,⟨some 123,none,(.bin .add (.tmp 122) (.const (.int .i64 1)))⟩,⟨some 1,none,(.mov (.tmp 123))⟩]))) (.seq (.region [⟨some 124,none,(.mov (.tmp 17))⟩,⟨some 125,none,(.mov (.tmp 18))⟩,⟨some 126,none,(.bin .geq (.tmp 124) (.tmp 125))⟩,⟨some 8,none,(.mov (.tmp 126))⟩]) (.seq (.region [⟨some 127,none,(.mov (.tmp 0))⟩,⟨some 128,none,(.mov (.tmp 14))⟩,⟨some 129,none,(.bin .add (.tmp 128) (.const (.int .i64 1)))⟩,⟨some 130,none,(.mov (.tmp 2))⟩,⟨some 131,none,(.mov (.tmp 3))⟩,⟨some 132,none,(.call (.func 47) [(.tmp 127),(.tmp 129),(.tmp 130),(.tmp 131)])⟩]) (.region [⟨some 133,none,(.mov (.tmp 14))⟩,⟨some 2,none,(.mov (.tmp 133))⟩]))))))))))))))))))
noncomputable def body47:ACode:=(.seq (.region [⟨some 8,none,(.mov (.const (.bool true)))⟩]) (.seq (.region [⟨some 9,none,(.mov (.const (.bool true)))⟩]) (.block 0 (.loop body47_0))))
set_option maxRecDepth 100000 in
theorem tab47:tb.code 47=some ⟨134,[],body47⟩:=by kernel_rfl
theorem pdq_ok (n:Nat):∀ (hB h:AHeap) (v:Value) (xs:List Int) (a b lim:Int) (e0:Ext hB h) (hmB:hB.mark≤hB.n) (o:OwnI hB h v xs) (h0:0≤a) (hab:a≤b) (hb:b≤xs.length) (hn:b - a≤n) (hlen:xs.length≤1000000000) (hlim:0≤lim∧lim≤1000) (hpre:0<a→∀ k,a≤k→k<b→atI xs (a - 1)≤atI xs k),
  WC Tryd.prog tb 47 [v,I a,I b,I lim] h fun r h'=>∃ ys,SS hB h v a b xs ys h'∧Srt a b ys:=by
 induction n using Nat.strongRecOn with
 |_ n IH=>
 intro hB h v xs a b lim e0 hmB o h0 hab hb hn hlen hlim hpre
 have IH:=Hid.mk IH
 have s0:=SS.start a b o e0
 refine WC.of (zY 47) tab47 ?_;simp only[mkTm,Nat.zero_add,Nat.reduceAdd]
 refine go ?_
 refine WX.loopA [19,20,21,10,22,23,24,25,26,27,28,29,30,31,32,33,34,35,36,37,38,39,40,41,3,43,44,45,46,42,47,48,11,12,49,50,51,52,53,54,55,56,57,58,59,60,11,12,61,62,63,64,65,66,67,68,69,70,71,72,73,74,75,76,77,78,79,80,81,82,83,84,85,86,87,88,89,90,91,92,13,93,1,95,96,97,98,99,94,100,101,14,15,102,9,103,104,105,106,107,108,16,17,109,110,18,111,112,113,114,115,116,8,117,118,119,120,121,122,123,1,124,125,126,8,127,128,129,130,131,132,133,2] (by kernel_rfl) (fun x=>(x.2.2.1 - x.2.1).toNat) (fun (x:List Int×Int×Int×Int×Bool×Bool) t h4=>SS hB h v a b xs x.1 h4∧zA t 1=I x.2.1∧zA t 2=I x.2.2.1∧zA t 3=I x.2.2.2.1∧zA t 8= .bool x.2.2.2.2.1∧zA t 9= .bool x.2.2.2.2.2∧(a≤x.2.1∧x.2.1≤x.2.2.1∧x.2.2.1≤b)∧(0≤x.2.2.2.1∧x.2.2.2.1≤1000)∧Srt a x.2.1 x.1∧Srt x.2.2.1 b x.1∧(∀ p q,a≤p→p<x.2.1→x.2.1≤q→q<b→atI x.1 p≤atI x.1 q)∧(∀ p q,a≤p→p<x.2.2.1→x.2.2.1≤q→q<b→atI x.1 p≤atI x.1 q)∧(0<x.2.1→∀ k,x.2.1≤k→k<x.2.2.1→atI x.1 (x.2.1 - 1)≤atI x.1 k)) (xs,a,b,lim,true,true) ?_ ?_
 ·exact⟨s0,sl_,sl_,sl_,sl_,sl_,by simp only;omega,hlim,Srt.small (by simp only;omega),Srt.small (by simp only;omega),fun p q h1 h2=>by simp only at h2;omega,fun p q h1 h2 h3 h4=>by simp only at h3;omega,hpre⟩
 rintro⟨ys,c,d,lm,wb,wp⟩ t h4 hsame ⟨s4,s1,s2,s3,s8,s9,hcd,hlm,rA,rB,rL,rH,hpr⟩
 simp only at s4 s1 s2 s3 s8 s9 hcd hlm rA rB rL rH hpr
 have hl4:=s4.len
 have whole:Hid (∀ zs h5,SS hB h4 v c d ys zs h5→Srt c d zs→SS hB h v a b xs zs h5∧Srt a b zs):=Hid.mk fun zs h5 s5 r5=>by
  refine⟨s4.call s5 hcd.1 hcd.2.2,fun p q h1 h2 h3=> ?_⟩
  have p5:=s5.pi
  have o5:=p5.out
  by_cases hq:q<c
  ·rw[o5 p (by omega) (.inl (by omega)),o5 q (by omega) (.inl hq)];exact rA p q h1 h2 hq
  by_cases hp:d≤p
  ·rw[o5 p (by omega) (.inr hp),o5 q (by omega) (.inr (by omega))];exact rB p q hp h2 h3
  by_cases hp2:p<c
  ·rw[o5 p (by omega) (.inl hp2)]
   by_cases hq2:d≤q
   ·rw[o5 q (by omega) (.inr hq2)];exact rL p q h1 hp2 (by omega) h3
   ·exact p5.all (p:=fun x=>atI ys p≤x) (by omega) (by omega) (fun k hk1 hk2=>rL p k h1 hp2 hk1 (by omega)) q (by omega) (by omega)
  ·by_cases hq2:d≤q
   ·rw[o5 q (by omega) (.inr hq2)]
    exact p5.all (p:=fun x=>x≤atI ys q) (by omega) (by omega) (fun k hk1 hk2=>rH k q (by omega) hk2 hq2 h3) p (by omega) (by omega)
   ·exact r5 p q (by omega) h2 (by omega)
 refine go ?_
 refine WX.br (fun hx=> ?_) (fun hx=> ?_)<;>simp only[DB]at hx
 ·refine go ?_
  refine WO.con (insertion_ok hB h4 v ys c d s4.ext hmB s4.own (by omega) (by omega) (by omega) (by omega)) ?_
  rintro _ h5 ⟨zs,o5,p5,r5,e5,u5⟩
  refine go ?_
  refine rt ?_
  exact⟨zs,whole.out zs h5 ⟨o5,e5,u5,p5⟩ r5⟩
 refine go ?_
 refine WX.br (fun hy=> ?_) (fun hy=> ?_)<;>simp only[DB]at hy
 ·refine go ?_
  refine WO.con (heap_ok hB h4 v ys c d s4.ext hmB s4.own (by omega) (by omega) (by omega) (by omega)) ?_
  rintro _ h5 ⟨zs,s5,r5⟩
  refine go ?_
  refine rt ?_
  exact⟨zs,whole.out zs h5 s5 r5⟩
 refine go ?_
 refine WX.cutA [36,37,38,39,40,41,3] (by kernel_rfl) (fun t h'=>∃ zs l2,SS hB h4 v c d ys zs h'∧zA t 3=I l2∧0≤l2∧l2≤1000) ?_ ?_
 ·refine WX.br (fun hz=> ?_) (fun hz=> ?_)<;>simp only[DB]at hz<;>refine go ?_
  ·refine WO.con (break_ok hB h4 v ys c d s4.ext hmB s4.own (by omega) (by omega) (by omega) (by omega)) ?_
   rintro _ h5 ⟨zs,s5⟩
   refine go ?_
   exact zD ⟨zs,lm - 1,s5,sl_,by omega,by omega⟩
  ·exact zD ⟨ys,lm,SS.start c d s4.own s4.ext,sl_,hlm.1,hlm.2⟩
 rintro t5 h5 hs5 ⟨zs,l2,s5,q3,hl2⟩
 have hl5:=s5.len
 refine go ?_
 refine WO.con (pivot_ok h5 v zs c d s5.own.sl (by omega) (by omega) (by omega) (by omega)) ?_
 rintro _ h6 ⟨⟨pv,hint,rfl,hpv⟩,e6⟩
 have s6:=s5.extd e6
 refine go ?_
 refine WX.cutA [51,52,53,54,55,56,57,58,59,60,11,12] (by kernel_rfl) (fun t h'=>∃ ws p2 hi2,SS hB h4 v c d ys ws h'∧zA t 11=I p2∧zA t 12=I hi2∧c≤p2∧p2<d) ?_ ?_
 ·refine WX.br (fun hz=> ?_) (fun hz=> ?_)<;>simp only[DB]at hz<;>refine go ?_
  ·refine WO.con (reverse_ok hB h6 v zs c d s6.ext hmB s6.own (by omega) (by omega) (by omega) (by omega)) ?_
   rintro _ h7 ⟨ws,s7⟩
   refine go ?_
   exact zD ⟨ws,_,1,s6.call s7 (by omega) (by omega),sl_,sl_,by omega,by omega⟩
  ·exact zD ⟨zs,pv,hint,s6,sl_,sl_,hpv.1,hpv.2⟩
 clear s5 s6 hl5
 rintro t7 h7 hs7 ⟨ws,p2,hi2,s7,q11,q12,hp2⟩
 have hl7:=s7.len
 have low7:Hid (∀ us,PI c d ys us→0<c→∀ k,c≤k→k<d→atI us (c - 1)≤atI us k):=Hid.mk fun us p hc=>by
  rw[p.out (c - 1) (by omega) (.inl (by omega))]
  exact p.all (p:=fun x=>atI ys (c - 1)≤x) (by omega) (by omega) (hpr hc)
 have env:Hid (∀ us,PI c d ys us→Srt a c us∧Srt d b us∧(∀ p q,a≤p→p<c→c≤q→q<b→atI us p≤atI us q)∧(∀ p q,a≤p→p<d→d≤q→q<b→atI us p≤atI us q)):=Hid.mk fun us p5=>by
  have o5:=p5.out
  refine⟨fun p q h1 h2 h3=> ?_,fun p q h1 h2 h3=> ?_,fun p q h1 h2 h3 h4=> ?_,fun p q h1 h2 h3 h4=> ?_⟩
  ·rw[o5 p (by omega) (.inl (by omega)),o5 q (by omega) (.inl h3)];exact rA p q h1 h2 h3
  ·rw[o5 p (by omega) (.inr (by omega)),o5 q (by omega) (.inr (by omega))];exact rB p q h1 h2 h3
  ·rw[o5 p (by omega) (.inl (by omega))]
   by_cases hq2:d≤q
   ·rw[o5 q (by omega) (.inr hq2)];exact rL p q h1 h2 h3 h4
   ·exact p5.all (p:=fun x=>atI ys p≤x) (by omega) (by omega) (fun k hk1 hk2=>rL p k h1 h2 hk1 (by omega)) q h3 (by omega)
  ·rw[o5 q (by omega) (.inr (by omega))]
   by_cases hp:p<c
   ·rw[o5 p (by omega) (.inl hp)];exact rH p q h1 h2 h3 h4
   ·exact p5.all (p:=fun x=>x≤atI ys q) (by omega) (by omega) (fun k hk1 hk2=>rH k q (by omega) hk2 h3 h4) p (by omega) h2
 clear rA rB rL rH hpr
 refine go ?_
 refine WO.mid 6 (fun t' h'=>h7=h'∧∃ bb,zA t' 68= .bool bb) ?_ ?_<;>simp only[List.take_succ_cons,List.take_zero,List.drop_succ_cons,List.drop_zero]
 ·cases wb<;>cases wp<;>refine go ?_<;>exact⟨rfl,rfl,rfl,_,sl_⟩
 rintro t8 _ hs8 ⟨rfl,bb,q68⟩
 refine go ?_
 refine WX.cutA [69,70,71,72] (by kernel_rfl) (fun t h'=>∃ us,SS hB h4 v c d ys us h') ?_ ?_
 ·refine WX.br (fun hz=> ?_) (fun hz=> ?_)<;>refine go ?_
  ·refine WO.con (partial_ok hB h7 v ws c d s7.ext hmB s7.own (by omega) (by omega) (by omega) (by omega) (low7.out ws s7.pi)) ?_
   rintro _ h9 ⟨us,w,rfl,s9',r9⟩
   have r9:=Hid.mk r9
   refine WO.nil ?_
   refine thenK_normal ?_
   refine WX.br (fun hw=> ?_) (fun hw=> ?_)
   ·refine WX.ret ?_
    refine cutK_ret ?_
    refine go ?_
    refine rt ?_
    exact⟨us,whole.out us h9 (s7.call s9' (by omega) (by omega)) (r9.out hw)⟩
   ·refine WX.skip ?_
    exact zD ⟨us,s7.call s9' (by omega) (by omega)⟩
  ·exact zD ⟨ws,s7⟩
 clear s7 hl7
 rintro t9 h9 hs9 ⟨us,s9'⟩
 have hl9:=s9'.len
 refine go ?_
 refine WX.cutA [73,74,75,76,77,78,79,80,81,82,83,84,85,86,87] (by kernel_rfl) (fun t h'=>h9=h'∧zA t 87= .bool (decide (0<c∧¬(atI us (c - 1)<atI us p2)))) ?_ ?_
 ·refine WX.regionU2 0 rfl rfl ?_
  have srX:SlI (inC (zF 0 h9)) v us:=(s9'.own).sl
  refine goU ?_
  refine WO.sp (fun hd=> ?_) (fun hd=> ?_)<;>simp only[DB]at hd<;>refine goU ?_
  ·refine WO.con (yM _ (atI us (c - 1)) (atI us p2)) ?_
   rintro _ _ ⟨rfl,rfl⟩
   refine WO.nil ?_
   refine yC ?_
   refine goU ?_
   exact zD ⟨rfl,by rw[show decide (0<c∧¬(atI us (c - 1)<atI us p2))= !decide (atI us (c - 1)<atI us p2) from dec_neg hd];exact sl_⟩
  ·exact zD ⟨rfl,by rw[show decide (0<c∧¬(atI us (c - 1)<atI us p2))=false from decide_eq_false (fun hh=>absurd hh.1 (by omega))];exact sl_⟩
 rintro t10 _ hs10 ⟨rfl,q10⟩
 refine go ?_
 refine WX.br (fun hz=> ?_) (fun hz=> ?_)<;>simp only[DB]at hz<;>refine go ?_
 ·refine WO.con (partEqual_ok hB h9 v us c d p2 s9'.ext hmB s9'.own (by omega) (by omega) (by omega) (by omega)) ?_
  rintro _ h11 ⟨zs,m,rfl,s11,hm,lo,hi⟩
  have sw:=s9'.call s11 (Int.le_refl _) (Int.le_refl _)
  obtain⟨eA,eB,eL,eH⟩:=env.out zs sw.pi
  have lz:=low7.out zs sw.pi hz.1
  have hP:atI us p2≤atI zs (c - 1):=by
   rw[s11.pi.out (c - 1) (by omega) (.inl (by omega))];omega
  refine go ?_
  refine zC (zs,m,d,l2,wb,wp) (by simp only;omega) ⟨s4.call sw hcd.1 hcd.2.2,sl_,sl_,sl_,sl_,sl_,by simp only;omega,hl2,fun p q h1 h2 h3=> ?_,eB,fun p q h1 h2 h3 h4=> ?_,eH,fun h1 k h2 h3=> ?_⟩
  ·simp only at h3 ⊢
   by_cases hq:q<c
   ·exact eA p q h1 h2 hq
   by_cases hp:p<c
   ·exact eL p q h1 hp (by omega) (by omega)
   ·have x1:=lo p (by omega) (by omega);have x2:=lz q (by omega) (by omega);omega
  ·simp only at h2 h3 ⊢
   by_cases hp:p<c
   ·exact eL p q h1 hp (by omega) h4
   by_cases hq:d≤q
   ·exact eH p q h1 (by omega) hq h4
   ·have x1:=lo p (by omega) (by omega);have x2:=hi q (by omega) (by omega);omega
  ·simp only at h1 h2 h3 ⊢
   have x1:=lo (m - 1) (by omega) (by omega);have x2:=hi k (by omega) (by omega);omega
 ·refine WO.con (partition_ok hB h9 v us c d p2 s9'.ext hmB s9'.own (by omega) (by omega) (by omega) (by omega)) ?_
  rintro _ h11 ⟨zs,m,w,rfl,s11,hm,lo,hi⟩
  have sw:=s9'.call s11 (Int.le_refl _) (Int.le_refl _)
  have hlw:=sw.len
  refine go ?_
  refine WO.quo (a:=d - c) (c:=8) (by decide) (by rw[Int.tdiv_eq_ediv_of_nonneg (by omega)];omega) (by rw[Int.tdiv_eq_ediv_of_nonneg (by omega)];omega) ?_
  refine go ?_
  refine WX.br (fun hy2=> ?_) (fun hy2=> ?_)<;>simp only[DB]at hy2<;>refine go ?_
  ·refine WO.con (IH.out (m - c).toNat (by omega) hB h11 v zs c m l2 sw.ext hmB sw.own (by omega) (by omega) (by omega) (by omega) (by omega) hl2 (fun h1 k h2 h3=>low7.out zs sw.pi h1 k h2 (by omega))) ?_
   rintro _ h12 ⟨vs,s12,r12⟩
   have st:=sw.call s12 (Int.le_refl _) (by omega)
   obtain⟨eA,eB,eL,eH⟩:=env.out vs st.pi
   have same:∀ k,m≤k→atI vs k=atI zs k:=fun k hk=>s12.pi.out k (by omega) (.inr hk)
   have left:∀ k,c≤k→k<m→atI vs k≤atI zs m:=s12.pi.all (p:=fun x=>x≤atI zs m) (by omega) (by omega) (fun k h1 h2=>lo k h1 h2)
   refine go ?_
   refine zC (vs,m+1,d,l2,decide ((d - c).tdiv 8≤m - c),w) (by simp only;omega) ⟨s4.call st hcd.1 hcd.2.2,sl_,sl_,sl_,sl_,sl_,by simp only;omega,hl2,fun p q h1 h2 h3=> ?_,eB,fun p q h1 h2 h3 h4=> ?_,eH,fun h1 k h2 h3=> ?_⟩
   ·simp only at h3 ⊢
    by_cases hq:q<c
    ·exact eA p q h1 h2 hq
    by_cases hp:p<c
    ·exact eL p q h1 hp (by omega) (by omega)
    by_cases hqm:q=m
    ·by_cases hpm:p=m
     ·rw[hqm,hpm];exact Int.le_refl _
     ·rw[hqm,same m (Int.le_refl _)];exact left p (by omega) (by omega)
    ·exact r12 p q (by omega) h2 (by omega)
   ·simp only at h2 h3 ⊢
    by_cases hp:p<c
    ·exact eL p q h1 hp (by omega) h4
    by_cases hq:d≤q
    ·exact eH p q h1 (by omega) hq h4
    ·rw[same q (by omega)]
     have x2:=hi q (by omega) (by omega)
     by_cases hpm:p=m
     ·rw[hpm,same m (Int.le_refl _)];exact x2
     ·have x1:=left p (by omega) (by omega);omega
   ·simp only at h1 h2 h3 ⊢
    rw[show m+1 - 1=m by omega,same m (Int.le_refl _),same k (by omega)]
    exact hi k (by omega) h3
  ·refine WO.con (IH.out (d - (m+1)).toNat (by omega) hB h11 v zs (m+1) d l2 sw.ext hmB sw.own (by omega) (by omega) (by omega) (by omega) (by omega) hl2 (fun h1 k h2 h3=>by rw[show m+1 - 1=m by omega];exact hi k (by omega) h3)) ?_
   rintro _ h12 ⟨vs,s12,r12⟩
   have st:=sw.call s12 (by omega) (Int.le_refl _)
   obtain⟨eA,eB,eL,eH⟩:=env.out vs st.pi
   have same:∀ k,0≤k→k≤m→atI vs k=atI zs k:=fun k h0 hk=>s12.pi.out k h0 (.inl (by omega))
   have right:∀ k,m+1≤k→k<d→atI zs m≤atI vs k:=s12.pi.all (p:=fun x=>atI zs m≤x) (by omega) (by omega) (fun k h1 h2=>hi k (by omega) h2)
   refine go ?_
   refine zC (vs,c,m,l2,decide ((d - c).tdiv 8≤d - m),w) (by simp only;omega) ⟨s4.call st hcd.1 hcd.2.2,sl_,sl_,sl_,sl_,sl_,by simp only;omega,hl2,eA,fun p q h1 h2 h3=> ?_,eL,fun p q h1 h2 h3 h4=> ?_,fun h1 k h2 h3=> ?_⟩
   ·simp only at h1 ⊢
    by_cases hp:d≤p
    ·exact eB p q hp h2 h3
    by_cases hq:d≤q
    ·exact eH p q (by omega) (by omega) hq h3
    by_cases hpm:p=m
    ·by_cases hqm:q=m
     ·rw[hqm,hpm];exact Int.le_refl _
     ·rw[hpm,same m (by omega) (Int.le_refl _)];exact right q (by omega) (by omega)
    ·exact r12 p q (by omega) h2 (by omega)
   ·simp only at h2 h3 ⊢
    by_cases hp:p<c
    ·exact eL p q h1 hp (by omega) h4
    by_cases hq:d≤q
    ·exact eH p q h1 (by omega) hq h4
    ·have x1:=lo p (by omega) h2
     rw[same p (by omega) (by omega)]
     by_cases hqm:q=m
     ·rw[hqm,same m (by omega) (Int.le_refl _)];exact x1
     ·have x2:=right q (by omega) (by omega);omega
   ·simp only at h1 h2 h3 ⊢
    exact low7.out vs st.pi h1 k h2 (by omega)
theorem insertion_nil (h:AHeap):WC Tryd.prog tb 49 [.slice none 0 0,I 0,I 0] h fun r h'=>h=h':=by
 refine WC.of (zY 49) tab49 ?_;simp only[mkTm,Nat.zero_add,Nat.reduceAdd]
 refine go ?_
 refine WX.loopA [10,11,12,15,7,16,17,18,19,20,21,22,23,24,25,26,27,28,29,30,33,34,35,36,37,38,39,40,41,42,43,44,45,46,47,48,31,32,7,13,14,6] (by kernel_rfl) (fun _=>0) (fun (_:Unit) t h1=>h=h1∧zA t 6=I 1) () ?_ ?_
 ·exact⟨rfl,sl_⟩
 rintro _ t _ hsame ⟨rfl,s6⟩
 refine go ?_
 refine rtN ?_
 rfl
theorem pdq_nil (h:AHeap) (k:Int):WC Tryd.prog tb 47 [.slice none 0 0,I 0,I 0,I k] h fun r h'=>h=h':=by
 refine WC.of (zY 47) tab47 ?_;simp only[mkTm,Nat.zero_add,Nat.reduceAdd]
 refine go ?_
 refine WX.loopA [19,20,21,10,22,23,24,25,26,27,28,29,30,31,32,33,34,35,36,37,38,39,40,41,3,43,44,45,46,42,47,48,11,12,49,50,51,52,53,54,55,56,57,58,59,60,11,12,61,62,63,64,65,66,67,68,69,70,71,72,73,74,75,76,77,78,79,80,81,82,83,84,85,86,87,88,89,90,91,92,13,93,1,95,96,97,98,99,94,100,101,14,15,102,9,103,104,105,106,107,108,16,17,109,110,18,111,112,113,114,115,116,8,117,118,119,120,121,122,123,1,124,125,126,8,127,128,129,130,131,132,133,2] (by kernel_rfl) (fun _=>0) (fun (_:Unit) t h1=>h=h1∧zA t 1=I 0∧zA t 2=I 0) () ?_ ?_
 ·exact⟨rfl,sl_,sl_⟩
 rintro _ t _ hsame ⟨rfl,s1,s2⟩
 refine go ?_
 refine WO.con (insertion_nil h) ?_
 rintro _ _ rfl
 refine go ?_
 refine rt ?_
 rfl
def sortL (xs:List Int):List Int:=xs.mergeSort (fun a b=>decide (a≤b))
noncomputable def body40:ACode:=(.seq (.region [⟨some 3,none,(.mov (.tmp 0))⟩,⟨some 4,none,(.len (.tmp 3))⟩,⟨some 2,none,(.mov (.tmp 4))⟩]) (.region [⟨some 5,none,(.mov (.tmp 0))⟩,⟨some 6,none,(.mov (.tmp 2))⟩,⟨some 7,none,(.mov (.tmp 2))⟩,⟨some 8,none,(.conv .u64 (.tmp 7))⟩,⟨some 9,none,(.call (.func 48) [(.tmp 8)])⟩,⟨some 10,none,(.call (.func 47) [(.tmp 5),(.const (.int .i64 0)),(.tmp 6),(.tmp 9)])⟩]))
set_option maxRecDepth 100000 in
theorem tab40:tb.code 40=some ⟨11,[],body40⟩:=by kernel_rfl
theorem sort_ok (hB h:AHeap) (v:Value) (xs:List Int) (e0:Ext hB h) (hmB:hB.mark≤hB.n) (o:OwnN hB h v xs) (hlen:xs.length≤1000000000):
  WC Tryd.prog tb 40 [v] h fun r h'=>OwnN hB h' v (sortL xs)∧Ext hB h'∧Upd v h h':=by
 have s:SlI h v xs:=o.sl
 refine WC.of (zY 40) tab40 ?_;simp only[mkTm,Nat.zero_add,Nat.reduceAdd]
 refine go ?_
 rw[wrapU64 (by omega) (by omega)]
 refine WO.con (len_ok h xs.length (by omega) (by omega)) ?_
 rintro _ _ ⟨⟨k,rfl,hk,hk2⟩,rfl⟩
 refine go ?_
 rcases o with ⟨rfl,rfl⟩|o
 ·rw[show ((([]:List Int).length:Nat):Int)=0 from rfl]
  refine WO.con (pdq_nil h k) ?_
  rintro _ _ rfl
  refine go ?_
  refine rtN ?_
  exact⟨.inl ⟨rfl,by simp[sortL]⟩,e0,Upd.refl _ _⟩
 refine WO.con (pdq_ok xs.length hB h v xs 0 xs.length k e0 hmB o (by omega) (by omega) (by omega) (by omega) hlen (by omega) (fun h=>by omega)) ?_
 rintro _ h2 ⟨ys,s2,r2⟩
 refine go ?_
 refine rtN ?_
 have:ys=sortL xs:=srt_unique s2.pi.perm (by rw[s2.len];exact r2)
 exact⟨.inr (this▸s2.own),s2.ext,s2.upd⟩
end Go.Proofs.YtejjibilgmlhdaaDoor
namespace Go.Proofs.YtejjibilgmlhdaaDoor
open Go.Am
set_option linter.unusedVariables false
set_option linter.unusedSimpArgs false
set_option maxHeartbeats 1000000
def RW (h:AHeap) (cs:List Value) (w:LWd):Prop:=cs=[I w.pos,W w.bits]∧w.bits<18446744073709551616∧ -9223372036854775808≤w.pos∧w.pos≤9223372036854775807
abbrev SlW (h:AHeap) (v:Value) (s:List LWd):Prop:=SlR 2 RW h v s
theorem SlW.ext {h h' v s} (k:SlW h v s) (e:Ext h h'):SlW h' v s:=SlR.ext (h:=h) (h':=h') (R:=RW) (fun cs a r=>r) k e
theorem SlW.bd {h v s} (k:SlW h v s):BdW s:=fun w hw=>by
 obtain⟨i,hi,e⟩:=List.mem_iff_getElem.1 hw
 obtain⟨cs,⟨_,h2,_⟩,_⟩:=k.at hi
 rw[←e];exact h2
noncomputable def body29:ACode:=(.seq (.region [⟨some 2,none,(.mov (.const (.bool false)))⟩]) (.seq (.region [⟨some 3,none,(.mov (.tmp 0))⟩,⟨some 4,none,(.bin .geq (.tmp 3) (.const (.int .i64 0)))⟩,⟨some 5,none,(.mov (.tmp 4))⟩,⟨some 6,some (5,true),(.mov (.tmp 0))⟩,⟨some 7,some (5,true),(.bin .lss (.tmp 6) (.const (.int .i64 1048576)))⟩,⟨some 8,none,(.pick (.tmp 5) (.tmp 7) (.const (.bool false)))⟩,⟨some 2,none,(.mov (.tmp 8))⟩]) .ret))
set_option maxRecDepth 100000 in
theorem tab29:tb.code 29=some ⟨9,[(2,none)],body29⟩:=by kernel_rfl
theorem within_ok (h:AHeap) (n:Int):WC Tryd.prog tb 29 [I n] h fun r h'=>r= .bool (decide (0≤n)&&decide (n<1048576))∧h=h':=by
 refine WC.of (zY 29) tab29 ?_;simp only[mkTm,Nat.zero_add,Nat.reduceAdd]
 refine go ?_
 refine go ?_
 repeat' (first|(refine WX.br (fun hb=> ?_) (fun hb=> ?_)<;>(try simp only[DB]at hb)<;>refine go ?_)|(refine WO.sp (fun hb=> ?_) (fun hb=> ?_)<;>(try simp only[DB]at hb)<;>refine go ?_))<;>refine rt ?_<;>exact⟨by simp[one, *]<;>omega,rfl⟩
section
variable {P:Program} {tab:Tab} {t:Trie Value} {h:AHeap} {ds:List Deferred} {rd:Option Nat} {l:List AOper} {Q:AFr→AHeap→Prop}
theorem WO.ldG {d g off:Nat} {x:Operand} {cells:List Value} {v:Value} (hg:zg h g=some cells) (hr:cells[off]?=some v) (hx:Ope t x (.pointer (some ⟨g,off,none⟩))) (k:WO P tab l ⟨t.set d v,ds,rd⟩ h Q):
  WO P tab (⟨some d,none,.load false 1 x⟩::l) ⟨t,ds,rd⟩ h Q:=by
 have hx:ev t x= .pointer (some ⟨g,off,none⟩):=hx
 have hlt:off<cells.length:=(List.getElem?_eq_some_iff.1 hr).1
 have hc:cut cells off 1=some [v]:=by
  rw[cut_ok (by omega),List.drop_eq_getElem_cons hlt,List.take_succ_cons,List.take_zero]
  have:=(List.getElem?_eq_some_iff.1 hr).2
  rw[this]
 refine WO.op v h rfl ?_ k
 simp only[aop,hx,hg,Option.isNone_none,cond_true,Option.bind_some,hc,zG,cond_false,Option.map_some]
theorem WO.unA {d:Nat} {op:UnOp} {x:Operand} {vx v:Value} (hx:Ope t x vx) (hv:unV op vx=some v) (k:WO P tab l ⟨t.set d v,ds,rd⟩ h Q):WO P tab (⟨some d,none,.un op x⟩::l) ⟨t,ds,rd⟩ h Q:=by
 have hx:ev t x=vx:=hx
 exact WO.op v h rfl (by simp only[aop,hx,hv,Option.map_some]) k
end
end Go.Proofs.YtejjibilgmlhdaaDoor
namespace Go.Proofs.YtejjibilgmlhdaaDoor
open Go.Am
set_option linter.unusedVariables false
set_option linter.unusedSimpArgs false
set_option maxHeartbeats 1000000
def TzT (h:AHeap):Prop:=zg h 0=some tzV∧0<h.n
theorem TzT.ext {h h'} (t:TzT h) (e:Ext h h'):TzT h':=⟨e.row t.2 t.1,Nat.lt_of_lt_of_le t.2 e.n⟩
noncomputable def body42:ACode:=(.seq (.region [⟨some 2,none,(.mov (.const (.int .i64 0)))⟩]) (.seq (.seq (.region [⟨some 3,none,(.mov (.tmp 0))⟩,⟨some 4,none,(.bin .eql (.tmp 3) (.const (.int .u64 0)))⟩]) (.cond (.tmp 4) (.seq (.region [⟨some 2,none,(.mov (.const (.int .i64 64)))⟩]) .ret) .skip)) (.seq (.region [⟨some 5,none,(.mov (.tmp 0))⟩,⟨some 6,none,(.mov (.tmp 0))⟩,⟨some 7,none,(.un .neg (.tmp 6))⟩,⟨some 8,none,(.bin .and (.tmp 5) (.tmp 7))⟩,⟨some 9,none,(.bin .mul (.tmp 8) (.const (.int .u64 285870213051353865)))⟩,⟨some 10,none,(.bin .shr (.tmp 9) (.const (.int .u64 58)))⟩,⟨some 11,none,(.idxArr 64 1 (.global 0) (.tmp 10))⟩,⟨some 12,none,(.load false 1 (.tmp 11))⟩,⟨some 13,none,(.conv .i64 (.tmp 12))⟩,⟨some 2,none,(.mov (.tmp 13))⟩]) .ret)))
set_option maxRecDepth 100000 in
theorem tab42:tb.code 42=some ⟨14,[(2,none)],body42⟩:=by kernel_rfl
theorem trail_ok (h:AHeap) (n k:Nat) (T:TzT h) (hn:n<18446744073709551616) (hz:n≠0) (L:Low n k):WC Tryd.prog tb 42 [W n] h fun r h'=>r=I k∧h=h':=by
 refine WC.of (zY 42) tab42 ?_;simp only[mkTm,Nat.zero_add,Nat.reduceAdd]
 have hz1:¬(n:Int)=0:=by omega
 have a1:=u_neg hz hn
 have a2:zM .and (W n) (W (18446744073709551616 - n))=some (W (2 ^ k)):=by rw[u_and hn (by omega),L.one]
 obtain⟨m,j,a3,a4,t1,t2⟩:=tz_steps L.lt
 have hv:=tzV_at t1 t2
 have hk:=L.lt
 refine go ?_
 refine WO.unA zk a1 ?_
 refine go ?_
 refine WO.bin zk zk a2 ?_
 refine go ?_
 refine WO.bin zk rfl a3 ?_
 refine go ?_
 refine WO.bin zk rfl a4 ?_
 refine go ?_
 refine WO.ldG (v:= .int .u8 (k:Int)) T.1 (off:=0+j * 1) (by rw[Nat.zero_add,Nat.mul_one];exact hv) zk ?_
 refine go ?_
 refine rt ?_
 exact⟨rfl,rfl⟩
end Go.Proofs.YtejjibilgmlhdaaDoor
namespace Go.Proofs.YtejjibilgmlhdaaDoor
open Go.Am
set_option linter.unusedVariables false
set_option linter.unusedSimpArgs false
set_option maxHeartbeats 1000000
theorem drop_cons {s:List LWd} {i:Nat} (h:i<s.length):s.drop i=s.getD i default::s.drop (i+1):=by
 rw[List.drop_eq_getElem_cons h,List.getD_eq_getElem?_getD,List.getElem?_eq_getElem h];rfl
theorem wd_at {h:AHeap} {v:Value} {s:List LWd} {i:Nat} (k:SlW h v s) (hi:i<s.length):∃ cs,RW h cs (s.getD i default)∧Piece h v (i * 2) cs∧IsSl v:=by
 obtain⟨cs,a,_,c⟩:=k.at hi
 exact⟨cs,by rw[List.getD_eq_getElem?_getD,List.getElem?_eq_getElem hi];exact a,c,k.some hi⟩
def errW (b:Bool):Int:=if b then 0 else 8
theorem checkW_bad {last:Int} {w:LWd} {l:List LWd} (h:w.pos≤last∨16384≤w.pos∨(w.bits:Int)=0):zy last (w::l)=false:=by
 unfold zy
 rcases h with h|h|h
 ·rw[decide_eq_false (show ¬last<w.pos by omega)];rfl
 ·rw[decide_eq_false (show ¬w.pos<16384 by omega),Bool.and_false];rfl
 ·rw[decide_eq_false (show ¬w.bits≠0 by omega),Bool.and_false];rfl
theorem checkW_good {last:Int} {w:LWd} {l:List LWd} (h1:last<w.pos) (h2:w.pos<16384) (h3:w.bits≠0):zy last (w::l)=zy w.pos l:=by
 rw[zy,decide_eq_true h1,decide_eq_true h2,decide_eq_true h3];rfl
noncomputable def body15_0:ACode:=(.seq (.region [⟨some 9,none,(.bin .lss (.tmp 8) (.tmp 7))⟩]) (.seq (.cond (.tmp 9) .skip (.exit 0)) (.seq (.block 1 (.seq (.region [⟨some 10,none,(.idx 2 (.tmp 6) (.tmp 8))⟩,⟨some 11,none,(.load true 2 (.tmp 10))⟩,⟨some 5,none,(.alloc [(.int .i64 0),(.int .u64 0)])⟩,⟨none,none,(.store 2 (.tmp 5) (.tmp 11))⟩]) (.seq (.seq (.region [⟨some 12,none,(.fld 0 (.tmp 5))⟩,⟨some 13,none,(.load false 1 (.tmp 12))⟩,⟨some 14,none,(.mov (.tmp 3))⟩,⟨some 15,none,(.bin .leq (.tmp 13) (.tmp 14))⟩,⟨some 16,none,(.mov (.tmp 15))⟩,⟨some 17,some (16,false),(.fld 0 (.tmp 5))⟩,⟨some 18,some (16,false),(.load false 1 (.tmp 17))⟩,⟨some 19,some (16,false),(.bin .geq (.tmp 18) (.const (.int .i64 16384)))⟩,⟨some 20,none,(.pick (.tmp 16) (.const (.bool true)) (.tmp 19))⟩,⟨some 21,none,(.mov (.tmp 20))⟩,⟨some 22,some (21,false),(.fld 1 (.tmp 5))⟩,⟨some 23,some (21,false),(.load false 1 (.tmp 22))⟩,⟨some 24,some (21,false),(.bin .eql (.tmp 23) (.const (.int .u64 0)))⟩,⟨some 25,none,(.pick (.tmp 21) (.const (.bool true)) (.tmp 24))⟩]) (.cond (.tmp 25) (.seq (.region [⟨some 2,none,(.mov (.const (.int .i64 8)))⟩]) .ret) .skip)) (.region [⟨some 26,none,(.fld 0 (.tmp 5))⟩,⟨some 27,none,(.load false 1 (.tmp 26))⟩,⟨some 3,none,(.mov (.tmp 27))⟩])))) (.region [⟨some 28,none,(.bin .add (.tmp 8) (.const (.int .i64 1)))⟩,⟨some 8,none,(.mov (.tmp 28))⟩]))))
noncomputable def body15:ACode:=(.seq (.region [⟨some 2,none,(.mov (.const (.int .i64 0)))⟩]) (.seq (.region [⟨some 3,none,(.mov (.const (.int .i64 (-1))))⟩]) (.seq (.seq (.region [⟨some 6,none,(.mov (.tmp 0))⟩,⟨some 7,none,(.len (.tmp 6))⟩,⟨some 8,none,(.mov (.const (.int .i64 0)))⟩]) (.block 0 (.loop body15_0))) (.seq (.region [⟨some 2,none,(.mov (.const (.int .i64 0)))⟩]) .ret))))
set_option maxRecDepth 100000 in
theorem tab15:tb.code 15=some ⟨29,[(2,none)],body15⟩:=by kernel_rfl
theorem check_ok (h:AHeap) (v:Value) (s:List LWd) (k:SlW h v s) (hl:(s.length:Int)≤1000000000):
  WC Tryd.prog tb 15 [v] h fun r h'=>r=I (errW (zy (-1) s))∧Ext h h':=by
 refine WC.of (zY 15) tab15 ?_;simp only[mkTm,Nat.zero_add,Nat.reduceAdd]
 refine go ?_
 refine WX.loopA [9,10,11,5,12,13,14,15,16,17,18,19,20,21,22,23,24,25,2,26,27,3,28,8] (by kernel_rfl) (fun i=>s.length - i) (fun i t h1=>Ext h h1∧zA t 8=I i∧i≤s.length∧∃ last:Int,zA t 3=I last∧Hid (zy (-1) s=zy last (s.drop i))) 0 ?_ ?_
 ·exact⟨Ext.refl _,sl_,Nat.zero_le _,-1,sl_,⟨rfl⟩⟩
 rintro i t h1 hsame ⟨e1,s8,hi,last,s3,hc⟩
 have k1:=SlW.ext k e1
 refine go ?_
 refine WX.br (fun hb=> ?_) (fun hb=> ?_)<;>simp only[DB]at hb
 ·have hi':i<s.length:=by omega
  obtain⟨cs,⟨rfl,w1,w2,w3⟩,pc,hs⟩:=wd_at k1 hi'
  have hd:=hc.out
  rw[drop_cons hi']at hd
  generalize s.getD i default=w at *
  have hd:=Hid.mk hd
  refine go ?_
  refine WO.al ?_
  intro p h2 e2 o2
  refine go ?_
  refine WO.stC0 (cs:=[I w.pos,W w.bits]) o2 e2 ?_
  intro h3 e3 o3 u3
  refine go ?_
  refine go ?_
  repeat' (first|(refine WX.br (fun hb=> ?_) (fun hb=> ?_)<;>(try simp only[DB]at hb)<;>refine go ?_)|(refine WO.sp (fun hb=> ?_) (fun hb=> ?_)<;>(try simp only[DB]at hb)<;>refine go ?_))
  ·refine rt ?_
   exact⟨by rw[hd.out,checkW_bad (.inl hb)];rfl,e1.trans e3⟩
  ·refine rt ?_
   exact⟨by rw[hd.out,checkW_bad (.inr (.inl hb))];rfl,e1.trans e3⟩
  ·refine rt ?_
   exact⟨by rw[hd.out,checkW_bad (.inr (.inr hb))];rfl,e1.trans e3⟩
  ·refine zC (i+1) (by omega) ⟨e1.trans e3,sln,by omega,w.pos,sl_,⟨?_⟩⟩
   rw[hd.out];exact checkW_good (by omega) (by omega) (by omega)
 ·refine go ?_
  refine rt ?_
  have:=hc.out
  rw[show i=s.length by omega,List.drop_length]at this
  exact⟨by rw[this];rfl,e1⟩
end Go.Proofs.YtejjibilgmlhdaaDoor
namespace Go.Proofs.YtejjibilgmlhdaaDoor
open Go.Am
set_option linter.unusedVariables false
set_option linter.unusedSimpArgs false
set_option maxHeartbeats 1000000
end Go.Proofs.YtejjibilgmlhdaaDoor
namespace Go.Proofs.YtejjibilgmlhdaaDoor
open Go.Am
set_option linter.unusedVariables false
set_option linter.unusedSimpArgs false
set_option maxHeartbeats 1000000
theorem b_quo {n:Int} (h0:0≤n) (h1:n<9223372036854775808):zM .quo (I n) (I 64)=some (I (n / 64)):=by
 simp only[zM,I,if_true];rw[if_neg (by decide),Int.tdiv_eq_ediv_of_nonneg h0,wrap64 (by omega) (by omega)]
theorem b_rem {n:Int} (h0:0≤n):zM .rem (I n) (I 64)=some (I (n % 64)):=by
 simp only[zM,I,if_true];rw[if_neg (by decide),Int.tmod_eq_emod_of_nonneg h0]
noncomputable def body31:ACode:=(.seq (.region [⟨some 2,none,(.box (.tmp 0))⟩,⟨some 4,none,(.mov (.const (.int .i64 0)))⟩]) (.seq (.region [⟨some 5,none,(.fld 0 (.tmp 2))⟩,⟨some 6,none,(.load false 1 (.tmp 5))⟩,⟨some 7,none,(.mov (.tmp 1))⟩,⟨some 8,none,(.bin .sub (.tmp 6) (.tmp 7))⟩,⟨some 4,none,(.mov (.tmp 8))⟩]) .ret))
set_option maxRecDepth 100000 in
theorem tab31:tb.code 31=some ⟨9,[(4,none)],body31⟩:=by kernel_rfl
theorem has1_ok (h:AHeap) (w:LWd) (at':Int) (hw:0≤w.pos∧w.pos<16384) (ha:0≤at'∧at'<16384):WC Tryd.prog tb 31 [.agg #[I w.pos,W w.bits],I at'] h fun r h'=>r=I (w.pos - at')∧Ext h h':=by
 refine WC.of (zY 31) tab31 ?_;simp only[mkTm,Nat.zero_add,Nat.reduceAdd]
 refine go ?_
 refine WO.bx ?_
 intro p h1 e1 o1
 refine go ?_
 refine rt ?_
 exact⟨rfl,e1⟩
noncomputable def body30_0:ACode:=(.seq (.seq (.region [⟨some 15,none,(.mov (.tmp 9))⟩,⟨some 16,none,(.mov (.tmp 10))⟩,⟨some 17,none,(.bin .lss (.tmp 15) (.tmp 16))⟩]) (.cond (.tmp 17) .skip (.exit 0))) (.block 1 (.seq (.region [⟨some 18,none,(.mov (.tmp 9))⟩,⟨some 19,none,(.mov (.tmp 10))⟩,⟨some 20,none,(.bin .add (.tmp 18) (.tmp 19))⟩,⟨some 21,none,(.conv .u64 (.tmp 20))⟩,⟨some 22,none,(.bin .shr (.tmp 21) (.const (.int .u64 1)))⟩,⟨some 23,none,(.conv .i64 (.tmp 22))⟩,⟨some 11,none,(.mov (.tmp 23))⟩]) (.seq (.region [⟨some 24,none,(.mov (.tmp 2))⟩,⟨some 25,none,(.mov (.tmp 0))⟩,⟨some 26,none,(.mov (.tmp 11))⟩,⟨some 27,none,(.idx 2 (.tmp 25) (.tmp 26))⟩,⟨some 28,none,(.load true 2 (.tmp 27))⟩,⟨some 29,none,(.mov (.tmp 1))⟩,⟨some 30,none,(.call (.tmp 24) [(.tmp 28),(.tmp 29)])⟩,⟨some 31,none,(.bin .lss (.tmp 30) (.const (.int .i64 0)))⟩]) (.cond (.tmp 31) (.region [⟨some 32,none,(.mov (.tmp 11))⟩,⟨some 33,none,(.bin .add (.tmp 32) (.const (.int .i64 1)))⟩,⟨some 9,none,(.mov (.tmp 33))⟩]) (.region [⟨some 34,none,(.mov (.tmp 11))⟩,⟨some 10,none,(.mov (.tmp 34))⟩]))))))
noncomputable def body30:ACode:=(.seq (.region [⟨some 6,none,(.mov (.const (.int .i64 0)))⟩,⟨some 7,none,(.mov (.const (.bool false)))⟩]) (.seq (.region [⟨some 12,none,(.mov (.tmp 0))⟩,⟨some 13,none,(.len (.tmp 12))⟩,⟨some 8,none,(.mov (.tmp 13))⟩]) (.seq (.region [⟨some 14,none,(.mov (.tmp 8))⟩,⟨some 9,none,(.mov (.const (.int .i64 0)))⟩,⟨some 10,none,(.mov (.tmp 14))⟩]) (.seq (.block 0 (.loop body30_0)) (.seq (.region [⟨some 35,none,(.mov (.tmp 9))⟩,⟨some 36,none,(.mov (.tmp 9))⟩,⟨some 37,none,(.mov (.tmp 8))⟩,⟨some 38,none,(.bin .lss (.tmp 36) (.tmp 37))⟩,⟨some 39,none,(.mov (.tmp 38))⟩,⟨some 40,some (39,true),(.mov (.tmp 2))⟩,⟨some 41,some (39,true),(.mov (.tmp 0))⟩,⟨some 42,some (39,true),(.mov (.tmp 9))⟩,⟨some 43,some (39,true),(.idx 2 (.tmp 41) (.tmp 42))⟩,⟨some 44,some (39,true),(.load true 2 (.tmp 43))⟩,⟨some 45,some (39,true),(.mov (.tmp 1))⟩,⟨some 46,some (39,true),(.call (.tmp 40) [(.tmp 44),(.tmp 45)])⟩,⟨some 47,some (39,true),(.bin .eql (.tmp 46) (.const (.int .i64 0)))⟩,⟨some 48,none,(.pick (.tmp 39) (.tmp 47) (.const (.bool false)))⟩,⟨some 6,none,(.mov (.tmp 35))⟩,⟨some 7,none,(.mov (.tmp 48))⟩]) .ret)))))
set_option maxRecDepth 100000 in
theorem tab30:tb.code 30=some ⟨49,[(6,none),(7,none)],body30⟩:=by kernel_rfl
theorem bsf_ok (h:AHeap) (v:Value) (s:List LWd) (at':Int) (k:SlW h v s) (ok:OkW s) (hl:(s.length:Int)≤1000000000) (ha:0≤at'∧at'<16384):
  WC Tryd.prog tb 30 [v,I at',.func (.func 31) #[] #[]] h fun r h'=>(∃ (i:Nat) (b:Bool),r= .tuple #[I i,.bool b]∧(b=true→i<s.length∧(s.getD i default).pos=at')∧(b=false→∀ w∈s,w.pos≠at'))∧Ext h h':=by
 refine WC.of (zY 30) tab30 ?_;simp only[mkTm,Nat.zero_add,Nat.reduceAdd]
 have hmem:∀ {i:Nat},i<s.length→s.getD i default∈s:=fun hi=>by
  rw[List.getD_eq_getElem?_getD,List.getElem?_eq_getElem hi];exact List.getElem_mem hi
 have hr:∀ {i j:Nat},i<j→j<s.length→(s.getD i default).pos<(s.getD j default).pos:=fun hij hj=>by
  rw[List.getD_eq_getElem?_getD,List.getD_eq_getElem?_getD,List.getElem?_eq_getElem hj,List.getElem?_eq_getElem (Nat.lt_trans hij hj)]
  exact List.pairwise_iff_getElem.1 ok.rise _ _ _ _ hij
 refine go ?_
 refine WX.loopA [15,16,17,18,19,20,21,22,23,11,24,25,26,27,28,29,30,31,32,33,9,34,10] (by kernel_rfl) (fun p:Nat×Nat=>p.2 - p.1) (fun p t h1=>Ext h h1∧zA t 9=I p.1∧zA t 10=I p.2∧p.1≤p.2∧p.2≤s.length∧Hid ((∀ i,i<p.1→(s.getD i default).pos<at')∧(∀ i,p.2≤i→i<s.length→at'≤(s.getD i default).pos))) (0,s.length) ?_ ?_
 ·exact⟨Ext.refl _,sl_,sl_,Nat.zero_le _,Nat.le_refl _,⟨fun i hi=>absurd hi (Nat.not_lt_zero _),fun i h1 h2=>absurd h2 (Nat.not_lt.2 h1)⟩⟩
 rintro⟨a,b⟩ t h1 hsame ⟨e1,s9,s10,hab,hbl,hI⟩
 simp only at s9 s10 hab hbl hI
 have k1:=SlW.ext k e1
 refine go ?_
 refine WX.br (fun hc=> ?_) (fun hc=> ?_)<;>simp only[DB]at hc
 ·have hsh:zM .shr (.int .u64 (IntKind.wrap .u64 ((a:Int)+b))) (.int .u64 1)=some (W ((a+b) / 2)):=by
   rw[wrapMod,show ((a:Int)+b) % 18446744073709551616=((a+b:Nat):Int) by omega]
   exact u_shrW (a:=a+b) (k:=1) (by decide)
  have hm:(a+b) / 2<s.length:=by omega
  have hm1:a≤(a+b) / 2:=by omega
  have hm2:(a+b) / 2<b:=by omega
  obtain⟨cs,⟨rfl,w1,w2,w3⟩,pc,hs⟩:=wd_at k1 hm
  refine go ?_
  refine WO.bin zk rfl hsh ?_
  clear hsh
  generalize hmm:(a+b) / 2=m at hm hm1 hm2 pc w1 w2 w3 ⊢
  have hp:=ok.each _ (hmem hm)
  refine go ?_
  refine WO.conV (WV.func (has1_ok h1 (s.getD m default) at' ⟨hp.1,hp.2.1⟩ ha)) ?_
  rintro _ h2 ⟨rfl,e2⟩
  refine go ?_
  repeat' (first|(refine WX.br (fun hb=> ?_) (fun hb=> ?_)<;>(try simp only[DB]at hb)<;>refine go ?_)|(refine WO.sp (fun hb=> ?_) (fun hb=> ?_)<;>(try simp only[DB]at hb)<;>refine go ?_))
  ·refine zC (m+1,b) (by simp only;omega) ⟨e1.trans e2,sln,sl_,hm2,hbl,⟨fun i hi=> ?_,hI.out.2⟩⟩
   by_cases e:i=m
   ·subst e;omega
   ·have:=hr (i:=i) (j:=m) (by simp only at hi;omega) hm;omega
  ·refine zC (a,m) (by simp only;omega) ⟨e1.trans e2,sl_,sl_,hm1,by simp only;omega,⟨hI.out.1,fun i h1 h2=> ?_⟩⟩
   by_cases e:i=m
   ·subst e;omega
   ·have:=hr (i:=m) (j:=i) (by simp only at h1;omega) h2;omega
 ·have hab2:a=b:=by omega
  subst hab2
  refine go ?_
  by_cases hlt:a<s.length
  ·obtain⟨cs,⟨rfl,w1,w2,w3⟩,pc,hs⟩:=wd_at k1 hlt
   have hp:=ok.each _ (hmem hlt)
   refine go ?_
   refine WO.conV (WV.func (has1_ok h1 (s.getD a default) at' ⟨hp.1,hp.2.1⟩ ha)) ?_
   rintro _ h2 ⟨rfl,e2⟩
   refine go ?_
   refine rt ?_
   refine⟨⟨a,_,rfl,fun hd=>⟨hlt,?_⟩,fun hd w hw e=> ?_⟩,e1.trans e2⟩
   ·have:=of_decide_eq_true hd;omega
   ·have:=of_decide_eq_false hd
    obtain⟨i,hi,e2⟩:=List.getElem_of_mem hw
    have e3:s.getD i default=w:=by rw[List.getD_eq_getElem?_getD,List.getElem?_eq_getElem hi];exact e2
    by_cases h1:i<a
    ·have:=hI.out.1 i h1;rw[e3]at this;omega
    ·by_cases h2:i=a
     ·subst h2;rw[e3]at this;omega
     ·have h3:=hr (i:=a) (j:=i) (by omega) hi
      have h4:=hI.out.2 a (Nat.le_refl _) hlt
      rw[e3]at h3;omega
  ·refine go ?_
   refine rt ?_
   refine⟨⟨a,false,rfl,(fun hd=>by cases hd),fun hd w hw e=> ?_⟩,e1⟩
   obtain⟨i,hi,e2⟩:=List.getElem_of_mem hw
   have e3:s.getD i default=w:=by rw[List.getD_eq_getElem?_getD,List.getElem?_eq_getElem hi];exact e2
   have:=hI.out.1 i (by omega);rw[e3]at this;omega
theorem has_word {s:List LWd} {i:Nat} {n:Int} (ok:OkW s) (hi:i<s.length) (hp:(s.getD i default).pos=n / 64):inB s n=(s.getD i default).bits.testBit (n % 64).toNat:=by
 have hm:s.getD i default∈s:=by rw[List.getD_eq_getElem?_getD,List.getElem?_eq_getElem hi];exact List.getElem_mem hi
 cases hb:(s.getD i default).bits.testBit (n % 64).toNat with
 |true=>exact inB_iff.2 ⟨_,hm,hp,hb⟩
 |false=>
  refine inB_false fun ⟨w,hw,e,hb2⟩=> ?_
  have:w=s.getD i default:=by
   obtain⟨j,hj,ej⟩:=List.getElem_of_mem hw
   by_cases h1:j=i
   ·subst h1;rw[←ej,List.getD_eq_getElem?_getD,List.getElem?_eq_getElem hj];rfl
   ·exfalso
    rw[List.getD_eq_getElem?_getD,List.getElem?_eq_getElem hi]at hp
    have hp:s[i].pos=n / 64:=hp
    rcases Nat.lt_or_gt_of_ne h1 with h|h
    ·have:=List.pairwise_iff_getElem.1 ok.rise _ _ hj hi h;rw[ej]at this;omega
    ·have:=List.pairwise_iff_getElem.1 ok.rise _ _ hi hj h;rw[ej]at this;omega
  rw[this,hb]at hb2;cases hb2
def hasE (s:List LWd) (n:Int):Int:=if zy (-1) s=true then (if 0≤n∧n<1048576 then 0 else 2) else 8
def hasB (s:List LWd) (n:Int):Bool:=zy (-1) s&&decide (0≤n∧n<1048576)&&inB s n
noncomputable def body10:ACode:=(.seq (.region [⟨some 4,none,(.mov (.const (.bool false)))⟩,⟨some 5,none,(.mov (.const (.int .i64 0)))⟩]) (.seq (.seq (.region [⟨some 9,none,(.mov (.tmp 0))⟩,⟨some 10,none,(.call (.func 15) [(.tmp 9)])⟩,⟨some 6,none,(.mov (.tmp 10))⟩]) (.seq (.region [⟨some 11,none,(.mov (.tmp 6))⟩,⟨some 12,none,(.bin .neq (.tmp 11) (.const (.int .i64 0)))⟩]) (.cond (.tmp 12) (.seq (.region [⟨some 13,none,(.mov (.tmp 6))⟩,⟨some 4,none,(.mov (.const (.bool false)))⟩,⟨some 5,none,(.mov (.tmp 13))⟩]) .ret) .skip))) (.seq (.seq (.region [⟨some 14,none,(.mov (.tmp 1))⟩,⟨some 15,none,(.call (.func 29) [(.tmp 14)])⟩,⟨some 16,none,(.un .not (.tmp 15))⟩]) (.cond (.tmp 16) (.seq (.region [⟨some 4,none,(.mov (.const (.bool false)))⟩,⟨some 5,none,(.mov (.const (.int .i64 2)))⟩]) .ret) .skip)) (.seq (.region [⟨some 18,none,(.mov (.tmp 0))⟩,⟨some 19,none,(.mov (.tmp 1))⟩,⟨some 20,none,(.bin .quo (.tmp 19) (.const (.int .i64 64)))⟩,⟨some 21,none,(.call (.func 30) [(.tmp 18),(.tmp 20),(.func 31)])⟩,⟨some 17,none,(.mov (.tmp 21))⟩,⟨some 22,none,(.extract (.tmp 17) 0)⟩,⟨some 23,none,(.extract (.tmp 17) 1)⟩,⟨some 7,none,(.mov (.tmp 22))⟩,⟨some 8,none,(.mov (.tmp 23))⟩]) (.seq (.region [⟨some 24,none,(.mov (.tmp 8))⟩,⟨some 25,none,(.mov (.tmp 24))⟩,⟨some 26,some (25,true),(.mov (.tmp 0))⟩,⟨some 27,some (25,true),(.mov (.tmp 7))⟩,⟨some 28,some (25,true),(.idx 2 (.tmp 26) (.tmp 27))⟩,⟨some 29,some (25,true),(.fld 1 (.tmp 28))⟩,⟨some 30,some (25,true),(.load false 1 (.tmp 29))⟩,⟨some 31,some (25,true),(.mov (.tmp 1))⟩,⟨some 32,some (25,true),(.bin .rem (.tmp 31) (.const (.int .i64 64)))⟩,⟨some 33,some (25,true),(.bin .shr (.tmp 30) (.tmp 32))⟩,⟨some 34,some (25,true),(.bin .and (.tmp 33) (.const (.int .u64 1)))⟩,⟨some 35,some (25,true),(.bin .eql (.tmp 34) (.const (.int .u64 1)))⟩,⟨some 36,none,(.pick (.tmp 25) (.tmp 35) (.const (.bool false)))⟩,⟨some 4,none,(.mov (.tmp 36))⟩,⟨some 5,none,(.mov (.const (.int .i64 0)))⟩]) .ret)))))
set_option maxRecDepth 100000 in
theorem tab10:tb.code 10=some ⟨37,[(4,none),(5,none)],body10⟩:=by kernel_rfl
theorem has_ok (h:AHeap) (v:Value) (s:List LWd) (n:Int) (k:SlW h v s) (hl:(s.length:Int)≤1000000000):
  WC Tryd.prog tb 10 [v,I n] h fun r h'=>r= .tuple #[.bool (hasB s n),I (hasE s n)]∧Ext h h':=by
 refine WC.of (zY 10) tab10 ?_;simp only[mkTm,Nat.zero_add,Nat.reduceAdd]
 refine go ?_
 refine WO.con (check_ok h v s k hl) ?_
 rintro _ h1 ⟨rfl,e1⟩
 have k1:=SlW.ext k e1
 unfold hasB hasE
 by_cases hc:zy (-1) s=true
 case neg=>
  have hc:zy (-1) s=false:=by simpa using hc
  rw[hc,show errW false=8 from rfl]
  refine go ?_
  refine rt ?_
  exact⟨rfl,e1⟩
 have ok:=(okW_iff k.bd).1 hc
 rw[hc,show errW true=0 from rfl]
 refine go ?_
 refine WO.con (within_ok h1 n) ?_
 rintro _ _ ⟨rfl,rfl⟩
 by_cases hn:0≤n∧n<1048576
 case neg=>
  have hw:(decide (0≤n)&&decide (n<1048576))=false:=by simpa using hn
  rw[hw]
  refine go ?_
  refine rt ?_
  exact⟨by rw[if_pos rfl,if_neg hn,decide_eq_false hn];rfl,e1⟩
 have hw:(decide (0≤n)&&decide (n<1048576))=true:=by simpa using hn
 rw[hw,decide_eq_true hn]
 refine go ?_
 refine WO.bin zk rfl (b_quo hn.1 (by omega)) ?_
 refine go ?_
 refine WO.con (bsf_ok h1 v s (n / 64) k1 ok hl (by omega)) ?_
 rintro _ h2 ⟨⟨i,b,rfl,hT,hF⟩,e2⟩
 have k2:=SlW.ext k1 e2
 cases b with
 |false=>
  refine go ?_
  refine rt ?_
  refine⟨?_,e1.trans e2⟩
  rw[inB_false fun ⟨w,hw,e,_⟩=>hF rfl w hw e,if_pos rfl,if_pos hn];rfl
 |true=>
  obtain⟨hi,hp⟩:=hT rfl
  rw[has_word ok hi hp]
  obtain⟨cs,⟨rfl,w1,w2,w3⟩,pc,hs⟩:=wd_at k2 hi
  generalize s.getD i default=w at *
  refine go ?_
  refine WO.bin zk rfl (b_rem hn.1) ?_
  have hsh:zM .shr (W w.bits) (I (n % 64))=some (W (w.bits / 2 ^ (n % 64).toNat)):=by
   rw[show n % 64=((n % 64).toNat:Int) by omega];exact u_shr (by omega)
  refine go ?_
  refine WO.bin zk zk hsh ?_
  have han:zM .and (W (w.bits / 2 ^ (n % 64).toNat)) (W 1)=some (W (w.bits / 2 ^ (n % 64).toNat % 2)):=by
   rw[u_and (Nat.lt_of_le_of_lt (Nat.div_le_self _ _) w1) (by decide),Nat.and_one_is_mod]
  refine go ?_
  refine WO.bin zk rfl han ?_
  refine go ?_
  refine rt ?_
  refine⟨?_,e1.trans e2⟩
  rw[if_pos rfl,if_pos hn,Nat.testBit_eq_decide_div_mod_eq]
  have:decide (((w.bits / 2 ^ (n % 64).toNat % 2:Nat):Int)=1)=decide (w.bits / 2 ^ (n % 64).toNat % 2=1):=by
   congr 1;exact propext ⟨fun h=>by omega,fun h=>by omega⟩
  rw[this];rfl
theorem numsL_cons (w:LWd) (s:List LWd):(zq (w::s)).length=(bitsL w.bits).length+(zq s).length:=by
 unfold zq;simp
theorem bitsL_le (b:Nat):(bitsL b).length≤64:=by
 have:=List.length_filter_le b.testBit (List.range 64)
 rw[List.length_range]at this;exact this
end Go.Proofs.YtejjibilgmlhdaaDoor
namespace Go.Proofs.YtejjibilgmlhdaaDoor
open Go.Am
set_option linter.unusedVariables false
set_option linter.unusedSimpArgs false
set_option maxHeartbeats 1000000
abbrev OwnW (b:Nat) (h:AHeap) (v:Value) (s:List LWd):Prop:=OwnR 2 RW b h v s
theorem RW.dep {h:AHeap} {w:LWd} (h1:w.bits<18446744073709551616) (h2: -9223372036854775808≤w.pos) (h3:w.pos≤9223372036854775807) (D:Nat→Prop):Dep RW h [I w.pos,W w.bits] w D:=
 fun _ _ _=>⟨rfl,h1,h2,h3⟩
structure PutS (hB h:AHeap) (b:Nat) (p5 p6 fv:Value) (out:List LWd):Prop where
 e:Ext hB h
 o5:OwnC hB h p5 [fv]
 bb:hB.n≤b∧b≤h.n
 p5b:∀ g,p5= .pointer (some ⟨g,0,none⟩)→g<b
 p6b:∀ g,p6= .pointer (some ⟨g,0,none⟩)→g<b
 ne:p5≠p6
 v:∃ v,OwnC hB h p6 [v]∧OwnW b h v out
theorem ownR_shape {α:Type} {c b:Nat} {R:AHeap→List Value→α→Prop} {h:AHeap} {v:Value} {xs:List α} (ow:OwnR c R b h v xs):∃ a n k,v= .slice a n k∧∀ g,a=some ⟨g,0,none⟩→b≤g∧g<h.n:=by
 rcases ow with ⟨rfl,_⟩|⟨g,_,_,g1,g2,rfl,_⟩
 ·exact⟨_,_,_,rfl,fun g e=>by cases e⟩
 ·exact⟨_,_,_,rfl,fun g' e=>by cases e;exact⟨g1,g2⟩⟩
theorem PutS.enter {hB h X:AHeap} {b:Nat} {p5 p6 fv:Value} {out:List LWd} (S:PutS hB h b p5 p6 fv out) (e:Ext (inC (zF 0 h)) X):PutS {hB with mark:=X.n,wr:=[]} (inC X) b p5 p6 fv out:=by
 obtain⟨e0,o5,⟨b1,b2⟩,h5,h6,hne,v,o6,ow⟩:=S
 have o5:OwnC hB X p5 [fv]:=OwnC.ext (h:=inC (zF 0 h)) o5 e
 have o6:OwnC hB X p6 [v]:=OwnC.ext (h:=inC (zF 0 h)) o6 e
 have ow:OwnW b X v out:=OwnR.upd ow (fun k _ hk=>e.get k hk) e.n
 have hn:h.n≤X.n:=e.n
 refine⟨⟨Nat.le_trans e0.n hn,fun g hg=>(e.get g (Nat.lt_of_lt_of_le hg e0.n)).trans (e0.get g hg),fun w=>e.wf (e0.wf w),rfl,fun _=>rfl⟩,o5,⟨b1,Nat.le_trans b2 hn⟩,h5,h6,hne,v,o6,OwnR.upd ow (fun _ _ _=>rfl) (Nat.le_refl _)⟩
theorem PutS.leave {hB h h':AHeap} {b m:Nat} {p5 p6 fv:Value} {out:List LWd} (S:PutS {hB with mark:=m,wr:=[]} h' b p5 p6 fv out) (e:Ext hB h):PutS hB (outC h h') b p5 p6 fv out:=by
 obtain⟨e0,o5,⟨b1,b2⟩,h5,h6,hne,v,o6,ow⟩:=S
 exact⟨⟨e0.n,e0.get,fun w=>e0.wf w,e.mark,fun hm=>e.wr hm⟩,o5,⟨b1,b2⟩,h5,h6,hne,v,o6,OwnR.upd ow (fun _ _ _=>rfl) (Nat.le_refl _)⟩
theorem PutS.ext {hB h h':AHeap} {b:Nat} {p5 p6 fv:Value} {out:List LWd} (S:PutS hB h b p5 p6 fv out) (e:Ext h h'):PutS hB h' b p5 p6 fv out:=by
 obtain⟨e0,o5,⟨b1,b2⟩,h5,h6,hne,v,o6,ow⟩:=S
 exact⟨e0.trans e,o5.ext e,⟨b1,Nat.le_trans b2 e.n⟩,h5,h6,hne,v,o6.ext e,OwnR.ext ow e⟩
end Go.Proofs.YtejjibilgmlhdaaDoor
namespace Go.Proofs.YtejjibilgmlhdaaDoor
open Go.Am
set_option linter.unusedVariables false
set_option linter.unusedSimpArgs false
set_option maxHeartbeats 1000000
def MineW (h h':AHeap) (v:Value) (s:List LWd):Prop:=∃ b,h.n≤b∧OwnW b h' v s
theorem MineW.sl {h h' v s} (m:MineW h h' v s):SlW h' v s:=let ⟨_,_,o⟩:=m;OwnR.sl o
theorem MineW.ext {h h1 h2 v s} (m:MineW h h1 v s) (e:Ext h1 h2):MineW h h2 v s:=let ⟨b,hb,o⟩:=m;⟨b,hb,OwnR.ext o e⟩
theorem MineW.nil {h h':AHeap}:MineW h h' (.slice none 0 0) []:=⟨h.n,Nat.le_refl _,OwnR.nil⟩
section
variable {P:Program} {tab:Tab} {t:Trie Value} {h:AHeap} {ds:List Deferred} {rd:Option Nat} {l:List AOper} {Q:AFr→AHeap→Prop}
theorem WO.max2 {d:Nat} {x y:Operand} {a b r:Int} (hr:r=if a<b then b else a) (k:WO P tab l ⟨t.set d (I r),ds,rd⟩ h Q) (hx:Ope t x (I a):=by exact zk) (hy:Ope t y (I b):=by exact zk):WO P tab (⟨some d,none,.maxmin true [x,y]⟩::l) ⟨t,ds,rd⟩ h Q:=by
 have hx:ev t x=I a:=hx
 have hy:ev t y=I b:=hy
 refine WO.op (I r) h rfl ?_ k
 subst hr
 simp only[aop,hx,hy,List.map_cons,List.map_nil]
 rfl
end
end Go.Proofs.YtejjibilgmlhdaaDoor
namespace Go.Proofs.YtejjibilgmlhdaaDoor
open Go.Am
set_option linter.unusedVariables false
set_option linter.unusedSimpArgs false
set_option maxHeartbeats 1000000
theorem w_ext {a b:LWd} (h1:a.pos=b.pos) (h2:a.bits=b.bits):a=b:=by cases a;cases b;cases h1;cases h2;rfl
theorem lw_ext {A B:List LWd} (hl:A.length=B.length) (h:∀ i,i<A.length→A.getD i default=B.getD i default):A=B:=by
 refine List.ext_getElem hl fun i h1 h2=> ?_
 have:=h i h1
 rwa [List.getD_eq_getElem?_getD,List.getD_eq_getElem?_getD,List.getElem?_eq_getElem h1,List.getElem?_eq_getElem h2]at this
theorem eq_wd (x y:LWd):eqAll [I x.pos,W x.bits] [I y.pos,W y.bits]=decide (x=y):=by
 by_cases h:x=y
 ·subst h;simp[eqAll,eqOne,I]
 ·rw[decide_eq_false h]
  cases hb:eqAll [I x.pos,W x.bits] [I y.pos,W y.bits]with
  |false=>rfl
  |true=>
   exfalso
   simp[eqAll,eqOne,I]at hb
   exact h (w_ext hb.1 (by omega))
noncomputable def body34_0:ACode:=(.seq (.region [⟨some 14,none,(.bin .lss (.tmp 13) (.tmp 12))⟩]) (.seq (.cond (.tmp 14) .skip (.exit 0)) (.seq (.block 1 (.seq (.region [⟨some 15,none,(.mov (.tmp 13))⟩,⟨some 5,none,(.mov (.tmp 15))⟩]) (.seq (.regionC [(⟨some 16,none,(.mov (.tmp 0))⟩,[]),(⟨some 17,none,(.mov (.tmp 5))⟩,[]),(⟨some 18,none,(.idx 2 (.tmp 16) (.tmp 17))⟩,[]),(⟨some 19,none,(.load true 2 (.tmp 18))⟩,[]),(⟨some 20,none,(.mov (.tmp 1))⟩,[]),(⟨some 21,none,(.mov (.tmp 5))⟩,[]),(⟨some 22,none,(.idx 2 (.tmp 20) (.tmp 21))⟩,[]),(⟨some 23,none,(.load true 2 (.tmp 22))⟩,[]),(⟨some 24,none,(.binP .neq 52 (.tmp 19) (.tmp 23))⟩,[])]) (.cond (.tmp 24) (.seq (.region [⟨some 4,none,(.mov (.const (.bool false)))⟩]) .ret) .skip)))) (.region [⟨some 25,none,(.bin .add (.tmp 13) (.const (.int .i64 1)))⟩,⟨some 13,none,(.mov (.tmp 25))⟩]))))
noncomputable def body34:ACode:=(.seq (.region [⟨some 4,none,(.mov (.const (.bool false)))⟩]) (.seq (.seq (.region [⟨some 6,none,(.mov (.tmp 0))⟩,⟨some 7,none,(.len (.tmp 6))⟩,⟨some 8,none,(.mov (.tmp 1))⟩,⟨some 9,none,(.len (.tmp 8))⟩,⟨some 10,none,(.bin .neq (.tmp 7) (.tmp 9))⟩]) (.cond (.tmp 10) (.seq (.region [⟨some 4,none,(.mov (.const (.bool false)))⟩]) .ret) .skip)) (.seq (.seq (.region [⟨some 11,none,(.mov (.tmp 0))⟩,⟨some 12,none,(.len (.tmp 11))⟩,⟨some 13,none,(.mov (.const (.int .i64 0)))⟩]) (.block 0 (.loop body34_0))) (.seq (.region [⟨some 4,none,(.mov (.const (.bool true)))⟩]) .ret))))
set_option maxRecDepth 100000 in
theorem tab34:tb.code 34=some ⟨26,[(4,none)],body34⟩:=by kernel_rfl
theorem equal_ok (h:AHeap) (va vb:Value) (A B:List LWd) (ka:SlW h va A) (kb:SlW h vb B) (la:(A.length:Int)≤1000000000):WC Tryd.prog tb 34 [va,vb] h fun r h'=>r= .bool (decide (A=B))∧h=h':=by
 refine WC.of (zY 34) tab34 ?_;simp only[mkTm,Nat.zero_add,Nat.reduceAdd]
 by_cases hl:A.length=B.length
 case neg=>
  refine go ?_
  refine rt ?_
  exact⟨by rw[decide_eq_false (fun e=>hl (by rw[e]))];rfl,rfl⟩
 refine go ?_
 refine WX.loopA [14,15,5,16,17,18,19,20,21,22,23,24,4,25,13] (by kernel_rfl) (fun i=>A.length - i) (fun i t h1=>h=h1∧zA t 13=I i∧i≤A.length∧Hid (∀ j,j<i→A.getD j default=B.getD j default)) 0 ?_ ?_
 ·exact⟨rfl,sl_,Nat.zero_le _,⟨fun j hj=>absurd hj (Nat.not_lt_zero _)⟩⟩
 rintro i t _ hsame ⟨rfl,s13,hi,hI⟩
 refine go ?_
 refine WX.br (fun hb=> ?_) (fun hb=> ?_)<;>simp only[DB]at hb
 ·obtain⟨ca,⟨rfl,x1,x2,x3⟩,pca,hsa⟩:=wd_at ka (show i<A.length by omega)
  obtain⟨cb,⟨rfl,y1,y2,y3⟩,pcb,hsb⟩:=wd_at kb (show i<B.length by omega)
  refine go ?_
  refine WO.bp (ne_chk (xs:=#[I (A.getD i default).pos,W (A.getD i default).bits]) (ys:=#[I (B.getD i default).pos,W (B.getD i default).bits]) (b:=decide (A.getD i default=B.getD i default)) (by kernel_rfl) (eq_wd _ _)) ?_
  refine go ?_
  repeat' (first|(refine WX.br (fun hb=> ?_) (fun hb=> ?_)<;>(try simp only[DB]at hb)<;>refine go ?_)|(refine WO.sp (fun hb=> ?_) (fun hb=> ?_)<;>(try simp only[DB]at hb)<;>refine go ?_))
  ·refine rt ?_
   refine⟨?_,rfl⟩
   rw[decide_eq_false (fun e=>by subst e;exact hb rfl)];rfl
  ·refine zC (i+1) (by omega) ⟨rfl,sln,by omega,⟨fun j hj=> ?_⟩⟩
   by_cases e:j=i
   ·subst e;exact hb
   ·exact hI.out j (by omega)
 ·refine go ?_
  refine rt ?_
  exact⟨by rw[decide_eq_true (lw_ext hl fun j hj=>hI.out j (by omega))];rfl,rfl⟩
noncomputable def body17:ACode:=(.seq (.region [⟨some 4,none,(.mov (.const (.bool false)))⟩]) (.seq (.region [⟨some 5,none,(.mov (.tmp 0))⟩,⟨some 6,none,(.mov (.tmp 1))⟩,⟨some 7,none,(.call (.func 34) [(.tmp 5),(.tmp 6)])⟩,⟨some 4,none,(.mov (.tmp 7))⟩]) .ret))
set_option maxRecDepth 100000 in
theorem tab17:tb.code 17=some ⟨8,[(4,none)],body17⟩:=by kernel_rfl
theorem same_ok (h:AHeap) (va vb:Value) (A B:List LWd) (ka:SlW h va A) (kb:SlW h vb B) (la:(A.length:Int)≤1000000000):WC Tryd.prog tb 17 [va,vb] h fun r h'=>r= .bool (decide (A=B))∧h=h':=by
 refine WC.of (zY 17) tab17 ?_;simp only[mkTm,Nat.zero_add,Nat.reduceAdd]
 refine go ?_
 refine WO.con (equal_ok h va vb A B ka kb la) ?_
 rintro _ _ ⟨rfl,rfl⟩
 refine go ?_
 refine rt ?_
 exact⟨rfl,rfl⟩
end Go.Proofs.YtejjibilgmlhdaaDoor
namespace Go.Proofs.YtejjibilgmlhdaaDoor
open Go.Am
set_option linter.unusedVariables false
set_option linter.unusedSimpArgs false
set_option maxHeartbeats 1000000
structure ExtN (h h':AHeap):Prop where
 n:h.n≤h'.n
 get:∀ g,g<h.n→h'.get g=h.get g
 wf:Wf h→Wf h'
theorem ExtN.of {h h':AHeap} (e:Ext h h'):ExtN h h':=⟨e.n,e.get,e.wf⟩
theorem ExtN.refl (h:AHeap):ExtN h h:=⟨Nat.le_refl _,fun _ _=>rfl,id⟩
theorem ExtN.trans {a b c:AHeap} (h:ExtN a b) (k:ExtN b c):ExtN a c:=⟨Nat.le_trans h.n k.n,fun g hg=>(k.get g (Nat.lt_of_lt_of_le hg h.n)).trans (h.get g hg),fun w=>k.wf (h.wf w)⟩
theorem ExtN.to {h h':AHeap} (e:ExtN h h'):Ext {h with mark:=h'.mark,wr:=h'.wr} h':=⟨e.n,e.get,fun w=>e.wf w,rfl,fun _=>rfl⟩
theorem ExtN.outC {h h1 h':AHeap} (e:Ext h h1) (k:ExtN h h'):Ext h (outC h1 h'):=⟨k.n,k.get,fun w=>k.wf w,e.mark,fun hm=>e.wr hm⟩
theorem slw_shape {h v s} (k:SlW h v s):∃ a n m,v= .slice a n m:=let ⟨_,a,_⟩:=k;a.shape
theorem SlW.extN {h h' v s} (k:SlW h v s) (e:ExtN h h'):SlW h' v s:=by
 have:=SlW.ext (h:={h with mark:=h'.mark,wr:=h'.wr}) (by exact k) e.to
 exact this
theorem TzT.extN {h h'} (T:TzT h) (e:ExtN h h'):TzT h':=by
 have:=TzT.ext (h:={h with mark:=h'.mark,wr:=h'.wr}) (by exact T) e.to
 exact this
theorem numsL_cons2 (w:LWd) (s:List LWd):zq (w::s)=(bitsL w.bits).map (fun k:Nat=>64 * w.pos+(k:Int))++zq s:=rfl
theorem drop_head {l r:List Int} {j:Nat} {x:Int} (h:l.drop j=x::r):j<l.length∧l.getD j 0=x∧l.drop (j+1)=r:=by
 have hj:j<l.length:=by
  rcases Nat.lt_or_ge j l.length with h1|h1
  ·exact h1
  ·rw[List.drop_eq_nil_of_le h1]at h;cases h
 rw[List.drop_eq_getElem_cons hj]at h
 cases h
 exact⟨hj,by rw[List.getD_eq_getElem?_getD,List.getElem?_eq_getElem hj];rfl,rfl⟩
noncomputable def body41_0:ACode:=(.seq (.seq (.region [⟨some 14,none,(.mov (.tmp 5))⟩,⟨some 15,none,(.bin .neq (.tmp 14) (.const (.int .u64 0)))⟩]) (.cond (.tmp 15) .skip (.exit 2))) (.seq (.block 3 (.seq (.regionC [(⟨some 20,none,(.mov (.tmp 0))⟩,[]),(⟨some 21,none,(.fld 0 (.tmp 4))⟩,[]),(⟨some 22,none,(.load false 1 (.tmp 21))⟩,[]),(⟨some 23,none,(.bin .mul (.const (.int .i64 64)) (.tmp 22))⟩,[]),(⟨some 24,none,(.mov (.tmp 5))⟩,[]),(⟨some 25,none,(.call (.func 42) [(.tmp 24)])⟩,[2]),(⟨some 26,none,(.bin .add (.tmp 23) (.tmp 25))⟩,[]),(⟨some 27,none,(.call (.tmp 20) [(.tmp 26)])⟩,[]),(⟨some 28,none,(.un .not (.tmp 27))⟩,[])]) (.cond (.tmp 28) .ret .skip))) (.region [⟨some 16,none,(.mov (.tmp 5))⟩,⟨some 17,none,(.mov (.tmp 5))⟩,⟨some 18,none,(.bin .sub (.tmp 17) (.const (.int .u64 1)))⟩,⟨some 19,none,(.bin .and (.tmp 16) (.tmp 18))⟩,⟨some 5,none,(.mov (.tmp 19))⟩])))
noncomputable def body41_1:ACode:=(.seq (.region [⟨some 9,none,(.bin .lss (.tmp 8) (.tmp 7))⟩]) (.seq (.cond (.tmp 9) .skip (.exit 0)) (.seq (.block 1 (.seq (.region [⟨some 10,none,(.idx 2 (.tmp 6) (.tmp 8))⟩,⟨some 11,none,(.load true 2 (.tmp 10))⟩,⟨some 4,none,(.alloc [(.int .i64 0),(.int .u64 0)])⟩,⟨none,none,(.store 2 (.tmp 4) (.tmp 11))⟩]) (.seq (.region [⟨some 12,none,(.fld 1 (.tmp 4))⟩,⟨some 13,none,(.load false 1 (.tmp 12))⟩,⟨some 5,none,(.mov (.tmp 13))⟩]) (.block 2 (.loop body41_0))))) (.region [⟨some 29,none,(.bin .add (.tmp 8) (.const (.int .i64 1)))⟩,⟨some 8,none,(.mov (.tmp 29))⟩]))))
noncomputable def body41:ACode:=(.seq (.region [⟨some 6,none,(.load false 1 (.tmp 1))⟩,⟨some 7,none,(.len (.tmp 6))⟩,⟨some 8,none,(.mov (.const (.int .i64 0)))⟩]) (.block 0 (.loop body41_1)))
set_option maxRecDepth 100000 in
theorem tab41:tb.code 41=some ⟨30,[],body41⟩:=by kernel_rfl
theorem numbers1_ok (hA hB h:AHeap) (y p v:Value) (s:List LWd) (ok:OkW s) (hl:(s.length:Int)≤1000000000) (J:Nat→(Nat→Prop)→AHeap→Prop) (W0:Nat→Prop) (h0:J 0 W0 h) (o:OwnC hA h p [v]) (k:SlW hB v s) (T:TzT hB) (eB:ExtN hB h) (hm:h.mark≤hB.n)
  (hp:∀ i Wr h',J i Wr h'→ExtN hB h'∧∀ k,Wr k→hB.n≤k∧k<h'.n) (hk:∀ i Wr h' h'',J i Wr h'→ExtN h' h''→J i Wr h'')
  (hy:∀ i Wr h',i<(zq s).length→J i Wr h'→h'.mark≤h'.n→WV Tryd.prog tb y [I ((zq s).getD i 0)] h' fun r h''=>r= .bool true∧h'.n≤h''.n∧(∀ k,k<h'.n→¬Wr k→h''.get k=h'.get k)∧(∀ g∈h''.wr,g∈h'.wr∨hB.n≤g)∧∃ Wr',J (i+1) Wr' h''∧∀ k,Wr' k→Wr k∨h'.n≤k):
  WC Tryd.prog tb 41 [y,p] h fun _ h'=>(∃ Wr,J (zq s).length Wr h')∧h'.mark=h.mark∧h'.wr=h.wr:=by
 have kh:=k.extN eB
 have hp:=Hid.mk hp
 have hk:=Hid.mk hk
 have hy:=Hid.mk hy
 have ok:=Hid.mk ok
 obtain⟨_,_,_,rfl⟩:=slw_shape k
 refine WC.of (zY 41) tab41 ?_;simp only[mkTm,Nat.zero_add,Nat.reduceAdd]
 refine go ?_
 refine WX.loopA [9,10,11,4,12,13,5,14,15,20,21,22,23,24,25,26,27,28,16,17,18,19,5,29,8] (by kernel_rfl) (fun i=>s.length - i) (fun i t h1=>∃ j Wr,zA t 8=I i∧i≤s.length∧j≤(zq s).length∧J j Wr h1∧ExtN hB h1∧h1.mark=h.mark∧h1.wr=h.wr∧Hid ((zq s).drop j=zq (s.drop i))) 0 ?_ ?_
 ·exact⟨0,W0,sl_,Nat.zero_le _,Nat.zero_le _,h0,eB,rfl,rfl,⟨rfl⟩⟩
 clear h0 eB kh
 rintro i t h1 hsame ⟨j,Wr,s8,hi,hjl,j1,e1,m1,r1,hI⟩
 have k1:=k.extN e1
 refine go ?_
 refine WX.br (fun hb=> ?_) (fun hb=> ?_)<;>simp only[DB]at hb
 ·have hi':i<s.length:=by omega
  obtain⟨cs,⟨rfl,w1,w2,w3⟩,pc,hs⟩:=wd_at k1 hi'
  have hd:=hI.out
  rw[drop_cons hi',numsL_cons2]at hd
  have hw4:=ok.out.each (s.getD i default) (by rw[List.getD_eq_getElem?_getD,List.getElem?_eq_getElem hi'];exact List.getElem_mem hi')
  generalize s.getD i default=w at *
  have hd:=Hid.mk hd
  refine go ?_
  refine WO.al ?_
  intro p4 h2 e2 o4
  refine go ?_
  refine WO.stC0 (cs:=[I w.pos,W w.bits]) o4 e2 ?_
  intro h3 e3 o43 u3
  refine go ?_
  obtain⟨g4,g41,g42,rfl,g44⟩:=id o43
  refine WX.loopA [14,15,20,21,22,23,24,25,26,27,28,16,17,18,19,5] (by kernel_rfl) (fun rest=>rest) (fun rest t h4=>∃ j Wr,zA t 5=W rest∧j≤(zq s).length∧rest<18446744073709551616∧J j Wr h4∧ExtN hB h4∧h4.mark=h.mark∧h4.wr=h.wr∧OwnC h1 h4 (.pointer (some ⟨g4,0,none⟩)) [I w.pos,W w.bits]∧¬Wr g4∧Hid ((zq s).drop j=(bitsL rest).map (fun k:Nat=>64 * w.pos+(k:Int))++zq (s.drop (i+1)))) w.bits ?_ ?_
  ·refine⟨j,Wr,sl_,hjl,w1,hk.out _ _ _ _ j1 (ExtN.of e3),e1.trans (ExtN.of e3),e3.mark.trans m1,?_,o43,fun hw=> ?_,hd⟩
   ·have:=e1.n
    rw[e3.wr (by rw[m1];omega)];exact r1
   ·have:=((hp.out _ _ _ j1).2 _ hw).2;omega
  clear hd hI j1 e1 m1 r1 k1 pc hs e2 o4 u3 o43 e3 g44
  rintro rest t4 h4 hsame4 ⟨j,Wr,s5,hjl,hr,j4,e4,m4,r4,o4,hw,hI⟩
  refine go ?_
  refine WX.br (fun hb2=> ?_) (fun hb2=> ?_)<;>simp only[DB]at hb2
  ·have hr0:rest≠0:=by omega
   obtain⟨kk,L⟩:=low hr0 hr
   have hlt:=L.lt
   have hI:=hI.out
   rw[L.list,List.map_cons,List.cons_append]at hI
   obtain⟨hj1,hj2,hj3⟩:=drop_head hI
   have hI:=Hid.mk hj3
   have hless:=L.less
   refine go ?_
   refine WX.regionU2 0 rfl rfl ?_
   have o4X:OwnC h1 (inC (zF 0 h4)) (.pointer (some ⟨g4,0,none⟩)) [I w.pos,W w.bits]:=o4
   have TX:TzT (inC (zF 0 h4)):=by have:=T.extN e4;exact this
   refine goU ?_
   refine WO.con (trail_ok _ rest kk TX hr hr0 L) ?_
   rintro _ _ ⟨rfl,rfl⟩
   refine WO.nil ?_
   refine uK2_e (Ext.refl _) reads_call ?_
   refine goU ?_
   have hyy:=hy.out j Wr (inC (inC (zF 0 h4))) hj1 (hk.out _ _ _ _ j4 ⟨Nat.le_refl _,fun _ _=>rfl,id⟩) (Nat.le_refl _)
   rw[hj2]at hyy
   refine WO.conV hyy ?_
   rintro _ h5 ⟨rfl,n5,k5,w5,Wr',j5,hW'⟩
   refine WO.nil ?_
   refine uK2_wl (fun k hk=> ?_) n5 (fun cl'=> ?_)
   ·rcases w5 k hk with h|h
    ·cases h
    ·rw[m4];omega
   refine goU ?_
   have n5:h4.n≤h5.n:=n5
   have o45:OwnC h1 (outC h4 (inC h5)) (.pointer (some ⟨g4,0,none⟩)) [I w.pos,W w.bits]:=by
    obtain⟨q,q1,q2,q3,q4⟩:=o4
    cases q3
    exact⟨g4,q1,Nat.lt_of_lt_of_le q2 n5,rfl,(k5 g4 q2 hw).trans q4⟩
   have j6:=hk.out _ _ _ (outC h4 (inC h5)) j5 ⟨Nat.le_refl _,fun _ _=>rfl,id⟩
   have e5:ExtN hB (outC h4 (inC h5)):=(hp.out _ _ _ j6).1
   have m6:(outC h4 (inC h5)).mark=h.mark:=m4
   have r6:(outC h4 (inC h5)).wr=h.wr:=r4
   have hw6:¬Wr' g4:=fun hW=>by
    rcases hW' g4 hW with h|h
    ·exact hw h
    ·obtain⟨q,q1,q2,q3,q4⟩:=o4
     cases q3
     have:h4.n≤g4:=h
     omega
   generalize outC h4 (inC h5)=h6 at *
   refine WO.bin zk rfl (u_sub (a:=rest) (b:=1) hr (by omega)) ?_
   refine go ?_
   refine WO.bin zk zk (u_and (a:=rest) (b:=rest - 1) hr (by omega)) ?_
   refine go ?_
   exact zC (rest&&& (rest - 1)) hless ⟨j+1,Wr',sl_,hj1,Nat.lt_trans hless hr,j6,e5,m6,r6,o45,hw6,hI⟩
  ·have hr0:rest=0:=by omega
   subst hr0
   refine go ?_
   have hI:=hI.out
   rw[bitsL_zero]at hI
   exact zC (i+1) (by omega) ⟨j,Wr,sln,by omega,hjl,j4,e4,m4,r4,⟨hI⟩⟩
 ·refine go ?_
  refine rtN ?_
  have hI:=hI.out
  rw[show i=s.length by omega,List.drop_length,show zq []=[] from rfl]at hI
  have hje:j=(zq s).length:=by
   have:=congrArg List.length hI
   rw[List.length_drop,List.length_nil]at this;omega
  subst hje
  exact⟨⟨Wr,j1⟩,m1,r1⟩
noncomputable def body26:ACode:=(.seq (.region [⟨some 1,none,(.box (.tmp 0))⟩,⟨some 2,none,(.mov (.const .nilFunc))⟩]) (.seq (.region [⟨some 3,none,(.mkFunc (.func 41) [] [(.tmp 1)])⟩,⟨some 2,none,(.mov (.tmp 3))⟩]) .ret))
set_option maxRecDepth 100000 in
theorem tab26:tb.code 26=some ⟨4,[(2,none)],body26⟩:=by kernel_rfl
theorem numbers_ok (h:AHeap) (v:Value) (s:List LWd) (k:SlW h v s):WC Tryd.prog tb 26 [v] h fun r h'=>(∃ p,r= .func (.func 41) #[] #[p]∧OwnC h h' p [v])∧Ext h h':=by
 obtain⟨_,_,_,rfl⟩:=slw_shape k
 refine WC.of (zY 26) tab26 ?_;simp only[mkTm,Nat.zero_add,Nat.reduceAdd]
 refine go ?_
 refine WO.bx ?_
 intro p h1 e1 o1
 refine go ?_
 refine rt ?_
 exact⟨⟨p,rfl,o1⟩,e1⟩
theorem Lies.extN {h h':AHeap} {g:Nat} {o:AObj} (k:Lies h g o) (e:ExtN h h'):Lies h' g o:=⟨Nat.lt_of_lt_of_le k.1 e.n,(e.get g k.1).trans k.2⟩
theorem OwnC.extN {h0 h h' p cells} (o:OwnC h0 h p cells) (e:ExtN h h'):OwnC h0 h' p cells:=by
 obtain⟨g,a,b,c,d⟩:=o;exact⟨g,a,Nat.lt_of_lt_of_le b e.n,c,(e.get g b).trans d⟩
theorem OwnN.extN {h0 h h' v xs} (o:OwnN h0 h v xs) (e:ExtN h h'):OwnN h0 h' v xs:=by
 rcases o with o|⟨g,a,b,c,d⟩
 ·exact .inl o
 ·exact .inr ⟨g,a,Nat.lt_of_lt_of_le b e.n,c,(e.get g b).trans d⟩
theorem listB_ne {h0 h1 h:AHeap} {p v:Value} {a:Option Addr} {n k:Nat} {cs:List Value} {xs:List Int} (o:OwnC h0 h p (.slice a n k::cs)) (i:OwnN h1 h v xs):∀ b m c,v= .slice (some b) m c→p≠ .pointer (some ⟨b.block,0,none⟩):=by
 intro b m c hv hp
 obtain⟨g,_,_,rfl,hg⟩:=o
 rcases i with ⟨rfl,_⟩|⟨g2,_,_,rfl,hg2⟩
 ·cases hv
 ·cases hv;cases hp
  rw[hg]at hg2
  cases xs with
  |nil=>cases hg2
  |cons x xs=>cases hg2
theorem listB_upd {h0 h h':AHeap} {p v:Value} {a:Option Addr} {n k:Nat} {cs:List Value} {xs:List Int} (o:OwnC h0 h p (.slice a n k::cs)) (i:OwnN h0 h v xs) (u:Upd v h h'):OwnC h0 h' p (.slice a n k::cs):=by
 have hne:=listB_ne o i
 obtain⟨g,g1,g2,rfl,hg⟩:=o
 exact⟨g,g1,Nat.lt_of_lt_of_le g2 u.1,rfl,(u.2 g g2 fun b m c hv e=>hne b m c hv (by rw[e])).trans hg⟩
theorem listB_updC {h0 h h':AHeap} {p v:Value} {a:Option Addr} {n k:Nat} {cs:List Value} {xs:List Int} (i:OwnI h0 h v xs) (o:OwnC h0 h p (.slice a n k::cs)) (u:UpdC p h h'):OwnI h0 h' v xs:=by
 have hne:=listB_ne o (.inr i)
 obtain⟨g,g1,g2,rfl,hg⟩:=i
 exact⟨g,g1,Nat.lt_of_lt_of_le g2 u.1,rfl,(u.2 g g2 fun e=>hne _ _ _ rfl e).trans hg⟩
noncomputable def body8:ACode:=(.seq (.region [⟨some 2,none,(.alloc [(.slice none 0 0)])⟩,⟨some 3,none,(.mov (.const (.int .i64 0)))⟩]) (.seq (.seq (.region [⟨some 6,none,(.mov (.tmp 0))⟩,⟨some 7,none,(.call (.func 15) [(.tmp 6)])⟩,⟨some 4,none,(.mov (.tmp 7))⟩]) (.seq (.region [⟨some 8,none,(.mov (.tmp 4))⟩,⟨some 9,none,(.bin .neq (.tmp 8) (.const (.int .i64 0)))⟩]) (.cond (.tmp 9) (.seq (.region [⟨some 10,none,(.mov (.tmp 4))⟩,⟨none,none,(.store 1 (.tmp 2) (.const (.slice none 0 0)))⟩,⟨some 3,none,(.mov (.tmp 10))⟩]) .ret) .skip))) (.seq (.seq (.region [⟨some 11,none,(.mov (.tmp 0))⟩,⟨some 12,none,(.call (.func 26) [(.tmp 11)])⟩]) (.block 0 (.rangeFunc (.tmp 12) [13] (.region [⟨some 5,none,(.mov (.tmp 13))⟩]) (.block 1 (.region [⟨some 14,none,(.load false 1 (.tmp 2))⟩,⟨some 15,none,(.mov (.tmp 5))⟩,⟨some 16,none,(.buildSlice 1 1 [(.int .i64 0)] [(0,1,(.tmp 15))])⟩,⟨some 17,none,(.append 1 (.tmp 14) (.tmp 16))⟩,⟨none,none,(.store 1 (.tmp 2) (.tmp 17))⟩]))))) (.seq (.region [⟨some 18,none,(.load false 1 (.tmp 2))⟩,⟨none,none,(.store 1 (.tmp 2) (.tmp 18))⟩,⟨some 3,none,(.mov (.const (.int .i64 0)))⟩]) .ret))))
set_option maxRecDepth 100000 in
theorem tab8:tb.code 8=some ⟨19,[(2,some (false,1)),(3,none)],body8⟩:=by kernel_rfl
theorem list_ok (h:AHeap) (v:Value) (s:List LWd) (k:SlW h v s) (T:TzT h) (hl:(s.length:Int)≤1000000) (hm:h.mark≤h.n):
  WC Tryd.prog tb 8 [v] h fun r h'=>(∃ w,r= .tuple #[w,I (errW (zy (-1) s))]∧OwnN h h' w (if zy (-1) s then zq s else []))∧Ext h h':=by
 refine WC.of (zY 8) tab8 ?_;simp only[mkTm,Nat.zero_add,Nat.reduceAdd]
 refine go ?_
 refine WO.al ?_
 intro p2 h1 e1 o1
 have k1:=SlW.ext k e1
 refine go ?_
 refine WO.con (check_ok h1 v s k1 (by omega)) ?_
 rintro _ h2 ⟨rfl,e2⟩
 have e12:=e1.trans e2
 have o2:=o1.ext e2
 have k2:=SlW.ext k e12
 by_cases hc:zy (-1) s=true
 case neg=>
  have hc:zy (-1) s=false:=by simpa using hc
  rw[hc,show errW false=8 from rfl]
  refine go ?_
  refine WO.stC0 (cs:=[.slice none 0 0]) o2 e12 ?_
  intro h3 e3 o3 u3
  refine go ?_
  refine rt (vs:=[.slice none 0 0,I 8]) ?_ (Res.consB sl_ o3 rfl (Res.cons sl_ Res.nil))
  exact⟨⟨_,rfl,.inl ⟨rfl,rfl⟩⟩,e3⟩
 have ok:=(okW_iff k.bd).1 hc
 rw[hc,show errW true=0 from rfl]
 refine go ?_
 refine WO.con (numbers_ok h2 v s k2) ?_
 rintro _ h3 ⟨⟨p,rfl,o3⟩,e3⟩
 have o23:=o2.ext e3
 have e13:=e12.trans e3
 refine go ?_
 refine WX.rangeG ?_
 intro L g r hO rdy eO hL hg lL lg
 have eb:=e13.trans eO
 have hnL:h.n≤L:=Nat.le_trans e13.n hL
 have o2O:=o23.ext eO
 have hlen:((zq s).length:Int)≤64 * s.length:=by
  have:∀ l:List LWd,(zq l).length≤64 * l.length:=fun l=>by
   induction l with
   |nil=>exact Nat.le_refl _
   |cons w l ih=>rw[numsL_cons,List.length_cons];have:=bitsL_le w.bits;omega
  have:=this s;omega
 have hmO:hO.mark≤h.n:=by rw[eb.mark];exact hm
 refine WV.func ?_
 refine WC.mono (numbers1_ok h2 h hO _ p v s ok (by omega) (fun i Wr h'=>ExtN h h'∧Lies h' L (.loop r)∧Lies h' g (.deferred (some []))∧∃ w,OwnC h h' p2 [w]∧OwnN h h' w ((zq s).take i)∧Wr=fun k=>p2= .pointer (some ⟨k,0,none⟩)∨k=L∨∃ n c,w= .slice (some ⟨k,0,none⟩) n c)
  (fun k=>p2= .pointer (some ⟨k,0,none⟩)∨k=L∨∃ n c,Value.slice none 0 0= .slice (some ⟨k,0,none⟩) n c) ?_ (o3.ext eO) k T (ExtN.of eb) hmO ?_ ?_ ?_) ?_
 ·exact⟨ExtN.of eb,lL,lg,_,o2O,.inl ⟨rfl,rfl⟩,rfl⟩
 ·rintro i _ h' ⟨e',lL',lg',w,ow,on,rfl⟩
  refine⟨e',fun k hk=> ?_⟩
  rcases hk with hk|rfl|⟨n,c,hk⟩
  ·obtain⟨q,q1,q2,q3,q4⟩:=ow
   rw[q3]at hk;cases hk;exact⟨q1,q2⟩
  ·exact⟨hnL,lL'.1⟩
  ·rcases on with ⟨q,_⟩|⟨q,q1,q2,q3,q4⟩
   ·rw[q]at hk;cases hk
   ·rw[q3]at hk;cases hk;exact⟨q1,q2⟩
 ·rintro i _ h' h'' ⟨e',lL',lg',w,ow,on,rfl⟩ e''
  exact⟨e'.trans e'',Lies.extN lL' e'',Lies.extN lg' e'',w,OwnC.extN ow e'',OwnN.extN on e'',rfl⟩
 ·rintro i _ h' hi ⟨e',lL',lg',w,ow,on,rfl⟩ hm'
  refine WV.yieldG lL' rdy rfl ?_
  simp only[setTm]
  refine go ?_
  refine rndK_normal ?_
  intro h4 hh4
  have eB:=e'.to
  generalize hBB:({h with mark:=h'.mark,wr:=h'.wr}:AHeap)=hb at eB
  have hbn:hb.n=h.n:=by rw[←hBB]
  have ownb:∀ {hx p cells},OwnC h hx p cells→OwnC hb hx p cells:=fun o=>by rw[←hBB];exact o
  have ownb':∀ {hx p cells},OwnC hb hx p cells→OwnC h hx p cells:=fun o=>by rw[←hBB]at o;exact o
  have ownn:∀ {hx v xs},OwnN h hx v xs→OwnN hb hx v xs:=fun o=>by rw[←hBB];exact o
  have ownn':∀ {hx v xs},OwnN hb hx v xs→OwnN h hx v xs:=fun o=>by rw[←hBB]at o;exact o
  have e4:Ext hb h4:=by rw[hh4];exact eB.set (by omega) lL'.1 _
  have n4:h4.n=h'.n:=by rw[hh4];rfl
  have m4:h4.mark=h'.mark:=by rw[hh4];rfl
  have w4:∀ k∈h4.wr,k∈h'.wr∨h.n≤k:=fun k hk=>by
   rw[hh4]at hk
   have hk:k∈h'.log L:=hk
   rcases yN hk with rfl|h
   ·exact .inr hnL
   ·exact .inl h
  have g4:∀ k,k≠L→h4.get k=h'.get k:=fun k hk=>by rw[hh4,zT,if_neg hk]
  have ow4:OwnC hb h4 p2 [w]:=by rw[hh4];exact(ownb ow).setR lL' rfl
  have on4:OwnN hb h4 w ((zq s).take i):=by rw[hh4];exact OwnN.setR (ownn on) lL' rfl
  have lL4:Lies h4 L (.loop (busy r)):=by rw[hh4];exact lL'.self
  have lg4:Lies h4 g (.deferred (some [])):=by
   rw[hh4];refine lg'.set ?_
   intro e;subst e;have:=lg'.2;rw[lL'.2]at this;cases this
  clear hh4
  obtain⟨wa,wn,wk,rfl⟩:=SlC.shape on4.sl
  refine go ?_
  refine WO.bl [(zq s).getD i 0] ?_
  intro v5 h5 e5 o5
  have m5:h4.mark≤h4.n:=by omega
  have w5:h5.wr=h4.wr:=e5.wr m5
  refine go ?_
  have e05:=e4.trans e5
  have htl:((zq s).take i).length≤i:=by rw[List.length_take];omega
  refine WO.apNw (OwnN.ext on4 e5) o5.sl e05 (by simp) (by simp only[List.length_singleton];omega) ?_
  intro v6 h6 e6 o6 u6 w6 f6
  have ow6:=listB_upd (ow4.ext e5) (OwnN.ext on4 e5) u6
  have lL6:=(lL4.ext e5).upd rfl (OwnN.ext on4 e5) u6
  have lg6:=(lg4.ext e5).upd rfl (OwnN.ext on4 e5) u6
  obtain⟨va,vn,vk,rfl⟩:=SlC.shape o6.sl
  refine go ?_
  refine WO.stC0w (cs:=[.slice va vn vk]) ow6 e6 ?_
  intro h7 e7 ow7 u7 w7
  have o6I:OwnI hb h6 (.slice va vn vk) ((zq s).take i++[(zq s).getD i 0]):=by
   rcases o6 with ⟨_,q⟩|q
   ·simp at q
   ·exact q
  have on7:=listB_updC o6I ow6 u7
  have lL7:=lL6.updC rfl ow6 u7
  have lg7:=lg6.updC rfl ow6 u7
  refine go ?_
  refine rndE_normal lL7 ?_
  have tk:(zq s).take (i+1)=(zq s).take i++[(zq s).getD i 0]:=by rw[List.take_add_one];simp[List.getD,List.getElem?_eq_getElem hi]
  have n57:h'.n≤h7.n:=by have:=e5.n;have:=u6.1;have:=u7.1;omega
  have e8:Ext hb (h7.set L (.loop r)):=e7.set (by omega) lL7.1 _
  have oldg:∀ k,k<h'.n→¬(p2= .pointer (some ⟨k,0,none⟩)∨k=L∨∃ n c,Value.slice wa wn wk= .slice (some ⟨k,0,none⟩) n c)→(h7.set L (.loop r)).get k=h'.get k:=fun k hk hnW=>by
   have h1:k≠L:=fun e=>hnW (.inr (.inl e))
   have a1:=e5.n
   have a2:=u6.1
   rw[zT,if_neg h1,u7.2 k (by omega) (fun e=>hnW (.inl e)),u6.2 k (by omega) (fun b m c e1 e2=> ?_),e5.get k (by omega),g4 k h1]
   subst e2
   rcases on with ⟨q,_⟩|⟨q,q1,q2,q3,q4⟩
   ·rw[q]at e1;cases e1
   ·rw[q3]at e1;cases e1
    exact hnW (.inr (.inr ⟨_,_,q3⟩))
  have belowN:∀ k,k<h.n→¬(p2= .pointer (some ⟨k,0,none⟩)∨k=L∨∃ n c,Value.slice wa wn wk= .slice (some ⟨k,0,none⟩) n c):=fun k hk hW=>by
   rcases hW with hW|rfl|⟨n,c,hW⟩
   ·obtain⟨q,q1,q2,q3,q4⟩:=ow
    rw[q3]at hW;cases hW;omega
   ·omega
   ·rcases on with ⟨q,_⟩|⟨q,q1,q2,q3,q4⟩
    ·rw[q]at hW;cases hW
    ·rw[q3]at hW;cases hW;omega
  have eN:ExtN h (h7.set L (.loop r)):=⟨Nat.le_trans e'.n n57,fun k hk=>(oldg k (Nat.lt_of_lt_of_le hk e'.n) (belowN k hk)).trans (e'.get k hk),fun wf=>e8.wf (by rw[←hBB];exact wf)⟩
  refine⟨rfl,n57,oldg,fun k hk=> ?_,_,⟨eN,lL7.self,lg7.set ?_,_,ownb' (ow7.setR lL7 rfl),?_,rfl⟩,fun k hk=> ?_⟩
  ·have hk:k∈h7.log L:=hk
   rcases yN hk with rfl|hk
   ·exact .inr hnL
   rcases w7 k hk with hk|hk
   ·rcases w6 k hk with hk|hk
    ·rw[w5]at hk;exact w4 k hk
    ·exact .inr (by omega)
   ·exact .inr (by omega)
  ·intro e;subst e;have:=lg7.2;rw[lL7.2]at this;cases this
  ·rw[tk];exact ownn' (OwnN.setR (.inr on7) lL7 rfl)
  ·rcases hk with hk|hk|⟨n,c,hk⟩
   ·exact .inl (.inl hk)
   ·exact .inl (.inr (.inl hk))
   ·refine .inr ?_
    have:=f6 _ _ _ hk
    have:=e5.n;omega
 ·rintro _ h4 ⟨⟨_,e4,lL4,lg4,w,ow4,on4,rfl⟩,m4,r4⟩
  refine⟨lL4,fun r3=> ?_⟩
  have lgL:g≠L:=by intro e;subst e;have:=lg4.2;rw[lL4.2]at this;cases this
  have E4:Ext h h4:=⟨e4.n,e4.get,e4.wf,m4.trans eb.mark,fun hm=>r4.trans (eb.wr hm)⟩
  obtain⟨h5,hh5⟩:∃ h5,h5=h4.set L (.loop r3):=⟨_,rfl⟩
  have e5:Ext h h5:=by rw[hh5];exact E4.set hnL lL4.1 _
  have ow5:OwnC h h5 p2 [w]:=by rw[hh5];exact ow4.setR lL4 rfl
  have on5:OwnN h h5 w ((zq s).take (zq s).length):=by rw[hh5];exact OwnN.setR on4 lL4 rfl
  have lg5:Lies h5 g (.deferred (some [])):=by rw[hh5];exact lg4.set lgL
  rw[←hh5]
  clear hh5
  obtain⟨wa,wn,wk,rfl⟩:=SlC.shape on5.sl
  refine go ?_
  refine WO.stC0 ow5 e5 ?_
  intro h6 e6 ow6 u6
  have on6:OwnN h h6 (.slice wa wn wk) ((zq s).take (zq s).length):=by
   rcases on5 with q|q
   ·exact .inl q
   ·exact .inr (listB_updC q ow5 u6)
  have lg6:=lg5.updC rfl ow5 u6
  refine go ?_
  refine retK_col lg6 ?_
  refine rt (vs:=[.slice wa wn wk,I 0]) ?_ (Res.consB sl_ (ow6.setR lg6 rfl) rfl (Res.cons sl_ Res.nil))
  rw[List.take_length]at on6
  refine⟨⟨_,rfl,OwnN.setR on6 lg6 rfl⟩,e6.set (by have:=e13.n;omega) lg6.1 _⟩
end Go.Proofs.YtejjibilgmlhdaaDoor
namespace Go.Proofs.YtejjibilgmlhdaaDoor
open Go.Am
set_option linter.unusedVariables false
set_option linter.unusedSimpArgs false
set_option maxHeartbeats 1000000
noncomputable def body39:ACode:=(.seq (.region [⟨some 2,none,(.mov (.const (.slice none 0 0)))⟩]) (.seq (.seq (.region [⟨some 3,none,(.mov (.tmp 0))⟩,⟨some 4,none,(.isNil 0 false (.tmp 3))⟩]) (.cond (.tmp 4) (.seq (.region [⟨some 2,none,(.mov (.const (.slice none 0 0)))⟩]) .ret) .skip)) (.seq (.region [⟨some 5,none,(.buildSlice 0 1 [(.int .i64 0)] [])⟩,⟨some 6,none,(.mov (.tmp 0))⟩,⟨some 7,none,(.append 1 (.tmp 5) (.tmp 6))⟩,⟨some 2,none,(.mov (.tmp 7))⟩]) .ret)))
set_option maxRecDepth 100000 in
theorem tab39:tb.code 39=some ⟨8,[(2,none)],body39⟩:=by kernel_rfl
theorem clone_ok (h:AHeap) (v:Value) (l:List Int) (s:SlI h v l) (hl:l.length≤1000000):WC Tryd.prog tb 39 [v] h fun r h'=>OwnN h h' r l∧Ext h h':=by
 refine WC.of (zY 39) tab39 ?_;simp only[mkTm,Nat.zero_add,Nat.reduceAdd]
 obtain⟨a,n,k,rfl⟩:=SlC.shape s
 cases a with
 |none=>
  have hn:l=[]:=by
   rcases s.2 with ⟨h0,_⟩|⟨g,off,row,hv,_⟩
   ·exact List.length_eq_zero_iff.1 h0
   ·cases hv
  subst hn
  refine go ?_
  refine WX.br (fun hb=> ?_) (fun hb=> ?_)
  ·refine go ?_
   refine rt ?_
   exact⟨.inl ⟨rfl,rfl⟩,Ext.refl _⟩
  ·exact absurd hb (by simp)
 |some a=>
  refine go ?_
  refine WX.br (fun hb=> ?_) (fun hb=> ?_)
  ·exact absurd hb (by simp)
  ·refine go ?_
   refine WO.bl [] ?_
   intro v1 h1 e1 o1
   have s1:=SlI.ext s e1
   refine go ?_
   refine WO.apN (.inr o1) s1 e1 (by simp only[List.length_nil];omega) ?_
   intro v2 h2 e2 o2
   refine go ?_
   refine rt ?_
   exact⟨o2,e2⟩
theorem mem_sortB {x:Int} {l:List Int}:x∈sortL l↔x∈l:=(List.mergeSort_perm l _).mem_iff
theorem len_sortB (l:List Int):(sortL l).length=l.length:=(List.mergeSort_perm l _).length_eq
theorem rise_sortB (l:List Int):(sortL l).Pairwise (·≤·):=by
 have hp:(sortL l).Pairwise (fun a b=>decide (a≤b)=true):=List.pairwise_mergeSort (fun a b c h1 h2=>by simp only[decide_eq_true_eq]at *;omega) (fun a b=>by simp only[Bool.or_eq_true,decide_eq_true_eq];omega) l
 exact hp.imp fun h=>of_decide_eq_true h
theorem upto_le {s:List LWd} {xs:List Int} {n:Int} (u:Upto s xs) (h:∀ x∈xs,x≤n):∀ w∈s,w.pos≤n / 64:=by
 intro w hw
 obtain⟨a,b,c,d⟩:=u.ok.each w hw
 obtain⟨k,hk⟩:=bits_ex c
 have hk2:=bits_lt d hk
 have:=(u.mem (64 * w.pos+k)).1 ⟨w,hw,by omega,by rw[show ((64 * w.pos+(k:Int)) % 64).toNat=k by omega];exact hk⟩
 have:=h _ this
 omega
def ofE (l:List Int):Int:=if l.all (fun n=>decide (0≤n)&&decide (n<1048576)) then 0 else 2
theorem ofE_bad {l:List Int} {n:Int} (h:n∈l) (hn:(decide (0≤n)&&decide (n<1048576))=false):ofE l=2:=by
 unfold ofE
 rw[if_neg fun ha=>by
  have:=List.all_eq_true.1 ha n h
  rw[hn]at this;cases this]
theorem ofE_good {l:List Int} (h:∀ n∈l,0≤n∧n<1048576):ofE l=0:=by
 unfold ofE
 rw[if_pos (List.all_eq_true.2 fun n hn=>by have:=h n hn;simp[this.1,this.2])]
theorem ofE_in {l:List Int} (h:ofE l=0):∀ n∈l,0≤n∧n<1048576:=by
 intro n hn
 unfold ofE at h
 split at h
 ·rename_i ha
  have:=List.all_eq_true.1 ha n hn
  simpa using this
 ·cases h
theorem Upto.perm {s:List LWd} {xs ys:List Int} (u:Upto s xs) (h:∀ n,n∈xs↔n∈ys):Upto s ys:=⟨u.ok,fun n=>(u.mem n).trans (h n)⟩
theorem rev_cases {α:Type} (l:List α) (h:l≠[]):∃ s w,l=s++[w]:=⟨l.dropLast,l.getLast h,(List.dropLast_concat_getLast h).symm⟩
theorem upto_nil:Upto [] []:=⟨OkW.nil,fun n=>⟨(fun ⟨_,h,_⟩=>by cases h),(fun h=>by cases h)⟩⟩
noncomputable def body24_0:ACode:=(.seq (.region [⟨some 17,none,(.bin .lss (.tmp 16) (.tmp 15))⟩]) (.seq (.cond (.tmp 17) .skip (.exit 0)) (.seq (.block 1 (.seq (.region [⟨some 18,none,(.idx 1 (.tmp 14) (.tmp 16))⟩,⟨some 19,none,(.load false 1 (.tmp 18))⟩,⟨some 7,none,(.mov (.tmp 19))⟩]) (.seq (.seq (.region [⟨some 20,none,(.mov (.tmp 7))⟩,⟨some 21,none,(.call (.func 29) [(.tmp 20)])⟩,⟨some 22,none,(.un .not (.tmp 21))⟩]) (.cond (.tmp 22) (.seq (.region [⟨some 2,none,(.mov (.const (.slice none 0 0)))⟩,⟨some 3,none,(.mov (.const (.int .i64 2)))⟩]) .ret) .skip)) (.seq (.region [⟨some 23,none,(.mov (.tmp 7))⟩,⟨some 24,none,(.bin .quo (.tmp 23) (.const (.int .i64 64)))⟩,⟨some 8,none,(.mov (.tmp 24))⟩]) (.seq (.seq (.region [⟨some 25,none,(.mov (.tmp 5))⟩,⟨some 26,none,(.len (.tmp 25))⟩,⟨some 9,none,(.mov (.tmp 26))⟩]) (.seq (.region [⟨some 27,none,(.mov (.tmp 9))⟩,⟨some 28,none,(.bin .eql (.tmp 27) (.const (.int .i64 0)))⟩,⟨some 29,none,(.mov (.tmp 28))⟩,⟨some 30,some (29,false),(.mov (.tmp 5))⟩,⟨some 31,some (29,false),(.mov (.tmp 9))⟩,⟨some 32,some (29,false),(.bin .sub (.tmp 31) (.const (.int .i64 1)))⟩,⟨some 33,some (29,false),(.idx 2 (.tmp 30) (.tmp 32))⟩,⟨some 34,some (29,false),(.fld 0 (.tmp 33))⟩,⟨some 35,some (29,false),(.load false 1 (.tmp 34))⟩,⟨some 36,some (29,false),(.mov (.tmp 8))⟩,⟨some 37,some (29,false),(.bin .neq (.tmp 35) (.tmp 36))⟩,⟨some 38,none,(.pick (.tmp 29) (.const (.bool true)) (.tmp 37))⟩]) (.cond (.tmp 38) (.region [⟨some 39,none,(.mov (.tmp 5))⟩,⟨some 40,none,(.mov (.tmp 8))⟩,⟨some 41,none,(.build [(.int .i64 0),(.int .u64 0)] [(0,1,(.tmp 40))])⟩,⟨some 42,none,(.buildSlice 1 2 [(.int .i64 0),(.int .u64 0)] [(0,2,(.tmp 41))])⟩,⟨some 43,none,(.append 2 (.tmp 39) (.tmp 42))⟩,⟨some 5,none,(.mov (.tmp 43))⟩]) .skip))) (.regionC [(⟨some 44,none,(.mov (.tmp 5))⟩,[]),(⟨some 45,none,(.mov (.tmp 5))⟩,[]),(⟨some 46,none,(.len (.tmp 45))⟩,[]),(⟨some 47,none,(.bin .sub (.tmp 46) (.const (.int .i64 1)))⟩,[]),(⟨some 48,none,(.idx 2 (.tmp 44) (.tmp 47))⟩,[]),(⟨some 49,none,(.fld 1 (.tmp 48))⟩,[]),(⟨some 50,none,(.load false 1 (.tmp 49))⟩,[]),(⟨some 51,none,(.mov (.tmp 7))⟩,[]),(⟨some 52,none,(.bin .rem (.tmp 51) (.const (.int .i64 64)))⟩,[]),(⟨some 53,none,(.bin .shl (.const (.int .u64 1)) (.tmp 52))⟩,[]),(⟨some 54,none,(.bin .or (.tmp 50) (.tmp 53))⟩,[]),(⟨some 55,none,(.idx 2 (.tmp 44) (.tmp 47))⟩,[]),(⟨some 56,none,(.fld 1 (.tmp 55))⟩,[]),(⟨none,none,(.store 1 (.tmp 56) (.tmp 54))⟩,[])])))))) (.region [⟨some 57,none,(.bin .add (.tmp 16) (.const (.int .i64 1)))⟩,⟨some 16,none,(.mov (.tmp 57))⟩]))))
noncomputable def body24:ACode:=(.seq (.region [⟨some 2,none,(.mov (.const (.slice none 0 0)))⟩,⟨some 3,none,(.mov (.const (.int .i64 0)))⟩]) (.seq (.region [⟨some 10,none,(.mov (.tmp 0))⟩,⟨some 11,none,(.call (.func 39) [(.tmp 10)])⟩,⟨some 4,none,(.mov (.tmp 11))⟩]) (.seq (.region [⟨some 12,none,(.mov (.tmp 4))⟩,⟨some 13,none,(.call (.func 40) [(.tmp 12)])⟩]) (.seq (.region [⟨some 5,none,(.mov (.const (.slice none 0 0)))⟩]) (.seq (.seq (.region [⟨some 14,none,(.mov (.tmp 4))⟩,⟨some 15,none,(.len (.tmp 14))⟩,⟨some 16,none,(.mov (.const (.int .i64 0)))⟩]) (.block 0 (.loop body24_0))) (.seq (.region [⟨some 58,none,(.mov (.tmp 5))⟩,⟨some 2,none,(.mov (.tmp 58))⟩,⟨some 3,none,(.mov (.const (.int .i64 0)))⟩]) .ret))))))
set_option maxRecDepth 100000 in
theorem tab24:tb.code 24=some ⟨59,[(2,none),(3,none)],body24⟩:=by kernel_rfl
theorem of_ok (h:AHeap) (v:Value) (l:List Int) (s:SlI h v l) (hl:l.length≤10000) (hm:h.mark≤h.n):
  WC Tryd.prog tb 24 [v] h fun r h'=>(∃ w t,r= .tuple #[w,I (ofE l)]∧MineW h h' w t∧(ofE l=0→Upto t l)∧(ofE l≠0→t=[]))∧Ext h h':=by
 refine WC.of (zY 24) tab24 ?_;simp only[mkTm,Nat.zero_add,Nat.reduceAdd]
 refine go ?_
 refine WO.con (clone_ok h v l s (by omega)) ?_
 rintro c h1 ⟨o1,e1⟩
 refine go ?_
 refine WO.con (sort_ok h h1 c l e1 hm o1 (by omega)) ?_
 rintro _ h2 ⟨o2,e2,_⟩
 have sl2:=o2.sl
 have hlen:=len_sortB l
 have hrise:=rise_sortB l
 have hmem:∀ n,n∈sortL l↔n∈l:=fun n=>mem_sortB
 generalize sortL l=L at *
 have hrise:=Hid.mk hrise
 have hmem:=Hid.mk hmem
 have hm2:h2.mark≤h2.n:=by have:=e2.mark;have:=e2.n;omega
 refine go ?_
 refine WX.loopA [17,18,19,7,20,21,22,2,3,23,24,8,25,26,9,27,28,29,30,31,32,33,34,35,36,37,38,39,40,41,42,43,5,44,45,46,47,48,49,50,51,52,53,54,55,56,57,16] (by kernel_rfl) (fun i=>L.length - i) (fun i t h3=>∃ w out,zA t 16=I i∧i≤L.length∧Ext h2 h3∧zA t 5=w∧OwnW h2.n h3 w out∧Hid (Upto out (L.take i))∧out.length≤i∧Hid (∀ j,j<i→0≤L.getD j 0∧L.getD j 0<1048576)) 0 ?_ ?_
 ·exact⟨_,[],sl_,Nat.zero_le _,Ext.refl _,sl_,OwnR.nil,⟨upto_nil⟩,Nat.le_refl _,⟨fun j hj=>by omega⟩⟩
 rintro i t h3 hsame ⟨w,out,s16,hi,e3,s5,ow,hU,hol,hin⟩
 have sl3:SlI h3 c L:=SlI.ext sl2 e3
 refine go ?_
 refine WX.br (fun hb=> ?_) (fun hb=> ?_)<;>simp only[DB]at hb
 ·have hi':i<L.length:=by omega
  refine go ?_
  refine WO.con (within_ok h3 (L.getD i 0)) ?_
  rintro _ _ ⟨rfl,rfl⟩
  have hmi:L.getD i 0∈L:=by rw[List.getD_eq_getElem?_getD,List.getElem?_eq_getElem hi'];exact List.getElem_mem hi'
  have htk:L.take (i+1)=L.take i++[L.getD i 0]:=by rw[List.take_add_one];simp[List.getD,List.getElem?_eq_getElem hi']
  have hle:∀ x∈L.take i,x≤L.getD i 0:=fun x hx=>by
   obtain⟨j,hj,rfl⟩:=List.getElem_of_mem hx
   rw[List.length_take]at hj
   rw[List.getElem_take,List.getD_eq_getElem?_getD,List.getElem?_eq_getElem hi']
   exact List.pairwise_iff_getElem.1 hrise.out j i (by omega) hi' (by omega)
  have hup:=upto_le hU.out hle
  by_cases hw:(decide (0≤L.getD i 0)&&decide (L.getD i 0<1048576))=false
  ·rw[hw]
   have hE:=ofE_bad ((hmem.out _).1 hmi) hw
   refine go ?_
   refine rt ?_
   rw[hE]
   exact⟨⟨_,[],rfl,MineW.nil,(fun h=>by cases h),fun _=>rfl⟩,e2.trans e3⟩
  have hw:(decide (0≤L.getD i 0)&&decide (L.getD i 0<1048576))=true:=by simpa using hw
  have hn:0≤L.getD i 0∧L.getD i 0<1048576:=by simpa using hw
  rw[hw]
  generalize hnn:L.getD i 0=n at *
  have htk:=Hid.mk htk
  have hin2:Hid (∀ j,j<i+1→0≤L.getD j 0∧L.getD j 0<1048576):=⟨fun j hj=>by
   by_cases e:j=i
   ·subst e;rw[hnn];exact hn
   ·exact hin.out j (by omega)⟩
  clear hle hmi hw
  have hup:=Hid.mk hup
  refine go ?_
  refine WO.bin zk rfl (b_quo hn.1 (by omega)) ?_
  have owl:=OwnR.sl ow
  have hm3:h3.mark≤h2.n:=by rw[e3.mark];exact hm2
  by_cases h0:out.length=0
  ·have ho:out=[]:=List.eq_nil_of_length_eq_zero h0
   subst ho
   refine go ?_
   refine WO.apRw (b:=h2.n) (R:=RW) (hB:=h2) ⟨n / 64,0⟩ (fun _=>False) ow e3 (Nat.le_refl _) e3.n (by decide) (by omega) (RW.dep (show (0:Nat)<18446744073709551616 by decide) (by simp only;omega) (by simp only;omega) _) (fun k hk=>hk.elim) (fun _ _ _ _ h=>h) ?_
   intro w5 h5 lit e5 ow5 n5 keep5 wr5
   obtain⟨va,vn,vk,rfl,_⟩:=ownR_shape ow5
   obtain⟨O5,sI,lw,hO,hsI,hlw⟩:∃ (O5 sI:List LWd) (lw:LWd),O5=sI++[lw]∧sI=[]∧lw=⟨n / 64,0⟩:=⟨_,_,_,rfl,rfl,rfl⟩
   have ow5:OwnW h2.n h5 (.slice va vn vk) O5:=by rw[hO,hsI,hlw];exact ow5
   have hsl:sI.length=0:=by rw[hsI];rfl
   have hsl:sI.length≤i:=by omega
   have hO5:O5.length=sI.length+1:=by rw[hO];simp
   have hlO:O5.length≤20000:=by omega
   refine go ?_
   refine WX.regionU2 0 rfl rfl ?_
   have owX:OwnW h2.n (zF 0 h5) (.slice va vn vk) O5:=OwnR.upd ow5 (fun _ _ _=>rfl) (Nat.le_refl _)
   have slX:SlW (inC (zF 0 h5)) (.slice va vn vk) O5:=OwnR.sl owX
   obtain⟨cs,⟨rfl,y1,y2,y3⟩,pc,hs⟩:=wd_at (i:=((O5.length:Int) - 1).toNat) slX (by omega)
   have hgl:O5.getD ((O5.length:Int) - 1).toNat default=lw:=by
    rw[show ((O5.length:Int) - 1).toNat=sI.length by omega,hO];simp[List.getD]
   rw[hgl]at y1 y2 y3 pc
   have hsh:zM .shl (W 1) (I (n % 64))=some (W (2 ^ (n % 64).toNat)):=by
    rw[show I (n % 64)=I (((n % 64).toNat:Nat):Int) by congr 1;omega];exact(u_shl1 (by omega)).1
   have hp2:2 ^ (n % 64).toNat<18446744073709551616:=(u_shl1 (k:=(n % 64).toNat) (by omega)).2
   have hor:=u_or y1 hp2
   generalize hk2:2 ^ (n % 64).toNat=k2 at hsh hp2 hor
   refine goU ?_
   refine WO.bin zk rfl (b_rem hn.1) ?_
   refine WO.nil ?_
   refine yC ?_
   refine goU ?_
   refine WO.bin rfl zk hsh ?_
   refine WO.nil ?_
   refine yC ?_
   refine goU ?_
   refine WO.bin zk zk hor.1 ?_
   refine WO.nil ?_
   refine yC ?_
   refine goU ?_
   refine WU2.stR (i:=((O5.length:Int) - 1).toNat) (off:=1) (cs:=[W (lw.bits|||k2)]) (ho:=by simp) ⟨lw.pos,lw.bits|||k2⟩ owX e5 (by rw[e5.mark];exact hm2) rfl (Nat.le_refl _) (by omega) (fun old hx hr ho=>by
    rw[hgl]at hr
    obtain⟨rfl,r1,r2,r3⟩:=hr
    exact⟨rfl,hor.2,r2,r3⟩) ?_
   intro h6 e6 ow6 n6 f6
   have hset:O5.set ((O5.length:Int) - 1).toNat ⟨lw.pos,lw.bits|||k2⟩=sI++[⟨lw.pos,lw.bits|||k2⟩]:=by
    rw[show ((O5.length:Int) - 1).toNat=sI.length by omega,hO,List.set_append_right _ _ (Nat.le_refl _),Nat.sub_self];rfl
   rw[hset]at ow6
   refine go ?_
   refine zC (i+1) (by omega) ⟨_,_,sln,by omega,e6,sl_,ow6,⟨?_⟩,by simp only[List.length_append,List.length_singleton];omega,hin2⟩
   rw[htk.out,←hk2]
   subst hlw hsI
   have:=hU.out.new hn (fun w hw=>by cases hw)
   rw[Nat.zero_or];exact this
  ·obtain⟨sI,lw,hO⟩:=rev_cases out (fun e=>h0 (by rw[e];rfl))
   have hO5:out.length=sI.length+1:=by rw[hO];simp
   obtain⟨cs,⟨rfl,y1,y2,y3⟩,pc,hs⟩:=wd_at (i:=((out.length:Int) - 1).toNat) owl (by omega)
   have hgl:out.getD ((out.length:Int) - 1).toNat default=lw:=by
    rw[show ((out.length:Int) - 1).toNat=sI.length by omega,hO];simp[List.getD]
   rw[hgl]at y1 y2 y3 pc
   by_cases hat:lw.pos=n / 64
   ·refine go ?_
    clear pc y1 y2 y3 hs hgl hO5
    obtain⟨O5,hOO⟩:∃ O5,O5=out:=⟨_,rfl⟩
    rw[←hOO]at ow hO hol
    have hsl:sI.length≤i:=by rw[hO,List.length_append,List.length_singleton]at hol;omega
    have hO5:O5.length=sI.length+1:=by rw[hO];simp
    have hlO:O5.length≤20000:=by omega
    refine go ?_
    refine WX.regionU2 0 rfl rfl ?_
    have owX:OwnW h2.n (zF 0 h3) w O5:=OwnR.upd ow (fun _ _ _=>rfl) (Nat.le_refl _)
    have slX:SlW (inC (zF 0 h3)) w O5:=OwnR.sl owX
    obtain⟨cs,⟨rfl,y1,y2,y3⟩,pc,hs⟩:=wd_at (i:=((O5.length:Int) - 1).toNat) slX (by omega)
    have hgl:O5.getD ((O5.length:Int) - 1).toNat default=lw:=by
     rw[show ((O5.length:Int) - 1).toNat=sI.length by omega,hO];simp[List.getD]
    rw[hgl]at y1 y2 y3 pc
    have hsh:zM .shl (W 1) (I (n % 64))=some (W (2 ^ (n % 64).toNat)):=by
     rw[show I (n % 64)=I (((n % 64).toNat:Nat):Int) by congr 1;omega];exact(u_shl1 (by omega)).1
    have hp2:2 ^ (n % 64).toNat<18446744073709551616:=(u_shl1 (k:=(n % 64).toNat) (by omega)).2
    have hor:=u_or y1 hp2
    generalize hk2:2 ^ (n % 64).toNat=k2 at hsh hp2 hor
    refine goU ?_
    refine WO.bin zk rfl (b_rem hn.1) ?_
    refine WO.nil ?_
    refine yC ?_
    refine goU ?_
    refine WO.bin rfl zk hsh ?_
    refine WO.nil ?_
    refine yC ?_
    refine goU ?_
    refine WO.bin zk zk hor.1 ?_
    refine WO.nil ?_
    refine yC ?_
    refine goU ?_
    refine WU2.stR (i:=((O5.length:Int) - 1).toNat) (off:=1) (cs:=[W (lw.bits|||k2)]) (ho:=by simp) ⟨lw.pos,lw.bits|||k2⟩ owX e3 (by rw[e3.mark];exact hm2) rfl (Nat.le_refl _) (by omega) (fun old hx hr ho=>by
     rw[hgl]at hr
     obtain⟨rfl,r1,r2,r3⟩:=hr
     exact⟨rfl,hor.2,r2,r3⟩) ?_
    intro h6 e6 ow6 n6 f6
    have hset:O5.set ((O5.length:Int) - 1).toNat ⟨lw.pos,lw.bits|||k2⟩=sI++[⟨lw.pos,lw.bits|||k2⟩]:=by
     rw[show ((O5.length:Int) - 1).toNat=sI.length by omega,hO,List.set_append_right _ _ (Nat.le_refl _),Nat.sub_self];rfl
    rw[hset]at ow6
    refine go ?_
    refine zC (i+1) (by omega) ⟨_,_,sln,by omega,e6,sl_,ow6,⟨?_⟩,by simp only[List.length_append,List.length_singleton];omega,hin2⟩
    rw[htk.out,←hk2]
    subst hOO
    rw[hO]at hU
    exact hU.out.old hn hat
   ·refine go ?_
    refine WO.apRw (b:=h2.n) (R:=RW) (hB:=h2) ⟨n / 64,0⟩ (fun _=>False) ow e3 (Nat.le_refl _) e3.n (by decide) (by omega) (RW.dep (show (0:Nat)<18446744073709551616 by decide) (by simp only;omega) (by simp only;omega) _) (fun k hk=>hk.elim) (fun _ _ _ _ h=>h) ?_
    intro w5 h5 lit e5 ow5 n5 keep5 wr5
    obtain⟨va,vn,vk,rfl,_⟩:=ownR_shape ow5
    clear pc y1 y2 y3 hs hgl hO5
    have hfar:∀ x∈out,x.pos<n / 64:=fun x hx=>by
     have hle:=hup.out x hx
     rcases List.mem_append.1 (hO▸hx:x∈sI++[lw])with h|h
     ·have h1:=(List.pairwise_append.1 (hO▸hU.out.ok.rise:(sI++[lw]).Pairwise _)).2.2 x h lw (by simp)
      have h2:=hup.out lw (by rw[hO];simp)
      omega
     ·rw[List.mem_singleton]at h;subst h;omega
    have hfar:=Hid.mk hfar
    clear hO
    obtain⟨O5,sI2,lw2,hO,hsI,hlw⟩:∃ (O5 sI:List LWd) (lw:LWd),O5=sI++[lw]∧sI=out∧lw=⟨n / 64,0⟩:=⟨_,_,_,rfl,rfl,rfl⟩
    have ow5:OwnW h2.n h5 (.slice va vn vk) O5:=by rw[hO,hsI,hlw];exact ow5
    have hsl:sI2.length=out.length:=by rw[hsI]
    have hsl:sI2.length≤i:=by omega
    have hO5:O5.length=sI2.length+1:=by rw[hO];simp
    have hlO:O5.length≤20000:=by omega
    refine go ?_
    refine WX.regionU2 0 rfl rfl ?_
    have owX:OwnW h2.n (zF 0 h5) (.slice va vn vk) O5:=OwnR.upd ow5 (fun _ _ _=>rfl) (Nat.le_refl _)
    have slX:SlW (inC (zF 0 h5)) (.slice va vn vk) O5:=OwnR.sl owX
    obtain⟨cs,⟨rfl,y1,y2,y3⟩,pc,hs⟩:=wd_at (i:=((O5.length:Int) - 1).toNat) slX (by omega)
    have hgl:O5.getD ((O5.length:Int) - 1).toNat default=lw2:=by
     rw[show ((O5.length:Int) - 1).toNat=sI2.length by omega,hO];simp[List.getD]
    rw[hgl]at y1 y2 y3 pc
    have hsh:zM .shl (W 1) (I (n % 64))=some (W (2 ^ (n % 64).toNat)):=by
     rw[show I (n % 64)=I (((n % 64).toNat:Nat):Int) by congr 1;omega];exact(u_shl1 (by omega)).1
    have hp2:2 ^ (n % 64).toNat<18446744073709551616:=(u_shl1 (k:=(n % 64).toNat) (by omega)).2
    have hor:=u_or y1 hp2
    generalize hk2:2 ^ (n % 64).toNat=k2 at hsh hp2 hor
    refine goU ?_
    refine WO.bin zk rfl (b_rem hn.1) ?_
    refine WO.nil ?_
    refine yC ?_
    refine goU ?_
    refine WO.bin rfl zk hsh ?_
    refine WO.nil ?_
    refine yC ?_
    refine goU ?_
    refine WO.bin zk zk hor.1 ?_
    refine WO.nil ?_
    refine yC ?_
    refine goU ?_
    refine WU2.stR (i:=((O5.length:Int) - 1).toNat) (off:=1) (cs:=[W (lw2.bits|||k2)]) (ho:=by simp) ⟨lw2.pos,lw2.bits|||k2⟩ owX e5 (by rw[e5.mark];exact hm2) rfl (Nat.le_refl _) (by omega) (fun old hx hr ho=>by
     rw[hgl]at hr
     obtain⟨rfl,r1,r2,r3⟩:=hr
     exact⟨rfl,hor.2,r2,r3⟩) ?_
    intro h6 e6 ow6 n6 f6
    have hset:O5.set ((O5.length:Int) - 1).toNat ⟨lw2.pos,lw2.bits|||k2⟩=sI2++[⟨lw2.pos,lw2.bits|||k2⟩]:=by
     rw[show ((O5.length:Int) - 1).toNat=sI2.length by omega,hO,List.set_append_right _ _ (Nat.le_refl _),Nat.sub_self];rfl
    rw[hset]at ow6
    refine go ?_
    refine zC (i+1) (by omega) ⟨_,_,sln,by omega,e6,sl_,ow6,⟨?_⟩,by simp only[List.length_append,List.length_singleton];omega,hin2⟩
    rw[htk.out,←hk2]
    subst hlw hsI
    have:=hU.out.new hn hfar.out
    rw[Nat.zero_or];exact this
 ·refine go ?_
  refine rt ?_
  have hiL:i=L.length:=by omega
  subst hiL
  rw[List.take_length]at hU
  have hE:ofE l=0:=ofE_good fun n hn=>by
   obtain⟨j,hj,e⟩:=List.getElem_of_mem ((hmem.out n).2 hn)
   have:=hin.out j hj
   rwa [List.getD_eq_getElem?_getD,List.getElem?_eq_getElem hj,Option.getD_some,e]at this
  rw[hE]
  subst s5
  exact⟨⟨_,out,rfl,⟨h2.n,e2.n,ow⟩,fun _=>hU.out.perm hmem.out,fun h=>absurd rfl h⟩,e2.trans e3⟩
end Go.Proofs.YtejjibilgmlhdaaDoor
namespace Go.Proofs.YtejjibilgmlhdaaDoor
open Go.Am
set_option maxRecDepth 1000000 in
theorem ev0_alive:(aexK Tryd.prog (codeTab Tryd.prog) 400).call 19 [] (heapL Tryd.prog.globals.size [(0,tzV)]) (fun v _=>some v)=some (.bool true):=by kernel_rfl
theorem ev_alive:((aex Tryd.prog (codeTab Tryd.prog) 400).call 19 [] (heapL Tryd.prog.globals.size [(0,tzV)])).map (·.1)=some (.bool true):=run_fast ev0_alive
set_option maxRecDepth 1000000 in
theorem alive_closed:([(0,tzV)]:List (Nat×List Value)).all (fun x=>Nat.ble (x.1+1) Tryd.prog.globals.size&&yE x.2)=true:=by kernel_rfl
set_option maxRecDepth 1000000 in
theorem tb_ok:tb.Ok Tryd.prog where
 code:=fun _ _ h=>h
 stub:=fun f s hs=>by
  have hs:(if f=19 then some (known [(0,tzV)] (.bool true)) else none)=some s:=hs
  split at hs
  ·rename_i e;subst e;cases hs
   exact known_sound Tryd.checked.mixed (codeTab_ok _) rfl (fun x hx=>by
    have h1:=List.all_eq_true.1 alive_closed x hx
    rw[Bool.and_eq_true]at h1
    exact⟨Nat.le_of_ble_eq_true h1.1,h1.2⟩) ev_alive
  ·cases hs
 grow:=fun f s hs args h v h' hk=>by
  have hs:(if f=19 then some (known [(0,tzV)] (.bool true)) else none)=some s:=hs
  split at hs
  ·cases hs;exact known_grow args h v h' hk
  ·cases hs
end Go.Proofs.YtejjibilgmlhdaaDoor
namespace Go.Proofs.YtejjibilgmlhdaaDoor
open Go.Am
set_option linter.unusedVariables false
set_option linter.unusedSimpArgs false
set_option maxHeartbeats 2000000
theorem check_of {s:List LWd} (h:OkW s):zy (-1) s=true:=(okW_iff h.bd).2 h
theorem hasE_ok {A:List LWd} {n:Int} (ha:OkW A) (hn:0≤n∧n<1048576):hasE A n=0:=by unfold hasE;rw[if_pos (check_of ha),if_pos hn]
theorem hasB_ok {A:List LWd} {n:Int} (ha:OkW A) (hn:0≤n∧n<1048576):hasB A n=inB A n:=by unfold hasB;rw[check_of ha,decide_eq_true hn];rfl
section
variable {P:Program} {tab:Tab} {t:Trie Value} {h:AHeap} {ds:List Deferred} {rd:Option Nat} {l:List AOper} {Q:AFr→AHeap→Prop}
end
theorem okk {h v s} (k:SlW h v s) (hc:zy (-1) s=true):OkW s:=(okW_iff k.bd).1 hc
end Go.Proofs.YtejjibilgmlhdaaDoor
namespace Go.Proofs.YtejjibilgmlhdaaDoor
open Go.Am
set_option linter.unusedVariables false
set_option linter.unusedSimpArgs false
set_option maxHeartbeats 4000000
theorem upto_unique {s t:List LWd} {l:List Int} (ok:OkW s) (u:Upto t l) (h:∀ n,n∈l↔InW s n):t=s:=okW_ext u.ok ok fun n=>(u.mem n).trans (h n)
theorem numsL_len (l:List LWd):(zq l).length≤64 * l.length:=by
 induction l with
 |nil=>exact Nat.le_refl _
 |cons w l ih=>rw[numsL_cons,List.length_cons];have:=bitsL_le w.bits;omega
theorem upto_len {t:List LWd} {l:List Int} (u:Upto t l):t.length≤l.length:=by
 have h1:∀ w∈t,∃ n∈l,n / 64=w.pos:=fun w hw=>by
  obtain⟨a,b,c,d⟩:=u.ok.each w hw
  obtain⟨k,hk⟩:=bits_ex c
  have hk2:=bits_lt d hk
  exact⟨64 * w.pos+k,(u.mem _).1 ⟨w,hw,by omega,by rw[show ((64 * w.pos+(k:Int)) % 64).toNat=k by omega];exact hk⟩,by omega⟩
 have h2:(t.map (·.pos)).Nodup:=by
  rw[List.Nodup,List.pairwise_map];exact u.ok.rise.imp fun h=>by omega
 have h3:(t.map (·.pos)).length≤(l.map (· / 64)).length:=List.Nodup.length_le_of_subset h2 fun x hx=>by
  obtain⟨w,hw,rfl⟩:=List.mem_map.1 hx
  obtain⟨n,hn,e⟩:=h1 w hw
  exact List.mem_map.2 ⟨n,hn,e⟩
 simpa using h3
noncomputable def body23:ACode:=(.seq (.region [⟨some 2,none,(.mov (.const (.slice none 0 0)))⟩]) (.seq (.region [⟨some 6,none,(.mov (.tmp 0))⟩,⟨some 7,none,(.call (.func 24) [(.tmp 6)])⟩,⟨some 5,none,(.mov (.tmp 7))⟩,⟨some 8,none,(.extract (.tmp 5) 0)⟩,⟨some 9,none,(.extract (.tmp 5) 1)⟩,⟨some 3,none,(.mov (.tmp 8))⟩,⟨some 4,none,(.mov (.tmp 9))⟩]) (.seq (.seq (.region [⟨some 10,none,(.mov (.tmp 4))⟩,⟨some 11,none,(.bin .neq (.tmp 10) (.const (.int .i64 0)))⟩]) (.cond (.tmp 11) (.seq (.region [⟨some 2,none,(.mov (.const (.slice none 0 0)))⟩]) .ret) .skip)) (.seq (.region [⟨some 12,none,(.mov (.tmp 3))⟩,⟨some 2,none,(.mov (.tmp 12))⟩]) .ret))))
set_option maxRecDepth 100000 in
theorem tab23:tb.code 23=some ⟨13,[(2,none)],body23⟩:=by kernel_rfl
theorem lawOf_ok (h:AHeap) (v:Value) (l:List Int) (s:SlI h v l) (hl:l.length≤10000) (hm:h.mark≤h.n) (hr:∀ n∈l,0≤n∧n<1048576):
  WC Tryd.prog tb 23 [v] h fun r h'=>(∃ t,SlW h' r t∧Upto t l)∧Ext h h':=by
 refine WC.of (zY 23) tab23 ?_;simp only[mkTm,Nat.zero_add,Nat.reduceAdd]
 refine go ?_
 refine WO.con (of_ok h v l s hl hm) ?_
 rintro _ h1 ⟨⟨w,t,rfl,m,u,_⟩,e1⟩
 have hE:=ofE_good hr
 have u:=u hE
 rw[hE]
 refine go ?_
 refine rt ?_
 exact⟨⟨t,m.sl,u⟩,e1⟩
noncomputable def body5_0:ACode:=(.seq (.seq (.region [⟨some 70,none,(.mov (.tmp 14))⟩,⟨some 71,none,(.mov (.tmp 1))⟩,⟨some 72,none,(.len (.tmp 71))⟩,⟨some 73,none,(.bin .lss (.tmp 70) (.tmp 72))⟩]) (.cond (.tmp 73) .skip (.exit 2))) (.seq (.block 3 (.regionC [(⟨some 76,none,(.mov (.tmp 13))⟩,[]),(⟨some 77,none,(.mov (.tmp 76))⟩,[]),(⟨some 78,some (77,false),(.mov (.tmp 1))⟩,[]),(⟨some 79,some (77,false),(.mov (.tmp 14))⟩,[]),(⟨some 80,some (77,false),(.idx 1 (.tmp 78) (.tmp 79))⟩,[]),(⟨some 81,some (77,false),(.load false 1 (.tmp 80))⟩,[]),(⟨some 82,some (77,false),(.mov (.tmp 10))⟩,[]),(⟨some 83,some (77,false),(.mov (.tmp 12))⟩,[]),(⟨some 84,some (77,false),(.idx 1 (.tmp 82) (.tmp 83))⟩,[]),(⟨some 85,some (77,false),(.load false 1 (.tmp 84))⟩,[]),(⟨some 86,some (77,false),(.bin .eql (.tmp 81) (.tmp 85))⟩,[]),(⟨some 87,none,(.pick (.tmp 77) (.const (.bool true)) (.tmp 86))⟩,[]),(⟨some 13,none,(.mov (.tmp 87))⟩,[])])) (.region [⟨some 74,none,(.mov (.tmp 14))⟩,⟨some 75,none,(.bin .add (.tmp 74) (.const (.int .i64 1)))⟩,⟨some 14,none,(.mov (.tmp 75))⟩])))
noncomputable def body5_1:ACode:=(.seq (.seq (.region [⟨some 64,none,(.mov (.tmp 12))⟩,⟨some 65,none,(.mov (.tmp 10))⟩,⟨some 66,none,(.len (.tmp 65))⟩,⟨some 67,none,(.bin .lss (.tmp 64) (.tmp 66))⟩]) (.cond (.tmp 67) .skip (.exit 0))) (.seq (.block 1 (.seq (.region [⟨some 13,none,(.mov (.const (.bool false)))⟩]) (.seq (.seq (.region [⟨some 14,none,(.mov (.const (.int .i64 0)))⟩]) (.block 2 (.loop body5_0))) (.seq (.regionC [(⟨some 88,none,(.mov (.tmp 13))⟩,[]),(⟨some 89,none,(.un .not (.tmp 88))⟩,[]),(⟨some 90,none,(.mov (.tmp 89))⟩,[]),(⟨some 91,some (90,false),(.mov (.tmp 12))⟩,[]),(⟨some 92,some (90,false),(.bin .gtr (.tmp 91) (.const (.int .i64 0)))⟩,[]),(⟨some 93,some (90,false),(.mov (.tmp 92))⟩,[]),(⟨some 94,some (93,true),(.mov (.tmp 10))⟩,[]),(⟨some 95,some (93,true),(.mov (.tmp 12))⟩,[]),(⟨some 96,some (93,true),(.bin .sub (.tmp 95) (.const (.int .i64 1)))⟩,[]),(⟨some 97,some (93,true),(.idx 1 (.tmp 94) (.tmp 96))⟩,[]),(⟨some 98,some (93,true),(.load false 1 (.tmp 97))⟩,[]),(⟨some 99,some (93,true),(.mov (.tmp 10))⟩,[]),(⟨some 100,some (93,true),(.mov (.tmp 12))⟩,[]),(⟨some 101,some (93,true),(.idx 1 (.tmp 99) (.tmp 100))⟩,[]),(⟨some 102,some (93,true),(.load false 1 (.tmp 101))⟩,[]),(⟨some 103,some (93,true),(.bin .geq (.tmp 98) (.tmp 102))⟩,[]),(⟨some 104,some (90,false),(.pick (.tmp 93) (.tmp 103) (.const (.bool false)))⟩,[]),(⟨some 105,none,(.pick (.tmp 90) (.const (.bool true)) (.tmp 104))⟩,[])]) (.cond (.tmp 105) (.seq (.region [⟨some 4,none,(.mov (.const (.bool false)))⟩]) .ret) .skip))))) (.region [⟨some 68,none,(.mov (.tmp 12))⟩,⟨some 69,none,(.bin .add (.tmp 68) (.const (.int .i64 1)))⟩,⟨some 12,none,(.mov (.tmp 69))⟩])))
noncomputable def body5_2:ACode:=(.seq (.seq (.region [⟨some 106,none,(.mov (.tmp 15))⟩,⟨some 107,none,(.mov (.tmp 1))⟩,⟨some 108,none,(.len (.tmp 107))⟩,⟨some 109,none,(.bin .lss (.tmp 106) (.tmp 108))⟩]) (.cond (.tmp 109) .skip (.exit 4))) (.seq (.block 5 (.seq (.region [⟨some 113,none,(.mov (.tmp 8))⟩,⟨some 114,none,(.mov (.tmp 1))⟩,⟨some 115,none,(.mov (.tmp 15))⟩,⟨some 116,none,(.idx 1 (.tmp 114) (.tmp 115))⟩,⟨some 117,none,(.load false 1 (.tmp 116))⟩,⟨some 118,none,(.call (.func 10) [(.tmp 113),(.tmp 117)])⟩,⟨some 112,none,(.mov (.tmp 118))⟩,⟨some 119,none,(.extract (.tmp 112) 0)⟩,⟨some 120,none,(.extract (.tmp 112) 1)⟩,⟨some 16,none,(.mov (.tmp 119))⟩,⟨some 17,none,(.mov (.tmp 120))⟩]) (.seq (.region [⟨some 121,none,(.mov (.tmp 16))⟩,⟨some 122,none,(.un .not (.tmp 121))⟩,⟨some 123,none,(.mov (.tmp 122))⟩,⟨some 124,some (123,false),(.mov (.tmp 17))⟩,⟨some 125,some (123,false),(.bin .neq (.tmp 124) (.const (.int .i64 0)))⟩,⟨some 126,none,(.pick (.tmp 123) (.const (.bool true)) (.tmp 125))⟩]) (.cond (.tmp 126) (.seq (.region [⟨some 4,none,(.mov (.const (.bool false)))⟩]) .ret) .skip)))) (.region [⟨some 110,none,(.mov (.tmp 15))⟩,⟨some 111,none,(.bin .add (.tmp 110) (.const (.int .i64 1)))⟩,⟨some 15,none,(.mov (.tmp 111))⟩])))
noncomputable def body5:ACode:=(.seq (.region [⟨some 4,none,(.mov (.const (.bool false)))⟩]) (.seq (.region [⟨some 18,none,(.call (.func 19) [])⟩,⟨some 5,none,(.mov (.tmp 18))⟩]) (.seq (.seq (.region [⟨some 19,none,(.mov (.tmp 0))⟩,⟨some 20,none,(.len (.tmp 19))⟩,⟨some 21,none,(.bin .gtr (.tmp 20) (.const (.int .i64 10)))⟩,⟨some 22,none,(.mov (.tmp 21))⟩,⟨some 23,some (22,false),(.mov (.tmp 1))⟩,⟨some 24,some (22,false),(.len (.tmp 23))⟩,⟨some 25,some (22,false),(.bin .gtr (.tmp 24) (.const (.int .i64 200)))⟩,⟨some 26,none,(.pick (.tmp 22) (.const (.bool true)) (.tmp 25))⟩,⟨some 27,none,(.mov (.tmp 26))⟩,⟨some 28,some (27,false),(.mov (.tmp 5))⟩,⟨some 29,some (27,false),(.un .not (.tmp 28))⟩,⟨some 30,none,(.pick (.tmp 27) (.const (.bool true)) (.tmp 29))⟩]) (.cond (.tmp 30) (.seq (.region [⟨some 31,none,(.mov (.tmp 5))⟩,⟨some 4,none,(.mov (.tmp 31))⟩]) .ret) .skip)) (.seq (.region [⟨some 33,none,(.mov (.tmp 0))⟩,⟨some 34,none,(.call (.func 8) [(.tmp 33)])⟩,⟨some 32,none,(.mov (.tmp 34))⟩,⟨some 35,none,(.extract (.tmp 32) 0)⟩,⟨some 36,none,(.extract (.tmp 32) 1)⟩,⟨some 6,none,(.mov (.tmp 35))⟩,⟨some 7,none,(.mov (.tmp 36))⟩]) (.seq (.seq (.region [⟨some 37,none,(.mov (.tmp 7))⟩,⟨some 38,none,(.bin .eql (.tmp 37) (.const (.int .i64 0)))⟩,⟨some 39,none,(.mov (.tmp 38))⟩,⟨some 40,some (39,true),(.mov (.tmp 6))⟩,⟨some 41,some (39,true),(.call (.func 23) [(.tmp 40)])⟩,⟨some 42,some (39,true),(.mov (.tmp 0))⟩,⟨some 43,some (39,true),(.call (.func 17) [(.tmp 41),(.tmp 42)])⟩,⟨some 44,some (39,true),(.un .not (.tmp 43))⟩,⟨some 45,none,(.pick (.tmp 39) (.tmp 44) (.const (.bool false)))⟩]) (.cond (.tmp 45) (.seq (.region [⟨some 4,none,(.mov (.const (.bool false)))⟩]) .ret) .skip)) (.seq (.region [⟨some 47,none,(.mov (.tmp 1))⟩,⟨some 48,none,(.call (.func 24) [(.tmp 47)])⟩,⟨some 46,none,(.mov (.tmp 48))⟩,⟨some 49,none,(.extract (.tmp 46) 0)⟩,⟨some 50,none,(.extract (.tmp 46) 1)⟩,⟨some 8,none,(.mov (.tmp 49))⟩,⟨some 9,none,(.mov (.tmp 50))⟩]) (.seq (.seq (.region [⟨some 51,none,(.mov (.tmp 9))⟩,⟨some 52,none,(.bin .neq (.tmp 51) (.const (.int .i64 0)))⟩]) (.cond (.tmp 52) (.seq (.region [⟨some 53,none,(.mov (.tmp 5))⟩,⟨some 54,none,(.mov (.tmp 53))⟩,⟨some 55,some (54,true),(.mov (.tmp 8))⟩,⟨some 56,some (54,true),(.len (.tmp 55))⟩,⟨some 57,some (54,true),(.bin .eql (.tmp 56) (.const (.int .i64 0)))⟩,⟨some 58,none,(.pick (.tmp 54) (.tmp 57) (.const (.bool false)))⟩,⟨some 4,none,(.mov (.tmp 58))⟩]) .ret) .skip)) (.seq (.region [⟨some 60,none,(.mov (.tmp 8))⟩,⟨some 61,none,(.call (.func 8) [(.tmp 60)])⟩,⟨some 59,none,(.mov (.tmp 61))⟩,⟨some 62,none,(.extract (.tmp 59) 0)⟩,⟨some 63,none,(.extract (.tmp 59) 1)⟩,⟨some 10,none,(.mov (.tmp 62))⟩,⟨some 11,none,(.mov (.tmp 63))⟩]) (.seq (.seq (.region [⟨some 12,none,(.mov (.const (.int .i64 0)))⟩]) (.block 0 (.loop body5_1))) (.seq (.seq (.region [⟨some 15,none,(.mov (.const (.int .i64 0)))⟩]) (.block 4 (.loop body5_2))) (.seq (.region [⟨some 127,none,(.mov (.tmp 5))⟩,⟨some 128,none,(.mov (.tmp 127))⟩,⟨some 129,some (128,true),(.mov (.tmp 11))⟩,⟨some 130,some (128,true),(.bin .eql (.tmp 129) (.const (.int .i64 0)))⟩,⟨some 131,none,(.pick (.tmp 128) (.tmp 130) (.const (.bool false)))⟩,⟨some 132,none,(.mov (.tmp 131))⟩,⟨some 133,some (132,true),(.mov (.tmp 8))⟩,⟨some 134,some (132,true),(.call (.func 15) [(.tmp 133)])⟩,⟨some 135,some (132,true),(.bin .eql (.tmp 134) (.const (.int .i64 0)))⟩,⟨some 136,none,(.pick (.tmp 132) (.tmp 135) (.const (.bool false)))⟩,⟨some 4,none,(.mov (.tmp 136))⟩]) .ret)))))))))))
set_option maxRecDepth 100000 in
theorem tab5:tb.code 5=some ⟨137,[(4,none)],body5⟩:=by kernel_rfl
theorem BitsBack_ok (h:AHeap) (va:Value) (A:List LWd) (vl:Value) (l:List Int) (T:TzT h) (hm:h.mark≤h.n) (ka:SlW h va A) (sl:SlI h vl l) (la:(A.length:Int)≤1152921504606846976) (ll:(l.length:Int)≤1152921504606846976):
  WC Tryd.prog tb 5 [va,vl] h fun r _=>r= .bool true:=by
 refine WC.of (zY 5) tab5 ?_;simp only[mkTm,Nat.zero_add,Nat.reduceAdd]
 refine go ?_
 refine WO.con (alive_ok h T.1) ?_
 rintro _ _ ⟨rfl,rfl⟩
 by_cases c1:10<(A.length:Int)
 ·refine go ?_
  refine rt ?_
  rfl
 by_cases c2:200<(l.length:Int)
 ·refine go ?_
  refine rt ?_
  rfl
 refine go ?_
 refine WO.con (list_ok h va A ka T (by omega) hm) ?_
 rintro _ h1 ⟨⟨vk,rfl,ok⟩,e1⟩
 have hm1:h1.mark≤h1.n:=by have:=e1.mark;have:=e1.n;omega
 have ka1:=SlW.ext ka e1
 have sl1:=SlI.ext sl e1
 have T1:=T.ext e1
 refine go ?_
 refine WO.mid 6 (fun t h'=>Ext h1 h'∧zA t 45= .bool false) ?_ ?_
 ·by_cases hc:zy (-1) A=true
  case neg=>
   have hc:zy (-1) A=false:=by simpa using hc
   rw[hc,show errW false=8 from rfl]
   refine go ?_
   exact⟨rfl,rfl,Ext.refl _,sl_⟩
  have oA:=okk ka hc
  have hA:=Hid.mk oA
  rw[hc,if_pos rfl]at ok
  rw[hc,show errW true=0 from rfl]
  have hnl:=numsL_len A
  refine go ?_
  refine WO.con (lawOf_ok h1 vk (zq A) ok.sl (by omega) hm1 (fun n hn=>((mem_numsL oA).1 hn).range oA)) ?_
  rintro r h2 ⟨⟨t,kt,u⟩,e2⟩
  have ht:t=A:=upto_unique oA u fun n=>mem_numsL oA
  refine go ?_
  refine WO.con (same_ok h2 r va t A kt (SlW.ext ka1 e2) (by rw[ht];omega)) ?_
  rintro _ _ ⟨rfl,rfl⟩
  rw[decide_eq_true ht]
  refine go ?_
  exact⟨rfl,rfl,e2,sl_⟩
 rintro t h2 hsame ⟨e2,s45⟩
 have hm2:h2.mark≤h2.n:=by have:=e2.mark;have:=e2.n;omega
 have sl2:=SlI.ext sl1 e2
 have T2:=T1.ext e2
 clear ok ka1 sl1 T1 e1 ka sl T hm hm1
 refine go ?_
 refine WO.con (of_ok h2 vl l sl2 (by omega) hm2) ?_
 rintro _ h3 ⟨⟨w,tt,rfl,m,hu,hbad⟩,e3⟩
 have mt:=m.sl
 by_cases hE:ofE l=0
 case neg=>
  have htt:=hbad hE
  subst htt
  refine go ?_
  refine rt ?_
  rfl
 have u:=hu hE
 rw[hE]
 clear hu hbad m
 have hr:=ofE_in hE
 have hul:=upto_len u
 have hm3:h3.mark≤h3.n:=by have:=e3.mark;have:=e3.n;omega
 have T3:=T2.ext e3
 have sl3:=SlI.ext sl2 e3
 refine go ?_
 refine WO.con (list_ok h3 w tt mt T3 (by omega) hm3) ?_
 rintro _ h4 ⟨⟨vm,rfl,om⟩,e4⟩
 rw[check_of u.ok,if_pos rfl]at om
 rw[check_of u.ok,show errW true=0 from rfl]
 have sm:=om.sl
 have sl4:=SlI.ext sl3 e4
 have mt4:=SlW.ext mt e4
 have hnl:=numsL_len tt
 have hmm:∀ n,n∈zq tt↔n∈l:=fun n=>(mem_numsL u.ok).trans (u.mem n)
 have hrise:=numsL_rise u.ok
 generalize hM:zq tt=M at *
 have hmm:=Hid.mk hmm
 have hrise:=Hid.mk hrise
 have hr:=Hid.mk hr
 have u:=Hid.mk u
 clear om hM e2 e3 e4
 refine go ?_
 refine WX.loopA [64,65,66,67,13,14,70,71,72,73,76,77,78,79,80,81,82,83,84,85,86,87,13,74,75,14,88,89,90,91,92,93,94,95,96,97,98,99,100,101,102,103,104,105,4,68,69,12] (by kernel_rfl) (fun i=>M.length - i) (fun i t h'=>h4=h'∧zA t 12=I i∧i≤M.length) 0 ?_ ?_
 ·exact⟨rfl,sl_,Nat.zero_le _⟩
 ·rintro i t5 _ hsame5 ⟨rfl,s12,hi⟩
  refine go ?_
  refine WX.br (fun hb=> ?_) (fun hb=> ?_)<;>simp only[DB]at hb
  ·have hi':i<M.length:=by omega
   refine go ?_
   refine WX.loopA [70,71,72,73,76,77,78,79,80,81,82,83,84,85,86,87,13,74,75,14] (by kernel_rfl) (fun j=>l.length - j) (fun j t h'=>h4=h'∧zA t 14=I j∧j≤l.length∧∃ b,zA t 13= .bool b∧Hid (b=true↔∃ k,k<j∧l.getD k 0=M.getD i 0)) 0 ?_ ?_
   ·exact⟨rfl,sl_,Nat.zero_le _,false,sl_,⟨⟨fun h=>(by cases h),fun ⟨k,hk,_⟩=>absurd hk (Nat.not_lt_zero _)⟩⟩⟩
   ·rintro j t6 _ hsame6 ⟨rfl,s14,hj,b,s13,hB⟩
    refine go ?_
    refine WX.br (fun hb2=> ?_) (fun hb2=> ?_)<;>simp only[DB]at hb2
    ·have hj':j<l.length:=by omega
     cases b with
     |true=>
      refine go ?_
      exact zC (j+1) (by omega) ⟨rfl,sln,by omega,true,sl_,⟨⟨fun _=>let ⟨k,hk,e⟩:=hB.out.1 rfl;⟨k,by omega,e⟩,fun _=>rfl⟩⟩⟩
     |false=>
      refine go ?_
      refine zC (j+1) (by omega) ⟨rfl,sln,by omega,_,sl_,⟨?_⟩⟩
      rw[decide_eq_true_iff]
      constructor
      ·intro e;exact⟨j,by omega,e⟩
      ·rintro⟨k,hk,e⟩
       by_cases hkj:k=j
       ·subst hkj;exact e
       ·exact absurd (hB.out.2 ⟨k,by omega,e⟩) (by simp)
    ·have hb1:b=true:=by
      refine hB.out.2 ?_
      have hin:M.getD i 0∈l:=(hmm.out _).1 (by rw[List.getD_eq_getElem?_getD,List.getElem?_eq_getElem hi'];exact List.getElem_mem hi')
      obtain⟨k,hk,e⟩:=List.getElem_of_mem hin
      exact⟨k,by omega,by rw[List.getD_eq_getElem?_getD (l:=l),List.getElem?_eq_getElem hk];exact e⟩
     subst hb1
     by_cases hi0:0<(i:Int)
     ·have hlt:M.getD (((i:Int) - 1).toNat) 0<M.getD i 0:=by
       rw[List.getD_eq_getElem?_getD,List.getD_eq_getElem?_getD,List.getElem?_eq_getElem hi',List.getElem?_eq_getElem (show ((i:Int) - 1).toNat<M.length by omega)]
       exact List.pairwise_iff_getElem.1 hrise.out _ _ _ _ (by omega)
      refine go ?_
      exact zC (i+1) (by omega) ⟨rfl,sln,by omega⟩
     ·refine go ?_
      exact zC (i+1) (by omega) ⟨rfl,sln,by omega⟩
  ·refine go ?_
   refine WX.loopA [106,107,108,109,113,114,115,116,117,118,112,119,120,16,17,121,122,123,124,125,126,4,110,111,15] (by kernel_rfl) (fun j=>l.length - j) (fun j t h'=>Ext h4 h'∧zA t 15=I j∧j≤l.length) 0 ?_ ?_
   ·exact⟨Ext.refl _,sl_,Nat.zero_le _⟩
   ·rintro j t6 h5 hsame6 ⟨e5,s15,hj⟩
    have sl5:=SlI.ext sl4 e5
    have mt5:=SlW.ext mt4 e5
    refine go ?_
    refine WX.br (fun hb2=> ?_) (fun hb2=> ?_)<;>simp only[DB]at hb2
    ·have hj':j<l.length:=by omega
     have hmem:l.getD j 0∈l:=by rw[List.getD_eq_getElem?_getD,List.getElem?_eq_getElem hj'];exact List.getElem_mem hj'
     have hrj:=hr.out _ hmem
     have hin:inB tt (l.getD j 0)=true:=inB_iff.2 ((u.out.mem _).2 hmem)
     refine go ?_
     refine WO.con (has_ok h5 w tt (l.getD j 0) mt5 (by omega)) ?_
     rintro _ h6 ⟨rfl,e6⟩
     rw[hasE_ok u.out.ok hrj,hasB_ok u.out.ok hrj,hin]
     refine go ?_
     exact zC (j+1) (by omega) ⟨e5.trans e6,sln,by omega⟩
    ·refine go ?_
     refine WO.con (check_ok h5 w tt mt5 (by omega)) ?_
     rintro _ h6 ⟨rfl,e6⟩
     rw[check_of u.out.ok,show errW true=0 from rfl]
     refine go ?_
     refine rt ?_
     rfl
end Go.Proofs.YtejjibilgmlhdaaDoor
namespace Go.Proofs.YtejjibilgmlhdaaDoor
open Go.Am
set_option linter.unusedVariables false
set_option linter.unusedSimpArgs false
theorem wf_u64 {n:Int} (h:(Lit.int .u64 n).wf=true):0≤n∧n≤18446744073709551615:=by
 simp[Lit.wf,IntKind.wrap,IntKind.signed,IntKind.bits]at h
 have h1:IntKind.min .u64=0:=by decide
 have h2:IntKind.max .u64=18446744073709551615:=by decide
 omega
theorem wf_i64 {n:Int} (h:(Lit.int .i64 n).wf=true): -9223372036854775808≤n∧n≤9223372036854775807:=by
 simp[Lit.wf,IntKind.wrap,IntKind.signed,IntKind.bits]at h
 have h1:IntKind.min .i64= -9223372036854775808:=by decide
 have h2:IntKind.max .i64=9223372036854775807:=by decide
 omega
theorem lenW2 {l:List Value} (h:l.length=2):∃ a b,l=[a,b]:=by
 match l,h with
 |[a,b],_=>exact⟨a,b,rfl⟩
theorem rd_word {H:Type} {h:AHeap} (cs:List Value) (d:DataW H) (r:Rd Tryd.prog h 52 cs d) (hw:wOk Tryd.prog 52 d):∃ a,RW h cs a:=by
 obtain⟨hl,hr⟩:=rd_structW r Tryd.underlying52 hw
 have hc:Tryd.prog.cellsOf 52=2:=by kernel_rfl
 rw[hc]at hl
 obtain⟨x0,x1,rfl⟩:=lenW2 hl
 obtain⟨d0,r0,w0⟩:=hr 0 _ rfl
 have c0:Tryd.prog.cellsOf 3=1:=by kernel_rfl
 replace r0:Rd Tryd.prog h 3 (([x0,x1].drop 0).take (Tryd.prog.cellsOf 3)) d0:=r0
 rw[c0]at r0
 replace r0:Rd Tryd.prog h 3 [x0] d0:=r0
 obtain⟨d1,r1,w1⟩:=hr 1 _ rfl
 have c1:Tryd.prog.cellsOf 50=1:=by kernel_rfl
 replace r1:Rd Tryd.prog h 50 (([x0,x1].drop 1).take (Tryd.prog.cellsOf 50)) d1:=r1
 rw[c1]at r1
 replace r1:Rd Tryd.prog h 50 [x1] d1:=r1
 obtain⟨a,e0,f0⟩:=rd_int r0 Tryd.underlying3
 cases e0
 obtain⟨b,e1,f1⟩:=rd_int r1 Tryd.underlying50
 cases e1
 have g0:=wf_i64 f0
 have g1:=wf_u64 f1
 obtain⟨m,rfl⟩:∃ m:Nat,b=m:=⟨b.toNat,by omega⟩
 exact⟨⟨a,m⟩,rfl,by simp only;omega,g0.1,g0.2⟩
end Go.Proofs.YtejjibilgmlhdaaDoor
