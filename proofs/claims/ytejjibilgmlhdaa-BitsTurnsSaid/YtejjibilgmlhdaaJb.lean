/- What functions of the program come to in the abstract machine, and plain laws about it; no statement of the seat is proved in this text. -/
import Derived.Test.YtejjibilgmlhdaaJa
import Derived.Test.YtejjibilgmlhdaaAmV
import Derived.Test.YtejjibilgmlhdaaAmU
namespace Go.Proofs.Ytejjibilgmlhdaa
open Go.Am
set_option linter.unusedVariables false
set_option linter.unusedSimpArgs false
set_option maxHeartbeats 1000000
theorem srt_swp {a b i j:Int} {zs:List Int} (h0:0≤a) (hi:b≤i∧i<zs.length) (hj:b≤j∧j<zs.length) (s:Srt a b zs):Srt a b (swp zs i j):=fun p q h1 h2 h3=>by
 rw[zu (by omega) (by omega) (by omega),zu (by omega) (by omega) (by omega),if_neg (by omega),if_neg (by omega),if_neg (by omega),if_neg (by omega)]
 exact s p q h1 h2 h3
noncomputable def body41_0:ACode:=(.seq (.seq (.regionC [(⟨some 17,none,(.mov (.tmp 7))⟩,[]),(⟨some 18,none,(.mov (.tmp 2))⟩,[]),(⟨some 19,none,(.bin .lss (.tmp 17) (.tmp 18))⟩,[]),(⟨some 20,none,(.mov (.tmp 19))⟩,[]),(⟨some 21,some (20,true),(.mov (.tmp 0))⟩,[]),(⟨some 22,some (20,true),(.mov (.tmp 7))⟩,[]),(⟨some 23,some (20,true),(.idx 1 (.tmp 21) (.tmp 22))⟩,[]),(⟨some 24,some (20,true),(.load false 1 (.tmp 23))⟩,[]),(⟨some 25,some (20,true),(.mov (.tmp 0))⟩,[]),(⟨some 26,some (20,true),(.mov (.tmp 7))⟩,[]),(⟨some 27,some (20,true),(.bin .sub (.tmp 26) (.const (.int .i64 1)))⟩,[]),(⟨some 28,some (20,true),(.idx 1 (.tmp 25) (.tmp 27))⟩,[]),(⟨some 29,some (20,true),(.load false 1 (.tmp 28))⟩,[]),(⟨some 30,some (20,true),(.call (.func 42) [(.tmp 24),(.tmp 29)])⟩,[]),(⟨some 31,some (20,true),(.un .not (.tmp 30))⟩,[]),(⟨some 32,none,(.pick (.tmp 20) (.tmp 31) (.const (.bool false)))⟩,[])]) (.cond (.tmp 32) .skip (.exit 2))) (.block 3 (.region [⟨some 33,none,(.mov (.tmp 7))⟩,⟨some 34,none,(.bin .add (.tmp 33) (.const (.int .i64 1)))⟩,⟨some 7,none,(.mov (.tmp 34))⟩])))
noncomputable def body41_1:ACode:=(.seq (.seq (.region [⟨some 64,none,(.mov (.tmp 9))⟩,⟨some 65,none,(.bin .geq (.tmp 64) (.const (.int .i64 1)))⟩]) (.cond (.tmp 65) .skip (.exit 4))) (.seq (.block 5 (.seq (.seq (.regionC [(⟨some 68,none,(.mov (.tmp 0))⟩,[]),(⟨some 69,none,(.mov (.tmp 9))⟩,[]),(⟨some 70,none,(.idx 1 (.tmp 68) (.tmp 69))⟩,[]),(⟨some 71,none,(.load false 1 (.tmp 70))⟩,[]),(⟨some 72,none,(.mov (.tmp 0))⟩,[]),(⟨some 73,none,(.mov (.tmp 9))⟩,[]),(⟨some 74,none,(.bin .sub (.tmp 73) (.const (.int .i64 1)))⟩,[]),(⟨some 75,none,(.idx 1 (.tmp 72) (.tmp 74))⟩,[]),(⟨some 76,none,(.load false 1 (.tmp 75))⟩,[]),(⟨some 77,none,(.call (.func 42) [(.tmp 71),(.tmp 76)])⟩,[]),(⟨some 78,none,(.un .not (.tmp 77))⟩,[])]) (.cond (.tmp 78) (.exit 4) .skip)) (.regionC [(⟨some 79,none,(.mov (.tmp 0))⟩,[]),(⟨some 80,none,(.mov (.tmp 9))⟩,[]),(⟨some 81,none,(.mov (.tmp 0))⟩,[]),(⟨some 82,none,(.mov (.tmp 9))⟩,[]),(⟨some 83,none,(.bin .sub (.tmp 82) (.const (.int .i64 1)))⟩,[]),(⟨some 84,none,(.mov (.tmp 0))⟩,[]),(⟨some 85,none,(.mov (.tmp 9))⟩,[]),(⟨some 86,none,(.bin .sub (.tmp 85) (.const (.int .i64 1)))⟩,[]),(⟨some 87,none,(.idx 1 (.tmp 84) (.tmp 86))⟩,[]),(⟨some 88,none,(.load false 1 (.tmp 87))⟩,[]),(⟨some 89,none,(.mov (.tmp 0))⟩,[]),(⟨some 90,none,(.mov (.tmp 9))⟩,[]),(⟨some 91,none,(.idx 1 (.tmp 89) (.tmp 90))⟩,[]),(⟨some 92,none,(.load false 1 (.tmp 91))⟩,[]),(⟨some 93,none,(.idx 1 (.tmp 79) (.tmp 80))⟩,[]),(⟨none,none,(.store 1 (.tmp 93) (.tmp 88))⟩,[]),(⟨some 94,none,(.idx 1 (.tmp 81) (.tmp 83))⟩,[]),(⟨none,none,(.store 1 (.tmp 94) (.tmp 92))⟩,[])]))) (.region [⟨some 66,none,(.mov (.tmp 9))⟩,⟨some 67,none,(.bin .sub (.tmp 66) (.const (.int .i64 1)))⟩,⟨some 9,none,(.mov (.tmp 67))⟩])))
noncomputable def body41_2:ACode:=(.seq (.seq (.region [⟨some 101,none,(.mov (.tmp 10))⟩,⟨some 102,none,(.mov (.tmp 2))⟩,⟨some 103,none,(.bin .lss (.tmp 101) (.tmp 102))⟩]) (.cond (.tmp 103) .skip (.exit 6))) (.seq (.block 7 (.seq (.seq (.regionC [(⟨some 106,none,(.mov (.tmp 0))⟩,[]),(⟨some 107,none,(.mov (.tmp 10))⟩,[]),(⟨some 108,none,(.idx 1 (.tmp 106) (.tmp 107))⟩,[]),(⟨some 109,none,(.load false 1 (.tmp 108))⟩,[]),(⟨some 110,none,(.mov (.tmp 0))⟩,[]),(⟨some 111,none,(.mov (.tmp 10))⟩,[]),(⟨some 112,none,(.bin .sub (.tmp 111) (.const (.int .i64 1)))⟩,[]),(⟨some 113,none,(.idx 1 (.tmp 110) (.tmp 112))⟩,[]),(⟨some 114,none,(.load false 1 (.tmp 113))⟩,[]),(⟨some 115,none,(.call (.func 42) [(.tmp 109),(.tmp 114)])⟩,[]),(⟨some 116,none,(.un .not (.tmp 115))⟩,[])]) (.cond (.tmp 116) (.exit 6) .skip)) (.regionC [(⟨some 117,none,(.mov (.tmp 0))⟩,[]),(⟨some 118,none,(.mov (.tmp 10))⟩,[]),(⟨some 119,none,(.mov (.tmp 0))⟩,[]),(⟨some 120,none,(.mov (.tmp 10))⟩,[]),(⟨some 121,none,(.bin .sub (.tmp 120) (.const (.int .i64 1)))⟩,[]),(⟨some 122,none,(.mov (.tmp 0))⟩,[]),(⟨some 123,none,(.mov (.tmp 10))⟩,[]),(⟨some 124,none,(.bin .sub (.tmp 123) (.const (.int .i64 1)))⟩,[]),(⟨some 125,none,(.idx 1 (.tmp 122) (.tmp 124))⟩,[]),(⟨some 126,none,(.load false 1 (.tmp 125))⟩,[]),(⟨some 127,none,(.mov (.tmp 0))⟩,[]),(⟨some 128,none,(.mov (.tmp 10))⟩,[]),(⟨some 129,none,(.idx 1 (.tmp 127) (.tmp 128))⟩,[]),(⟨some 130,none,(.load false 1 (.tmp 129))⟩,[]),(⟨some 131,none,(.idx 1 (.tmp 117) (.tmp 118))⟩,[]),(⟨none,none,(.store 1 (.tmp 131) (.tmp 126))⟩,[]),(⟨some 132,none,(.idx 1 (.tmp 119) (.tmp 121))⟩,[]),(⟨none,none,(.store 1 (.tmp 132) (.tmp 130))⟩,[])]))) (.region [⟨some 104,none,(.mov (.tmp 10))⟩,⟨some 105,none,(.bin .add (.tmp 104) (.const (.int .i64 1)))⟩,⟨some 10,none,(.mov (.tmp 105))⟩])))
noncomputable def body41_3:ACode:=(.seq (.seq (.region [⟨some 13,none,(.mov (.tmp 8))⟩,⟨some 14,none,(.bin .lss (.tmp 13) (.const (.int .i64 5)))⟩]) (.cond (.tmp 14) .skip (.exit 0))) (.seq (.block 1 (.seq (.block 2 (.loop body41_0)) (.seq (.seq (.region [⟨some 35,none,(.mov (.tmp 7))⟩,⟨some 36,none,(.mov (.tmp 2))⟩,⟨some 37,none,(.bin .eql (.tmp 35) (.tmp 36))⟩]) (.cond (.tmp 37) (.seq (.region [⟨some 6,none,(.mov (.const (.bool true)))⟩]) .ret) .skip)) (.seq (.seq (.region [⟨some 38,none,(.mov (.tmp 2))⟩,⟨some 39,none,(.mov (.tmp 1))⟩,⟨some 40,none,(.bin .sub (.tmp 38) (.tmp 39))⟩,⟨some 41,none,(.bin .lss (.tmp 40) (.const (.int .i64 50)))⟩]) (.cond (.tmp 41) (.seq (.region [⟨some 6,none,(.mov (.const (.bool false)))⟩]) .ret) .skip)) (.seq (.regionC [(⟨some 42,none,(.mov (.tmp 0))⟩,[]),(⟨some 43,none,(.mov (.tmp 7))⟩,[]),(⟨some 44,none,(.mov (.tmp 0))⟩,[]),(⟨some 45,none,(.mov (.tmp 7))⟩,[]),(⟨some 46,none,(.bin .sub (.tmp 45) (.const (.int .i64 1)))⟩,[]),(⟨some 47,none,(.mov (.tmp 0))⟩,[]),(⟨some 48,none,(.mov (.tmp 7))⟩,[]),(⟨some 49,none,(.bin .sub (.tmp 48) (.const (.int .i64 1)))⟩,[]),(⟨some 50,none,(.idx 1 (.tmp 47) (.tmp 49))⟩,[]),(⟨some 51,none,(.load false 1 (.tmp 50))⟩,[]),(⟨some 52,none,(.mov (.tmp 0))⟩,[]),(⟨some 53,none,(.mov (.tmp 7))⟩,[]),(⟨some 54,none,(.idx 1 (.tmp 52) (.tmp 53))⟩,[]),(⟨some 55,none,(.load false 1 (.tmp 54))⟩,[]),(⟨some 56,none,(.idx 1 (.tmp 42) (.tmp 43))⟩,[]),(⟨none,none,(.store 1 (.tmp 56) (.tmp 51))⟩,[]),(⟨some 57,none,(.idx 1 (.tmp 44) (.tmp 46))⟩,[]),(⟨none,none,(.store 1 (.tmp 57) (.tmp 55))⟩,[])]) (.seq (.seq (.region [⟨some 58,none,(.mov (.tmp 7))⟩,⟨some 59,none,(.mov (.tmp 1))⟩,⟨some 60,none,(.bin .sub (.tmp 58) (.tmp 59))⟩,⟨some 61,none,(.bin .geq (.tmp 60) (.const (.int .i64 2)))⟩]) (.cond (.tmp 61) (.seq (.region [⟨some 62,none,(.mov (.tmp 7))⟩,⟨some 63,none,(.bin .sub (.tmp 62) (.const (.int .i64 1)))⟩,⟨some 9,none,(.mov (.tmp 63))⟩]) (.block 4 (.loop body41_1))) .skip)) (.seq (.region [⟨some 95,none,(.mov (.tmp 2))⟩,⟨some 96,none,(.mov (.tmp 7))⟩,⟨some 97,none,(.bin .sub (.tmp 95) (.tmp 96))⟩,⟨some 98,none,(.bin .geq (.tmp 97) (.const (.int .i64 2)))⟩]) (.cond (.tmp 98) (.seq (.region [⟨some 99,none,(.mov (.tmp 7))⟩,⟨some 100,none,(.bin .add (.tmp 99) (.const (.int .i64 1)))⟩,⟨some 10,none,(.mov (.tmp 100))⟩]) (.block 6 (.loop body41_2))) .skip)))))))) (.region [⟨some 15,none,(.mov (.tmp 8))⟩,⟨some 16,none,(.bin .add (.tmp 15) (.const (.int .i64 1)))⟩,⟨some 8,none,(.mov (.tmp 16))⟩])))
noncomputable def body41:ACode:=(.seq (.region [⟨some 6,none,(.mov (.const (.bool false)))⟩]) (.seq (.region [⟨some 11,none,(.mov (.tmp 1))⟩,⟨some 12,none,(.bin .add (.tmp 11) (.const (.int .i64 1)))⟩,⟨some 7,none,(.mov (.tmp 12))⟩]) (.seq (.seq (.region [⟨some 8,none,(.mov (.const (.int .i64 0)))⟩]) (.block 0 (.loop body41_3))) (.seq (.region [⟨some 6,none,(.mov (.const (.bool false)))⟩]) .ret))))
set_option maxRecDepth 100000 in
theorem tab41:tb.code 41=some ⟨133,[(6,none)],body41⟩:=by kernel_rfl
theorem partial_ok (hB h:AHeap) (v:Value) (xs:List Int) (a b:Int) (e0:Ext hB h) (hmB:hB.mark≤hB.n) (o:OwnI hB h v xs) (h0:0≤a) (hab:a<b) (hb:b≤xs.length) (hlen:xs.length≤1000000000) (hpre:0<a→∀ k,a≤k→k<b→atI xs (a - 1)≤atI xs k):
  WC Try.prog tb 41 [v,I a,I b] h fun r h'=>∃ ys w,r= .bool w∧SS hB h v a b xs ys h'∧(w=true→Srt a b ys):=by
 have s0:=SS.start a b o e0
 have low:Hid (∀ ys,PI a b xs ys→0<a→∀ k,a≤k→k<b→atI ys (a - 1)≤atI ys k):=Hid.mk fun ys p ha=>by
  have e1:atI ys (a - 1)=atI xs (a - 1):=p.out _ (by omega) (.inl (by omega))
  rw[e1]
  exact p.all (p:=fun x=>atI xs (a - 1)≤x) h0 hb (hpre ha)
 refine WC.of (zH 41) tab41 ?_;simp only[zn,Nat.zero_add,Nat.reduceAdd]
 refine go ?_
 refine WX.loopA [13,14,17,18,19,20,21,22,23,24,25,26,27,28,29,30,31,32,33,34,7,35,36,37,6,38,39,40,41,6,42,43,44,45,46,47,48,49,50,51,52,53,54,55,56,57,58,59,60,61,62,63,9,64,65,68,69,70,71,72,73,74,75,76,77,78,79,80,81,82,83,84,85,86,87,88,89,90,91,92,93,94,66,67,9,95,96,97,98,99,100,10,101,102,103,106,107,108,109,110,111,112,113,114,115,116,117,118,119,120,121,122,123,124,125,126,127,128,129,130,131,132,104,105,10,15,16,8] (by kernel_rfl) (fun x=>(5 - x.2.2).toNat) (fun (x:List Int×Int×Int) t h4=>SS hB h v a b xs x.1 h4∧zB t 7=I x.2.1∧zB t 8=I x.2.2∧(a+1≤x.2.1∧x.2.1≤b)∧(0≤x.2.2∧x.2.2≤5)∧Srt a x.2.1 x.1) (xs,a+1,0) ?_ ?_
 ·exact⟨s0,sl_,sl_,by simp only;omega,by simp only;omega,Srt.small (by simp only;omega)⟩
 rintro⟨ys,i,c⟩ t h4 hsame ⟨s4,s7,s8,hi,hc,hs⟩
 simp only at s4 s7 s8 hi hc hs
 have hl4:=s4.len
 refine go ?_
 refine WX.br (fun hx=> ?_) (fun hx=> ?_)<;>simp only[DB]at hx
 case refine_2=>
  refine go ?_
  refine rt ?_
  exact⟨_,_,rfl,s4,fun h=>by cases h⟩
 refine go ?_
 refine WX.loopA [17,18,19,20,21,22,23,24,25,26,27,28,29,30,31,32,33,34,7] (by kernel_rfl) (fun i=>(b - i).toNat) (fun (i:Int) t h2=>h4=h2∧zB t 7=I i∧(a+1≤i∧i≤b)∧Srt a i ys) i ?_ ?_
 ·exact⟨rfl,sl_,hi,hs⟩
 clear hs hi s7
 rintro i t _ hsame2 ⟨rfl,s7,hi,hs⟩
 refine go ?_
 refine WX.cutA [17,18,19,20,21,22,23,24,25,26,27,28,29,30,31,32] (by kernel_rfl) (fun t h'=>h4=h'∧zB t 32= .bool (decide (i<b∧¬(atI ys i<atI ys (i - 1))))) ?_ ?_
 ·refine WX.regionU2 0 rfl rfl ?_
  have srX:SlI (inC (zC 0 h4)) v ys:=(s4.own).sl
  refine goU ?_
  refine WO.sp (fun hd=> ?_) (fun hd=> ?_)<;>simp only[DB]at hd<;>refine goU ?_
  ·refine WO.con (yN _ (atI ys i) (atI ys (i - 1))) ?_
   rintro _ _ ⟨rfl,rfl⟩
   refine WO.nil ?_
   refine zy ?_
   refine goU ?_
   exact zE ⟨rfl,by rw[show decide (i<b∧¬(atI ys i<atI ys (i - 1)))= !decide (atI ys i<atI ys (i - 1)) from dec_neg hd];exact sl_⟩
  ·exact zE ⟨rfl,by rw[show decide (i<b∧¬(atI ys i<atI ys (i - 1)))=false from decide_eq_false (fun hh=>absurd hh.1 (by omega))];exact sl_⟩
 rintro t5 _ hs5 ⟨rfl,q5⟩
 refine go ?_
 refine WX.br (fun he=> ?_) (fun he=> ?_)<;>simp only[DB]at he
 ·refine go ?_
  refine zA (i+1) (by omega) ⟨rfl,sl_,by omega,fun p q h1 h2 h3=> ?_⟩
  by_cases e:q=i
  ·by_cases e2:p=i
   ·rw[e,e2];exact Int.le_refl _
   ·have:=hs p (i - 1) h1 (by omega) (by omega)
    rw[e];omega
  ·exact hs p q h1 h2 (by omega)
 refine go ?_
 refine WX.br (fun hf=> ?_) (fun hf=> ?_)<;>simp only[DB]at hf
 ·refine go ?_
  refine rt ?_
  subst hf
  exact⟨_,_,rfl,s4,fun _=>hs⟩
 refine go ?_
 refine WX.br (fun hg=> ?_) (fun hg=> ?_)<;>simp only[DB]at hg
 ·refine go ?_
  refine rt ?_
  exact⟨_,_,rfl,s4,fun h=>by cases h⟩
 have hlt:atI ys i<atI ys (i - 1):=Int.not_le.1 fun hh=>he ⟨by omega,hh⟩
 refine go ?_
 refine WX.regionU2 0 rfl rfl ?_
 have srX:SlI (inC (zC 0 h4)) v ys:=(s4.own).sl
 refine goU ?_
 refine WU2.swA (i) (i - 1) (s4).own (s4).ext (by rw[(s4).ext.mark];exact hmB) ?_
 intro h6 e6 o6 u6
 have s6:=s4.swp e6 o6 u6 h0 hb (by omega) (by omega)
 have hz:∀ p q,a≤p→p≤q→q<i→q≠i - 1→atI (swp ys i (i - 1)) p≤atI (swp ys i (i - 1)) q:=fun p q h1 h2 h3 h4=>by
  rw[zu (by omega) (by omega) (by omega),zu (by omega) (by omega) (by omega),if_neg (by omega),if_neg (by omega),if_neg (by omega),if_neg (by omega)]
  exact hs p q h1 h2 h3
 clear o6 e6 u6 s4 hl4 hs he hlt
 generalize swp ys i (i - 1)=zs at s6 hz
 have hl6:=s6.len
 refine go ?_
 refine WX.cutA [62,63,9,64,65,68,69,70,71,72,73,74,75,76,77,78,79,80,81,82,83,84,85,86,87,88,89,90,91,92,93,94,66,67,9] (by kernel_rfl) (fun t h'=>∃ ws,SS hB h v a b xs ws h'∧Srt a i ws) ?_ ?_
 ·refine WX.br (fun hj=> ?_) (fun hj=> ?_)<;>simp only[DB]at hj<;>refine go ?_
  ·refine WX.loopA [64,65,68,69,70,71,72,73,74,75,76,77,78,79,80,81,82,83,84,85,86,87,88,89,90,91,92,93,94,66,67,9] (by kernel_rfl) (fun x=>(x.2+1).toNat) (fun (x:List Int×Int) t h7=>SS hB h v a b xs x.1 h7∧zB t 9=I x.2∧(a≤x.2∧x.2≤i - 1)∧∀ p q,a≤p→p≤q→q<i→q≠x.2→atI x.1 p≤atI x.1 q) (zs,i - 1) ?_ ?_
   ·exact⟨s6,sl_,by simp only;omega,hz⟩
   rintro⟨ws,j⟩ t h7 hsame3 ⟨s7',s9,hj2,hw⟩
   simp only at s7' s9 hj2 hw
   have hl7:=s7'.len
   have fin:(j<1∨¬atI ws j<atI ws (j - 1))→Srt a i ws:=fun hor p q h1 h2 h3=>by
    by_cases e:q=j
    ·by_cases e2:p=j
     ·rw[e,e2];exact Int.le_refl _
     ·have:=hw p (j - 1) h1 (by omega) (by omega) (by omega)
      rw[e]
      rcases hor with hh|hh
      ·omega
      ·omega
    ·exact hw p q h1 h2 h3 e
   refine go ?_
   refine WX.br (fun hk=> ?_) (fun hk=> ?_)<;>simp only[DB]at hk
   case refine_2=>
    refine go ?_
    exact zE ⟨ws,s7',fin (.inl (by omega))⟩
   refine go ?_
   refine WX.regionU2 0 rfl rfl ?_
   have srX:SlI (inC (zC 0 h7)) v ws:=(s7'.own).sl
   refine goU ?_
   refine WO.con (yN _ (atI ws j) (atI ws (j - 1))) ?_
   rintro _ _ ⟨rfl,rfl⟩
   refine WO.nil ?_
   refine zy ?_
   refine goU ?_
   rw[out_self]
   refine WX.br (fun hm=> ?_) (fun hm=> ?_)<;>simp only[DB]at hm
   ·refine go ?_
    exact zE ⟨ws,s7',fin (.inr (by omega))⟩
   have hja:a<j:=by
    by_cases e:a<j
    ·exact e
    ·have ej:j=a:=by omega
     subst ej
     have:=low.out ws s7'.pi (by omega) j (by omega) (by omega)
     omega
   refine go ?_
   refine WX.regionU2 0 rfl rfl ?_
   have srX:SlI (inC (zC 0 h7)) v ws:=(s7'.own).sl
   refine goU ?_
   refine WU2.swA (j) (j - 1) (s7').own (s7').ext (by rw[(s7').ext.mark];exact hmB) ?_
   intro h8 e8 o8 u8
   have s8':=s7'.swp e8 o8 u8 h0 hb (by omega) (by omega)
   refine go ?_
   refine zA (swp ws j (j - 1),j - 1) (by simp only;omega) ⟨s8',sl_,by simp only;omega,fun p q h1 h2 h3 h4=> ?_⟩
   exact ins_step (i:=i - 1) h0 hja (by omega) (by omega) hm (fun p q h1 h2 h3 h4=>hw p q h1 h2 (by omega) h4) p q h1 h2 (by omega) h4
  ·exact zE ⟨zs,s6,Srt.small (by omega)⟩
 clear s6 hz hl6
 rintro t7 h7 hs7 ⟨zs,s6,hz⟩
 have hl6:=s6.len
 refine go ?_
 refine WX.cutA [99,100,10,101,102,103,106,107,108,109,110,111,112,113,114,115,116,117,118,119,120,121,122,123,124,125,126,127,128,129,130,131,132,104,105,10] (by kernel_rfl) (fun t h'=>∃ ws,SS hB h v a b xs ws h'∧Srt a i ws) ?_ ?_
 ·refine WX.br (fun hj=> ?_) (fun hj=> ?_)<;>simp only[DB]at hj<;>refine go ?_
  ·refine WX.loopA [101,102,103,106,107,108,109,110,111,112,113,114,115,116,117,118,119,120,121,122,123,124,125,126,127,128,129,130,131,132,104,105,10] (by kernel_rfl) (fun x=>(b - x.2).toNat) (fun (x:List Int×Int) t h7=>SS hB h v a b xs x.1 h7∧zB t 10=I x.2∧(i+1≤x.2∧x.2≤b)∧Srt a i x.1) (zs,i+1) ?_ ?_
   ·exact⟨s6,sl_,by simp only;omega,hz⟩
   rintro⟨ws,j⟩ t h7 hsame3 ⟨s7',s10,hj2,hw⟩
   simp only at s7' s10 hj2 hw
   have hl7:=s7'.len
   refine go ?_
   refine WX.br (fun hk=> ?_) (fun hk=> ?_)<;>simp only[DB]at hk
   case refine_2=>
    refine go ?_
    exact zE ⟨ws,s7',hw⟩
   refine go ?_
   refine WX.regionU2 0 rfl rfl ?_
   have srX:SlI (inC (zC 0 h7)) v ws:=(s7'.own).sl
   refine goU ?_
   refine WO.con (yN _ (atI ws j) (atI ws (j - 1))) ?_
   rintro _ _ ⟨rfl,rfl⟩
   refine WO.nil ?_
   refine zy ?_
   refine goU ?_
   rw[out_self]
   refine WX.br (fun hm=> ?_) (fun hm=> ?_)<;>simp only[DB]at hm
   ·refine go ?_
    exact zE ⟨ws,s7',hw⟩
   refine go ?_
   refine WX.regionU2 0 rfl rfl ?_
   have srX:SlI (inC (zC 0 h7)) v ws:=(s7'.own).sl
   refine goU ?_
   refine WU2.swA (j) (j - 1) (s7').own (s7').ext (by rw[(s7').ext.mark];exact hmB) ?_
   intro h8 e8 o8 u8
   have s8':=s7'.swp e8 o8 u8 h0 hb (by omega) (by omega)
   refine go ?_
   exact zA (swp ws j (j - 1),j+1) (by simp only;omega) ⟨s8',sl_,by simp only;omega,srt_swp h0 (by omega) (by omega) hw⟩
  ·exact zE ⟨zs,s6,hz⟩
 clear s6 hz hl6
 rintro t8 h8 hs8 ⟨zs,s6,hz⟩
 refine go ?_
 exact zA (zs,i,c+1) (by simp only;omega) ⟨s6,sl_,sl_,hi,by simp only;omega,hz⟩
noncomputable def body27_0:ACode:=(.block 1 (.seq (.region [⟨some 19,none,(.mov (.tmp 2))⟩,⟨some 20,none,(.mov (.tmp 1))⟩,⟨some 21,none,(.bin .sub (.tmp 19) (.tmp 20))⟩,⟨some 10,none,(.mov (.tmp 21))⟩]) (.seq (.seq (.region [⟨some 22,none,(.mov (.tmp 10))⟩,⟨some 23,none,(.bin .leq (.tmp 22) (.const (.int .i64 12)))⟩]) (.cond (.tmp 23) (.seq (.region [⟨some 24,none,(.mov (.tmp 0))⟩,⟨some 25,none,(.mov (.tmp 1))⟩,⟨some 26,none,(.mov (.tmp 2))⟩,⟨some 27,none,(.call (.func 36) [(.tmp 24),(.tmp 25),(.tmp 26)])⟩]) .ret) .skip)) (.seq (.seq (.region [⟨some 28,none,(.mov (.tmp 3))⟩,⟨some 29,none,(.bin .eql (.tmp 28) (.const (.int .i64 0)))⟩]) (.cond (.tmp 29) (.seq (.region [⟨some 30,none,(.mov (.tmp 0))⟩,⟨some 31,none,(.mov (.tmp 1))⟩,⟨some 32,none,(.mov (.tmp 2))⟩,⟨some 33,none,(.call (.func 37) [(.tmp 30),(.tmp 31),(.tmp 32)])⟩]) .ret) .skip)) (.seq (.seq (.region [⟨some 34,none,(.mov (.tmp 8))⟩,⟨some 35,none,(.un .not (.tmp 34))⟩]) (.cond (.tmp 35) (.seq (.region [⟨some 36,none,(.mov (.tmp 0))⟩,⟨some 37,none,(.mov (.tmp 1))⟩,⟨some 38,none,(.mov (.tmp 2))⟩,⟨some 39,none,(.call (.func 38) [(.tmp 36),(.tmp 37),(.tmp 38)])⟩]) (.region [⟨some 40,none,(.mov (.tmp 3))⟩,⟨some 41,none,(.bin .sub (.tmp 40) (.const (.int .i64 1)))⟩,⟨some 3,none,(.mov (.tmp 41))⟩])) .skip)) (.seq (.region [⟨some 43,none,(.mov (.tmp 0))⟩,⟨some 44,none,(.mov (.tmp 1))⟩,⟨some 45,none,(.mov (.tmp 2))⟩,⟨some 46,none,(.call (.func 39) [(.tmp 43),(.tmp 44),(.tmp 45)])⟩,⟨some 42,none,(.mov (.tmp 46))⟩,⟨some 47,none,(.extract (.tmp 42) 0)⟩,⟨some 48,none,(.extract (.tmp 42) 1)⟩,⟨some 11,none,(.mov (.tmp 47))⟩,⟨some 12,none,(.mov (.tmp 48))⟩]) (.seq (.seq (.region [⟨some 49,none,(.mov (.tmp 12))⟩,⟨some 50,none,(.bin .eql (.tmp 49) (.const (.int .i64 2)))⟩]) (.cond (.tmp 50) (.seq (.region [⟨some 51,none,(.mov (.tmp 0))⟩,⟨some 52,none,(.mov (.tmp 1))⟩,⟨some 53,none,(.mov (.tmp 2))⟩,⟨some 54,none,(.call (.func 40) [(.tmp 51),(.tmp 52),(.tmp 53)])⟩]) (.seq (.region [⟨some 55,none,(.mov (.tmp 2))⟩,⟨some 56,none,(.bin .sub (.tmp 55) (.const (.int .i64 1)))⟩,⟨some 57,none,(.mov (.tmp 11))⟩,⟨some 58,none,(.mov (.tmp 1))⟩,⟨some 59,none,(.bin .sub (.tmp 57) (.tmp 58))⟩,⟨some 60,none,(.bin .sub (.tmp 56) (.tmp 59))⟩,⟨some 11,none,(.mov (.tmp 60))⟩]) (.region [⟨some 12,none,(.mov (.const (.int .i64 1)))⟩]))) .skip)) (.seq (.seq (.region [⟨some 61,none,(.mov (.tmp 8))⟩,⟨some 62,none,(.mov (.tmp 61))⟩,⟨some 63,some (62,true),(.mov (.tmp 9))⟩,⟨some 64,none,(.pick (.tmp 62) (.tmp 63) (.const (.bool false)))⟩,⟨some 65,none,(.mov (.tmp 64))⟩,⟨some 66,some (65,true),(.mov (.tmp 12))⟩,⟨some 67,some (65,true),(.bin .eql (.tmp 66) (.const (.int .i64 1)))⟩,⟨some 68,none,(.pick (.tmp 65) (.tmp 67) (.const (.bool false)))⟩]) (.cond (.tmp 68) (.seq (.region [⟨some 69,none,(.mov (.tmp 0))⟩,⟨some 70,none,(.mov (.tmp 1))⟩,⟨some 71,none,(.mov (.tmp 2))⟩,⟨some 72,none,(.call (.func 41) [(.tmp 69),(.tmp 70),(.tmp 71)])⟩]) (.cond (.tmp 72) .ret .skip)) .skip)) (.seq (.seq (.regionC [(⟨some 73,none,(.mov (.tmp 1))⟩,[]),(⟨some 74,none,(.bin .gtr (.tmp 73) (.const (.int .i64 0)))⟩,[]),(⟨some 75,none,(.mov (.tmp 74))⟩,[]),(⟨some 76,some (75,true),(.mov (.tmp 0))⟩,[]),(⟨some 77,some (75,true),(.mov (.tmp 1))⟩,[]),(⟨some 78,some (75,true),(.bin .sub (.tmp 77) (.const (.int .i64 1)))⟩,[]),(⟨some 79,some (75,true),(.idx 1 (.tmp 76) (.tmp 78))⟩,[]),(⟨some 80,some (75,true),(.load false 1 (.tmp 79))⟩,[]),(⟨some 81,some (75,true),(.mov (.tmp 0))⟩,[]),(⟨some 82,some (75,true),(.mov (.tmp 11))⟩,[]),(⟨some 83,some (75,true),(.idx 1 (.tmp 81) (.tmp 82))⟩,[]),(⟨some 84,some (75,true),(.load false 1 (.tmp 83))⟩,[]),(⟨some 85,some (75,true),(.call (.func 42) [(.tmp 80),(.tmp 84)])⟩,[]),(⟨some 86,some (75,true),(.un .not (.tmp 85))⟩,[]),(⟨some 87,none,(.pick (.tmp 75) (.tmp 86) (.const (.bool false)))⟩,[])]) (.cond (.tmp 87) (.seq (.region [⟨some 88,none,(.mov (.tmp 0))⟩,⟨some 89,none,(.mov (.tmp 1))⟩,⟨some 90,none,(.mov (.tmp 2))⟩,⟨some 91,none,(.mov (.tmp 11))⟩,⟨some 92,none,(.call (.func 43) [(.tmp 88),(.tmp 89),(.tmp 90),(.tmp 91)])⟩,⟨some 13,none,(.mov (.tmp 92))⟩]) (.seq (.region [⟨some 93,none,(.mov (.tmp 13))⟩,⟨some 1,none,(.mov (.tmp 93))⟩]) (.exit 1))) .skip)) (.seq (.region [⟨some 95,none,(.mov (.tmp 0))⟩,⟨some 96,none,(.mov (.tmp 1))⟩,⟨some 97,none,(.mov (.tmp 2))⟩,⟨some 98,none,(.mov (.tmp 11))⟩,⟨some 99,none,(.call (.func 44) [(.tmp 95),(.tmp 96),(.tmp 97),(.tmp 98)])⟩,⟨some 94,none,(.mov (.tmp 99))⟩,⟨some 100,none,(.extract (.tmp 94) 0)⟩,⟨some 101,none,(.extract (.tmp 94) 1)⟩,⟨some 14,none,(.mov (.tmp 100))⟩,⟨some 15,none,(.mov (.tmp 101))⟩]) (.seq (.region [⟨some 102,none,(.mov (.tmp 15))⟩,⟨some 9,none,(.mov (.tmp 102))⟩]) (.seq (.region [⟨some 103,none,(.mov (.tmp 14))⟩,⟨some 104,none,(.mov (.tmp 1))⟩,⟨some 105,none,(.bin .sub (.tmp 103) (.tmp 104))⟩,⟨some 106,none,(.mov (.tmp 2))⟩,⟨some 107,none,(.mov (.tmp 14))⟩,⟨some 108,none,(.bin .sub (.tmp 106) (.tmp 107))⟩,⟨some 16,none,(.mov (.tmp 105))⟩,⟨some 17,none,(.mov (.tmp 108))⟩]) (.seq (.region [⟨some 109,none,(.mov (.tmp 10))⟩,⟨some 110,none,(.bin .quo (.tmp 109) (.const (.int .i64 8)))⟩,⟨some 18,none,(.mov (.tmp 110))⟩]) (.seq (.region [⟨some 111,none,(.mov (.tmp 16))⟩,⟨some 112,none,(.mov (.tmp 17))⟩,⟨some 113,none,(.bin .lss (.tmp 111) (.tmp 112))⟩]) (.cond (.tmp 113) (.seq (.region [⟨some 114,none,(.mov (.tmp 16))⟩,⟨some 115,none,(.mov (.tmp 18))⟩,⟨some 116,none,(.bin .geq (.tmp 114) (.tmp 115))⟩,⟨some 8,none,(.mov (.tmp 116))⟩]) (.seq (.region [⟨some 117,none,(.mov (.tmp 0))⟩,⟨some 118,none,(.mov (.tmp 1))⟩,⟨some 119,none,(.mov (.tmp 14))⟩,⟨some 120,none,(.mov (.tmp 3))⟩,⟨some 121,none,(.call (.func 27) [(.tmp 117),(.tmp 118),(.tmp 119),(.tmp 120)])⟩]) (.region [⟨some 122,none,(.mov (.tmp 14))⟩,⟨some 123,none,(.bin .add (.tmp 122) (.const (.int .i64 1)))⟩,⟨some 1,none,(.mov (.tmp 123))⟩]))) (.seq (.region [⟨some 124,none,(.mov (.tmp 17))⟩,⟨some 125,none,(.mov (.tmp 18))⟩,⟨some 126,none,(.bin .geq (.tmp 124) (.tmp 125))⟩,⟨some 8,none,(.mov (.tmp 126))⟩]) (.seq (.region [⟨some 127,none,(.mov (.tmp 0))⟩,⟨some 128,none,(.mov (.tmp 14))⟩,⟨some 129,none,(.bin .add (.tmp 128) (.const (.int .i64 1)))⟩,⟨some 130,none,(.mov (.tmp 2))⟩,⟨some 131,none,(.mov (.tmp 3))⟩,⟨some 132,none,(.call (.func 27) [(.tmp 127),(.tmp 129),(.tmp 130),(.tmp 131)])⟩]) (.region [⟨some 133,none,(.mov (.tmp 14))⟩,⟨some 2,none,(.mov (.tmp 133))⟩]))))))))))))))))))
noncomputable def body27:ACode:=(.seq (.region [⟨some 8,none,(.mov (.const (.bool true)))⟩]) (.seq (.region [⟨some 9,none,(.mov (.const (.bool true)))⟩]) (.block 0 (.loop body27_0))))
set_option maxRecDepth 100000 in
theorem tab27:tb.code 27=some ⟨134,[],body27⟩:=by kernel_rfl
theorem pdq_ok (n:Nat):∀ (hB h:AHeap) (v:Value) (xs:List Int) (a b lim:Int) (e0:Ext hB h) (hmB:hB.mark≤hB.n) (o:OwnI hB h v xs) (h0:0≤a) (hab:a≤b) (hb:b≤xs.length) (hn:b - a≤n) (hlen:xs.length≤1000000000) (hlim:0≤lim∧lim≤1000) (hpre:0<a→∀ k,a≤k→k<b→atI xs (a - 1)≤atI xs k),
  WC Try.prog tb 27 [v,I a,I b,I lim] h fun r h'=>∃ ys,SS hB h v a b xs ys h'∧Srt a b ys:=by
 induction n using Nat.strongRecOn with
 |_ n IH=>
 intro hB h v xs a b lim e0 hmB o h0 hab hb hn hlen hlim hpre
 have IH:=Hid.mk IH
 have s0:=SS.start a b o e0
 refine WC.of (zH 27) tab27 ?_;simp only[zn,Nat.zero_add,Nat.reduceAdd]
 refine go ?_
 refine WX.loopA [19,20,21,10,22,23,24,25,26,27,28,29,30,31,32,33,34,35,36,37,38,39,40,41,3,43,44,45,46,42,47,48,11,12,49,50,51,52,53,54,55,56,57,58,59,60,11,12,61,62,63,64,65,66,67,68,69,70,71,72,73,74,75,76,77,78,79,80,81,82,83,84,85,86,87,88,89,90,91,92,13,93,1,95,96,97,98,99,94,100,101,14,15,102,9,103,104,105,106,107,108,16,17,109,110,18,111,112,113,114,115,116,8,117,118,119,120,121,122,123,1,124,125,126,8,127,128,129,130,131,132,133,2] (by kernel_rfl) (fun x=>(x.2.2.1 - x.2.1).toNat) (fun (x:List Int×Int×Int×Int×Bool×Bool) t h4=>SS hB h v a b xs x.1 h4∧zB t 1=I x.2.1∧zB t 2=I x.2.2.1∧zB t 3=I x.2.2.2.1∧zB t 8= .bool x.2.2.2.2.1∧zB t 9= .bool x.2.2.2.2.2∧(a≤x.2.1∧x.2.1≤x.2.2.1∧x.2.2.1≤b)∧(0≤x.2.2.2.1∧x.2.2.2.1≤1000)∧Srt a x.2.1 x.1∧Srt x.2.2.1 b x.1∧(∀ p q,a≤p→p<x.2.1→x.2.1≤q→q<b→atI x.1 p≤atI x.1 q)∧(∀ p q,a≤p→p<x.2.2.1→x.2.2.1≤q→q<b→atI x.1 p≤atI x.1 q)∧(0<x.2.1→∀ k,x.2.1≤k→k<x.2.2.1→atI x.1 (x.2.1 - 1)≤atI x.1 k)) (xs,a,b,lim,true,true) ?_ ?_
 ·exact⟨s0,sl_,sl_,sl_,sl_,sl_,by simp only;omega,hlim,Srt.small (by simp only;omega),Srt.small (by simp only;omega),fun p q h1 h2=>by simp only at h2;omega,fun p q h1 h2 h3 h4=>by simp only at h3;omega,hpre⟩
 rintro⟨ys,c,d,lm,wb,wp⟩ t h4 hsame ⟨s4,s1,s2,s3,s8,s9,hcd,hlm,rA,rB,rL,rH,hpr⟩
 simp only at s4 s1 s2 s3 s8 s9 hcd hlm rA rB rL rH hpr
 have hl4:=s4.len
 have whole:Hid (∀ zs h5,SS hB h4 v c d ys zs h5→Srt c d zs→SS hB h v a b xs zs h5∧Srt a b zs):=Hid.mk fun zs h5 s5 r5=>by
  refine⟨s4.call s5 hcd.1 hcd.2.2,fun p q h1 h2 h3=> ?_⟩
  have p5:=s5.pi
  have o5:=p5.out
  by_cases hq:q<c
  ·rw[o5 p (by omega) (.inl (by omega)),o5 q (by omega) (.inl hq)];exact rA p q h1 h2 hq
  by_cases hp:d≤p
  ·rw[o5 p (by omega) (.inr hp),o5 q (by omega) (.inr (by omega))];exact rB p q hp h2 h3
  by_cases hp2:p<c
  ·rw[o5 p (by omega) (.inl hp2)]
   by_cases hq2:d≤q
   ·rw[o5 q (by omega) (.inr hq2)];exact rL p q h1 hp2 (by omega) h3
   ·exact p5.all (p:=fun x=>atI ys p≤x) (by omega) (by omega) (fun k hk1 hk2=>rL p k h1 hp2 hk1 (by omega)) q (by omega) (by omega)
  ·by_cases hq2:d≤q
   ·rw[o5 q (by omega) (.inr hq2)]
    exact p5.all (p:=fun x=>x≤atI ys q) (by omega) (by omega) (fun k hk1 hk2=>rH k q (by omega) hk2 hq2 h3) p (by omega) (by omega)
   ·exact r5 p q (by omega) h2 (by omega)
 refine go ?_
 refine WX.br (fun hx=> ?_) (fun hx=> ?_)<;>simp only[DB]at hx
 ·refine go ?_
  refine WO.con (insertion_ok hB h4 v ys c d s4.ext hmB s4.own (by omega) (by omega) (by omega) (by omega)) ?_
  rintro _ h5 ⟨zs,o5,p5,r5,e5,u5⟩
  refine go ?_
  refine rt ?_
  exact⟨zs,whole.out zs h5 ⟨o5,e5,u5,p5⟩ r5⟩
 refine go ?_
 refine WX.br (fun hy=> ?_) (fun hy=> ?_)<;>simp only[DB]at hy
 ·refine go ?_
  refine WO.con (heap_ok hB h4 v ys c d s4.ext hmB s4.own (by omega) (by omega) (by omega) (by omega)) ?_
  rintro _ h5 ⟨zs,s5,r5⟩
  refine go ?_
  refine rt ?_
  exact⟨zs,whole.out zs h5 s5 r5⟩
 refine go ?_
 refine WX.cutA [36,37,38,39,40,41,3] (by kernel_rfl) (fun t h'=>∃ zs l2,SS hB h4 v c d ys zs h'∧zB t 3=I l2∧0≤l2∧l2≤1000) ?_ ?_
 ·refine WX.br (fun hz=> ?_) (fun hz=> ?_)<;>simp only[DB]at hz<;>refine go ?_
  ·refine WO.con (break_ok hB h4 v ys c d s4.ext hmB s4.own (by omega) (by omega) (by omega) (by omega)) ?_
   rintro _ h5 ⟨zs,s5⟩
   refine go ?_
   exact zE ⟨zs,lm - 1,s5,sl_,by omega,by omega⟩
  ·exact zE ⟨ys,lm,SS.start c d s4.own s4.ext,sl_,hlm.1,hlm.2⟩
 rintro t5 h5 hs5 ⟨zs,l2,s5,q3,hl2⟩
 have hl5:=s5.len
 refine go ?_
 refine WO.con (pivot_ok h5 v zs c d s5.own.sl (by omega) (by omega) (by omega) (by omega)) ?_
 rintro _ h6 ⟨⟨pv,hint,rfl,hpv⟩,e6⟩
 have s6:=s5.extd e6
 refine go ?_
 refine WX.cutA [51,52,53,54,55,56,57,58,59,60,11,12] (by kernel_rfl) (fun t h'=>∃ ws p2 hi2,SS hB h4 v c d ys ws h'∧zB t 11=I p2∧zB t 12=I hi2∧c≤p2∧p2<d) ?_ ?_
 ·refine WX.br (fun hz=> ?_) (fun hz=> ?_)<;>simp only[DB]at hz<;>refine go ?_
  ·refine WO.con (reverse_ok hB h6 v zs c d s6.ext hmB s6.own (by omega) (by omega) (by omega) (by omega)) ?_
   rintro _ h7 ⟨ws,s7⟩
   refine go ?_
   exact zE ⟨ws,_,1,s6.call s7 (by omega) (by omega),sl_,sl_,by omega,by omega⟩
  ·exact zE ⟨zs,pv,hint,s6,sl_,sl_,hpv.1,hpv.2⟩
 clear s5 s6 hl5
 rintro t7 h7 hs7 ⟨ws,p2,hi2,s7,q11,q12,hp2⟩
 have hl7:=s7.len
 have low7:Hid (∀ us,PI c d ys us→0<c→∀ k,c≤k→k<d→atI us (c - 1)≤atI us k):=Hid.mk fun us p hc=>by
  rw[p.out (c - 1) (by omega) (.inl (by omega))]
  exact p.all (p:=fun x=>atI ys (c - 1)≤x) (by omega) (by omega) (hpr hc)
 have env:Hid (∀ us,PI c d ys us→Srt a c us∧Srt d b us∧(∀ p q,a≤p→p<c→c≤q→q<b→atI us p≤atI us q)∧(∀ p q,a≤p→p<d→d≤q→q<b→atI us p≤atI us q)):=Hid.mk fun us p5=>by
  have o5:=p5.out
  refine⟨fun p q h1 h2 h3=> ?_,fun p q h1 h2 h3=> ?_,fun p q h1 h2 h3 h4=> ?_,fun p q h1 h2 h3 h4=> ?_⟩
  ·rw[o5 p (by omega) (.inl (by omega)),o5 q (by omega) (.inl h3)];exact rA p q h1 h2 h3
  ·rw[o5 p (by omega) (.inr (by omega)),o5 q (by omega) (.inr (by omega))];exact rB p q h1 h2 h3
  ·rw[o5 p (by omega) (.inl (by omega))]
   by_cases hq2:d≤q
   ·rw[o5 q (by omega) (.inr hq2)];exact rL p q h1 h2 h3 h4
   ·exact p5.all (p:=fun x=>atI ys p≤x) (by omega) (by omega) (fun k hk1 hk2=>rL p k h1 h2 hk1 (by omega)) q h3 (by omega)
  ·rw[o5 q (by omega) (.inr (by omega))]
   by_cases hp:p<c
   ·rw[o5 p (by omega) (.inl hp)];exact rH p q h1 h2 h3 h4
   ·exact p5.all (p:=fun x=>x≤atI ys q) (by omega) (by omega) (fun k hk1 hk2=>rH k q (by omega) hk2 h3 h4) p (by omega) h2
 clear rA rB rL rH hpr
 refine go ?_
 refine WO.mid 6 (fun t' h'=>h7=h'∧∃ bb,zB t' 68= .bool bb) ?_ ?_<;>simp only[List.take_succ_cons,List.take_zero,List.drop_succ_cons,List.drop_zero]
 ·cases wb<;>cases wp<;>refine go ?_<;>exact⟨rfl,rfl,rfl,_,sl_⟩
 rintro t8 _ hs8 ⟨rfl,bb,q68⟩
 refine go ?_
 refine WX.cutA [69,70,71,72] (by kernel_rfl) (fun t h'=>∃ us,SS hB h4 v c d ys us h') ?_ ?_
 ·refine WX.br (fun hz=> ?_) (fun hz=> ?_)<;>refine go ?_
  ·refine WO.con (partial_ok hB h7 v ws c d s7.ext hmB s7.own (by omega) (by omega) (by omega) (by omega) (low7.out ws s7.pi)) ?_
   rintro _ h9 ⟨us,w,rfl,s9',r9⟩
   have r9:=Hid.mk r9
   refine WO.nil ?_
   refine thenK_normal ?_
   refine WX.br (fun hw=> ?_) (fun hw=> ?_)
   ·refine WX.ret ?_
    refine cutK_ret ?_
    refine go ?_
    refine rt ?_
    exact⟨us,whole.out us h9 (s7.call s9' (by omega) (by omega)) (r9.out hw)⟩
   ·refine WX.skip ?_
    exact zE ⟨us,s7.call s9' (by omega) (by omega)⟩
  ·exact zE ⟨ws,s7⟩
 clear s7 hl7
 rintro t9 h9 hs9 ⟨us,s9'⟩
 have hl9:=s9'.len
 refine go ?_
 refine WX.cutA [73,74,75,76,77,78,79,80,81,82,83,84,85,86,87] (by kernel_rfl) (fun t h'=>h9=h'∧zB t 87= .bool (decide (0<c∧¬(atI us (c - 1)<atI us p2)))) ?_ ?_
 ·refine WX.regionU2 0 rfl rfl ?_
  have srX:SlI (inC (zC 0 h9)) v us:=(s9'.own).sl
  refine goU ?_
  refine WO.sp (fun hd=> ?_) (fun hd=> ?_)<;>simp only[DB]at hd<;>refine goU ?_
  ·refine WO.con (yN _ (atI us (c - 1)) (atI us p2)) ?_
   rintro _ _ ⟨rfl,rfl⟩
   refine WO.nil ?_
   refine zy ?_
   refine goU ?_
   exact zE ⟨rfl,by rw[show decide (0<c∧¬(atI us (c - 1)<atI us p2))= !decide (atI us (c - 1)<atI us p2) from dec_neg hd];exact sl_⟩
  ·exact zE ⟨rfl,by rw[show decide (0<c∧¬(atI us (c - 1)<atI us p2))=false from decide_eq_false (fun hh=>absurd hh.1 (by omega))];exact sl_⟩
 rintro t10 _ hs10 ⟨rfl,q10⟩
 refine go ?_
 refine WX.br (fun hz=> ?_) (fun hz=> ?_)<;>simp only[DB]at hz<;>refine go ?_
 ·refine WO.con (partEqual_ok hB h9 v us c d p2 s9'.ext hmB s9'.own (by omega) (by omega) (by omega) (by omega)) ?_
  rintro _ h11 ⟨zs,m,rfl,s11,hm,lo,hi⟩
  have sw:=s9'.call s11 (Int.le_refl _) (Int.le_refl _)
  obtain⟨eA,eB,eL,eH⟩:=env.out zs sw.pi
  have lz:=low7.out zs sw.pi hz.1
  have hP:atI us p2≤atI zs (c - 1):=by
   rw[s11.pi.out (c - 1) (by omega) (.inl (by omega))];omega
  refine go ?_
  refine zA (zs,m,d,l2,wb,wp) (by simp only;omega) ⟨s4.call sw hcd.1 hcd.2.2,sl_,sl_,sl_,sl_,sl_,by simp only;omega,hl2,fun p q h1 h2 h3=> ?_,eB,fun p q h1 h2 h3 h4=> ?_,eH,fun h1 k h2 h3=> ?_⟩
  ·simp only at h3 ⊢
   by_cases hq:q<c
   ·exact eA p q h1 h2 hq
   by_cases hp:p<c
   ·exact eL p q h1 hp (by omega) (by omega)
   ·have x1:=lo p (by omega) (by omega);have x2:=lz q (by omega) (by omega);omega
  ·simp only at h2 h3 ⊢
   by_cases hp:p<c
   ·exact eL p q h1 hp (by omega) h4
   by_cases hq:d≤q
   ·exact eH p q h1 (by omega) hq h4
   ·have x1:=lo p (by omega) (by omega);have x2:=hi q (by omega) (by omega);omega
  ·simp only at h1 h2 h3 ⊢
   have x1:=lo (m - 1) (by omega) (by omega);have x2:=hi k (by omega) (by omega);omega
 ·refine WO.con (partition_ok hB h9 v us c d p2 s9'.ext hmB s9'.own (by omega) (by omega) (by omega) (by omega)) ?_
  rintro _ h11 ⟨zs,m,w,rfl,s11,hm,lo,hi⟩
  have sw:=s9'.call s11 (Int.le_refl _) (Int.le_refl _)
  have hlw:=sw.len
  refine go ?_
  refine WO.quo (a:=d - c) (c:=8) (by decide) (by rw[Int.tdiv_eq_ediv_of_nonneg (by omega)];omega) (by rw[Int.tdiv_eq_ediv_of_nonneg (by omega)];omega) ?_
  refine go ?_
  refine WX.br (fun hy2=> ?_) (fun hy2=> ?_)<;>simp only[DB]at hy2<;>refine go ?_
  ·refine WO.con (IH.out (m - c).toNat (by omega) hB h11 v zs c m l2 sw.ext hmB sw.own (by omega) (by omega) (by omega) (by omega) (by omega) hl2 (fun h1 k h2 h3=>low7.out zs sw.pi h1 k h2 (by omega))) ?_
   rintro _ h12 ⟨vs,s12,r12⟩
   have st:=sw.call s12 (Int.le_refl _) (by omega)
   obtain⟨eA,eB,eL,eH⟩:=env.out vs st.pi
   have same:∀ k,m≤k→atI vs k=atI zs k:=fun k hk=>s12.pi.out k (by omega) (.inr hk)
   have left:∀ k,c≤k→k<m→atI vs k≤atI zs m:=s12.pi.all (p:=fun x=>x≤atI zs m) (by omega) (by omega) (fun k h1 h2=>lo k h1 h2)
   refine go ?_
   refine zA (vs,m+1,d,l2,decide ((d - c).tdiv 8≤m - c),w) (by simp only;omega) ⟨s4.call st hcd.1 hcd.2.2,sl_,sl_,sl_,sl_,sl_,by simp only;omega,hl2,fun p q h1 h2 h3=> ?_,eB,fun p q h1 h2 h3 h4=> ?_,eH,fun h1 k h2 h3=> ?_⟩
   ·simp only at h3 ⊢
    by_cases hq:q<c
    ·exact eA p q h1 h2 hq
    by_cases hp:p<c
    ·exact eL p q h1 hp (by omega) (by omega)
    by_cases hqm:q=m
    ·by_cases hpm:p=m
     ·rw[hqm,hpm];exact Int.le_refl _
     ·rw[hqm,same m (Int.le_refl _)];exact left p (by omega) (by omega)
    ·exact r12 p q (by omega) h2 (by omega)
   ·simp only at h2 h3 ⊢
    by_cases hp:p<c
    ·exact eL p q h1 hp (by omega) h4
    by_cases hq:d≤q
    ·exact eH p q h1 (by omega) hq h4
    ·rw[same q (by omega)]
     have x2:=hi q (by omega) (by omega)
     by_cases hpm:p=m
     ·rw[hpm,same m (Int.le_refl _)];exact x2
     ·have x1:=left p (by omega) (by omega);omega
   ·simp only at h1 h2 h3 ⊢
    rw[show m+1 - 1=m by omega,same m (Int.le_refl _),same k (by omega)]
    exact hi k (by omega) h3
  ·refine WO.con (IH.out (d - (m+1)).toNat (by omega) hB h11 v zs (m+1) d l2 sw.ext hmB sw.own (by omega) (by omega) (by omega) (by omega) (by omega) hl2 (fun h1 k h2 h3=>by rw[show m+1 - 1=m by omega];exact hi k (by omega) h3)) ?_
   rintro _ h12 ⟨vs,s12,r12⟩
   have st:=sw.call s12 (by omega) (Int.le_refl _)
   obtain⟨eA,eB,eL,eH⟩:=env.out vs st.pi
   have same:∀ k,0≤k→k≤m→atI vs k=atI zs k:=fun k h0 hk=>s12.pi.out k h0 (.inl (by omega))
   have right:∀ k,m+1≤k→k<d→atI zs m≤atI vs k:=s12.pi.all (p:=fun x=>atI zs m≤x) (by omega) (by omega) (fun k h1 h2=>hi k (by omega) h2)
   refine go ?_
   refine zA (vs,c,m,l2,decide ((d - c).tdiv 8≤d - m),w) (by simp only;omega) ⟨s4.call st hcd.1 hcd.2.2,sl_,sl_,sl_,sl_,sl_,by simp only;omega,hl2,eA,fun p q h1 h2 h3=> ?_,eL,fun p q h1 h2 h3 h4=> ?_,fun h1 k h2 h3=> ?_⟩
   ·simp only at h1 ⊢
    by_cases hp:d≤p
    ·exact eB p q hp h2 h3
    by_cases hq:d≤q
    ·exact eH p q (by omega) (by omega) hq h3
    by_cases hpm:p=m
    ·by_cases hqm:q=m
     ·rw[hqm,hpm];exact Int.le_refl _
     ·rw[hpm,same m (by omega) (Int.le_refl _)];exact right q (by omega) (by omega)
    ·exact r12 p q (by omega) h2 (by omega)
   ·simp only at h2 h3 ⊢
    by_cases hp:p<c
    ·exact eL p q h1 hp (by omega) h4
    by_cases hq:d≤q
    ·exact eH p q h1 (by omega) hq h4
    ·have x1:=lo p (by omega) h2
     rw[same p (by omega) (by omega)]
     by_cases hqm:q=m
     ·rw[hqm,same m (by omega) (Int.le_refl _)];exact x1
     ·have x2:=right q (by omega) (by omega);omega
   ·simp only at h1 h2 h3 ⊢
    exact low7.out vs st.pi h1 k h2 (by omega)
theorem insertion_nil (h:AHeap):WC Try.prog tb 36 [.slice none 0 0,I 0,I 0] h fun r h'=>h=h':=by
 refine WC.of (zH 36) tab36 ?_;simp only[zn,Nat.zero_add,Nat.reduceAdd]
 refine go ?_
 refine WX.loopA [10,11,12,15,7,16,17,18,19,20,21,22,23,24,25,26,27,28,29,30,33,34,35,36,37,38,39,40,41,42,43,44,45,46,47,48,31,32,7,13,14,6] (by kernel_rfl) (fun _=>0) (fun (_:Unit) t h1=>h=h1∧zB t 6=I 1) () ?_ ?_
 ·exact⟨rfl,sl_⟩
 rintro _ t _ hsame ⟨rfl,s6⟩
 refine go ?_
 refine rtN ?_
 rfl
theorem pdq_nil (h:AHeap) (k:Int):WC Try.prog tb 27 [.slice none 0 0,I 0,I 0,I k] h fun r h'=>h=h':=by
 refine WC.of (zH 27) tab27 ?_;simp only[zn,Nat.zero_add,Nat.reduceAdd]
 refine go ?_
 refine WX.loopA [19,20,21,10,22,23,24,25,26,27,28,29,30,31,32,33,34,35,36,37,38,39,40,41,3,43,44,45,46,42,47,48,11,12,49,50,51,52,53,54,55,56,57,58,59,60,11,12,61,62,63,64,65,66,67,68,69,70,71,72,73,74,75,76,77,78,79,80,81,82,83,84,85,86,87,88,89,90,91,92,13,93,1,95,96,97,98,99,94,100,101,14,15,102,9,103,104,105,106,107,108,16,17,109,110,18,111,112,113,114,115,116,8,117,118,119,120,121,122,123,1,124,125,126,8,127,128,129,130,131,132,133,2] (by kernel_rfl) (fun _=>0) (fun (_:Unit) t h1=>h=h1∧zB t 1=I 0∧zB t 2=I 0) () ?_ ?_
 ·exact⟨rfl,sl_,sl_⟩
 rintro _ t _ hsame ⟨rfl,s1,s2⟩
 refine go ?_
 refine WO.con (insertion_nil h) ?_
 rintro _ _ rfl
 refine go ?_
 refine rt ?_
 rfl
def sortL (xs:List Int):List Int:=xs.mergeSort (fun a b=>decide (a≤b))
noncomputable def body16:ACode:=(.seq (.region [⟨some 3,none,(.mov (.tmp 0))⟩,⟨some 4,none,(.len (.tmp 3))⟩,⟨some 2,none,(.mov (.tmp 4))⟩]) (.region [⟨some 5,none,(.mov (.tmp 0))⟩,⟨some 6,none,(.mov (.tmp 2))⟩,⟨some 7,none,(.mov (.tmp 2))⟩,⟨some 8,none,(.conv .u64 (.tmp 7))⟩,⟨some 9,none,(.call (.func 28) [(.tmp 8)])⟩,⟨some 10,none,(.call (.func 27) [(.tmp 5),(.const (.int .i64 0)),(.tmp 6),(.tmp 9)])⟩]))
set_option maxRecDepth 100000 in
theorem tab16:tb.code 16=some ⟨11,[],body16⟩:=by kernel_rfl
theorem sort_ok (hB h:AHeap) (v:Value) (xs:List Int) (e0:Ext hB h) (hmB:hB.mark≤hB.n) (o:OwnN hB h v xs) (hlen:xs.length≤1000000000):
  WC Try.prog tb 16 [v] h fun r h'=>OwnN hB h' v (sortL xs)∧Ext hB h'∧Upd v h h':=by
 have s:SlI h v xs:=o.sl
 refine WC.of (zH 16) tab16 ?_;simp only[zn,Nat.zero_add,Nat.reduceAdd]
 refine go ?_
 rw[wrapU64 (by omega) (by omega)]
 refine WO.con (len_ok h xs.length (by omega) (by omega)) ?_
 rintro _ _ ⟨⟨k,rfl,hk,hk2⟩,rfl⟩
 refine go ?_
 rcases o with ⟨rfl,rfl⟩|o
 ·rw[show ((([]:List Int).length:Nat):Int)=0 from rfl]
  refine WO.con (pdq_nil h k) ?_
  rintro _ _ rfl
  refine go ?_
  refine rtN ?_
  exact⟨.inl ⟨rfl,by simp[sortL]⟩,e0,Upd.refl _ _⟩
 refine WO.con (pdq_ok xs.length hB h v xs 0 xs.length k e0 hmB o (by omega) (by omega) (by omega) (by omega) hlen (by omega) (fun h=>by omega)) ?_
 rintro _ h2 ⟨ys,s2,r2⟩
 refine go ?_
 refine rtN ?_
 have:ys=sortL xs:=srt_unique s2.pi.perm (by rw[s2.len];exact r2)
 exact⟨.inr (this▸s2.own),s2.ext,s2.upd⟩
end Go.Proofs.Ytejjibilgmlhdaa
namespace Go.Proofs.Ytejjibilgmlhdaa
open Go.Am
set_option linter.unusedVariables false
set_option linter.unusedSimpArgs false
set_option maxHeartbeats 1000000
def RW (h:AHeap) (cs:List Value) (w:LWd):Prop:=cs=[I w.pos,W w.bits]∧w.bits<18446744073709551616∧ -9223372036854775808≤w.pos∧w.pos≤9223372036854775807
abbrev SlW (h:AHeap) (v:Value) (s:List LWd):Prop:=SlR 2 RW h v s
theorem SlW.ext {h h' v s} (k:SlW h v s) (e:Ext h h'):SlW h' v s:=SlR.ext (h:=h) (h':=h') (R:=RW) (fun cs a r=>r) k e
theorem SlW.bd {h v s} (k:SlW h v s):BdW s:=fun w hw=>by
 obtain⟨i,hi,e⟩:=List.mem_iff_getElem.1 hw
 obtain⟨cs,⟨_,h2,_⟩,_⟩:=k.at hi
 rw[←e];exact h2
noncomputable def body17:ACode:=(.seq (.region [⟨some 2,none,(.mov (.const (.bool false)))⟩]) (.seq (.region [⟨some 3,none,(.mov (.tmp 0))⟩,⟨some 4,none,(.bin .geq (.tmp 3) (.const (.int .i64 0)))⟩,⟨some 5,none,(.mov (.tmp 4))⟩,⟨some 6,some (5,true),(.mov (.tmp 0))⟩,⟨some 7,some (5,true),(.bin .lss (.tmp 6) (.const (.int .i64 1048576)))⟩,⟨some 8,none,(.pick (.tmp 5) (.tmp 7) (.const (.bool false)))⟩,⟨some 2,none,(.mov (.tmp 8))⟩]) .ret))
set_option maxRecDepth 100000 in
theorem tab17:tb.code 17=some ⟨9,[(2,none)],body17⟩:=by kernel_rfl
theorem within_ok (h:AHeap) (n:Int):WC Try.prog tb 17 [I n] h fun r h'=>r= .bool (decide (0≤n)&&decide (n<1048576))∧h=h':=by
 refine WC.of (zH 17) tab17 ?_;simp only[zn,Nat.zero_add,Nat.reduceAdd]
 refine go ?_
 refine go ?_
 repeat' (first|(refine WX.br (fun hb=> ?_) (fun hb=> ?_)<;>(try simp only[DB]at hb)<;>refine go ?_)|(refine WO.sp (fun hb=> ?_) (fun hb=> ?_)<;>(try simp only[DB]at hb)<;>refine go ?_))<;>refine rt ?_<;>exact⟨by simp[one, *]<;>omega,rfl⟩
noncomputable def body20:ACode:=(.seq (.region [⟨some 4,none,(.mov (.const (.int .u64 0)))⟩]) (.seq (.region [⟨some 5,none,(.mov (.tmp 0))⟩,⟨some 6,none,(.mov (.tmp 1))⟩,⟨some 7,none,(.bin .or (.tmp 5) (.tmp 6))⟩,⟨some 4,none,(.mov (.tmp 7))⟩]) .ret))
set_option maxRecDepth 100000 in
theorem tab20:tb.code 20=some ⟨8,[(4,none)],body20⟩:=by kernel_rfl
theorem or1_ok (h:AHeap) (a b:Nat) (ha:a<18446744073709551616) (hb:b<18446744073709551616):WC Try.prog tb 20 [W a,W b] h fun r h'=>r=W (a|||b)∧h=h':=by
 refine WC.of (zH 20) tab20 ?_;simp only[zn,Nat.zero_add,Nat.reduceAdd]
 refine go ?_
 refine WO.bin zP zP (u_or ha hb).1 ?_
 refine go ?_
 refine rt ?_
 exact⟨rfl,rfl⟩
noncomputable def body23:ACode:=(.seq (.region [⟨some 4,none,(.mov (.const (.int .u64 0)))⟩]) (.seq (.region [⟨some 5,none,(.mov (.tmp 0))⟩,⟨some 6,none,(.mov (.tmp 1))⟩,⟨some 7,none,(.bin .and (.tmp 5) (.tmp 6))⟩,⟨some 4,none,(.mov (.tmp 7))⟩]) .ret))
set_option maxRecDepth 100000 in
theorem tab23:tb.code 23=some ⟨8,[(4,none)],body23⟩:=by kernel_rfl
theorem and1_ok (h:AHeap) (a b:Nat) (ha:a<18446744073709551616) (hb:b<18446744073709551616):WC Try.prog tb 23 [W a,W b] h fun r h'=>r=W (a&&& b)∧h=h':=by
 refine WC.of (zH 23) tab23 ?_;simp only[zn,Nat.zero_add,Nat.reduceAdd]
 refine go ?_
 refine WO.bin zP zP (u_and ha hb) ?_
 refine go ?_
 refine rt ?_
 exact⟨rfl,rfl⟩
noncomputable def body25:ACode:=(.seq (.region [⟨some 4,none,(.mov (.const (.int .u64 0)))⟩]) (.seq (.region [⟨some 5,none,(.mov (.tmp 0))⟩,⟨some 6,none,(.mov (.tmp 1))⟩,⟨some 7,none,(.bin .andNot (.tmp 5) (.tmp 6))⟩,⟨some 4,none,(.mov (.tmp 7))⟩]) .ret))
set_option maxRecDepth 100000 in
theorem tab25:tb.code 25=some ⟨8,[(4,none)],body25⟩:=by kernel_rfl
theorem minus1_ok (h:AHeap) (a b:Nat) (ha:a<18446744073709551616) (hb:b<18446744073709551616):WC Try.prog tb 25 [W a,W b] h fun r h'=>r=W (notN a b)∧h=h':=by
 refine WC.of (zH 25) tab25 ?_;simp only[zn,Nat.zero_add,Nat.reduceAdd]
 refine go ?_
 refine WO.bin zP zP (u_notN ha hb).1 ?_
 refine go ?_
 refine rt ?_
 exact⟨rfl,rfl⟩
noncomputable def body30_0:ACode:=(.seq (.seq (.region [⟨some 5,none,(.mov (.tmp 4))⟩,⟨some 6,none,(.mov (.tmp 0))⟩,⟨some 7,none,(.bin .rem (.tmp 6) (.const (.int .i64 64)))⟩,⟨some 8,none,(.bin .lss (.tmp 5) (.tmp 7))⟩]) (.cond (.tmp 8) .skip (.exit 0))) (.seq (.block 1 (.region [⟨some 11,none,(.mov (.tmp 3))⟩,⟨some 12,none,(.bin .mul (.const (.int .u64 2)) (.tmp 11))⟩,⟨some 3,none,(.mov (.tmp 12))⟩])) (.region [⟨some 9,none,(.mov (.tmp 4))⟩,⟨some 10,none,(.bin .add (.tmp 9) (.const (.int .i64 1)))⟩,⟨some 4,none,(.mov (.tmp 10))⟩])))
noncomputable def body30:ACode:=(.seq (.region [⟨some 2,none,(.mov (.const (.int .u64 0)))⟩]) (.seq (.region [⟨some 3,none,(.mov (.const (.int .u64 1)))⟩]) (.seq (.seq (.region [⟨some 4,none,(.mov (.const (.int .i64 0)))⟩]) (.block 0 (.loop body30_0))) (.seq (.region [⟨some 13,none,(.mov (.tmp 3))⟩,⟨some 2,none,(.mov (.tmp 13))⟩]) .ret))))
set_option maxRecDepth 100000 in
theorem tab30:tb.code 30=some ⟨14,[(2,none)],body30⟩:=by kernel_rfl
theorem rbit_ok (h:AHeap) (n:Int) (h0:0≤n) (h1:n<9223372036854775807):WC Try.prog tb 30 [I n] h fun r h'=>r=W (2 ^ (n % 64).toNat)∧h=h':=by
 refine WC.of (zH 30) tab30 ?_;simp only[zn,Nat.zero_add,Nat.reduceAdd]
 refine go ?_
 refine WX.loopA [5,6,7,8,11,12,3,9,10,4] (by kernel_rfl) (fun i=>64 - i) (fun i t h1=>h=h1∧zB t 4=I i∧zB t 3=W (2 ^ i)∧i≤(n % 64).toNat) 0 ?_ ?_
 ·exact⟨rfl,sl_,sl_,Nat.zero_le _⟩
 rintro i t _ hsame ⟨rfl,s4,s3,hi⟩
 refine go ?_
 have hr:zb .rem (I n) (I 64)=some (I (n % 64)):=by
  simp only[zb,I,if_true];rw[if_neg (by decide),Int.tmod_eq_emod_of_nonneg h0]
 refine WO.bin zP zP hr ?_
 refine go ?_
 refine WX.br (fun hb=> ?_) (fun hb=> ?_)<;>simp only[DB]at hb
 ·refine go ?_
  have hlt:2 ^ (i+1)<2 ^ 64:=Nat.pow_lt_pow_right (by decide) (by omega)
  have hm:zb .mul (W 2) (W (2 ^ i))=some (W (2 ^ (i+1))):=by
   rw[u_mul,Nat.mod_eq_of_lt (show 2 * 2 ^ i<2 ^ 64 by rw[Nat.pow_succ]at hlt;omega),Nat.pow_succ,Nat.mul_comm]
  refine WO.bin rfl zP hm ?_
  refine go ?_
  exact zA (i+1) (by omega) ⟨rfl,sln,sl_,by omega⟩
 ·refine go ?_
  refine rt ?_
  exact⟨by rw[show (n % 64).toNat=i by omega];rfl,rfl⟩
section
variable {P:Program} {tab:Tab} {t:Trie Value} {h:AHeap} {ds:List Deferred} {rd:Option Nat} {l:List AOper} {Q:AFr→AHeap→Prop}
end
end Go.Proofs.Ytejjibilgmlhdaa
namespace Go.Proofs.Ytejjibilgmlhdaa
open Go.Am
set_option linter.unusedVariables false
set_option linter.unusedSimpArgs false
set_option maxHeartbeats 1000000
theorem drop_cons {s:List LWd} {i:Nat} (h:i<s.length):s.drop i=s.getD i default::s.drop (i+1):=by
 rw[List.drop_eq_getElem_cons h,List.getD_eq_getElem?_getD,List.getElem?_eq_getElem h];rfl
theorem wd_at {h:AHeap} {v:Value} {s:List LWd} {i:Nat} (k:SlW h v s) (hi:i<s.length):∃ cs,RW h cs (s.getD i default)∧Piece h v (i * 2) cs∧IsSl v:=by
 obtain⟨cs,a,_,c⟩:=k.at hi
 exact⟨cs,by rw[List.getD_eq_getElem?_getD,List.getElem?_eq_getElem hi];exact a,c,k.some hi⟩
def errW (b:Bool):Int:=if b then 0 else 8
theorem yI {last:Int} {w:LWd} {l:List LWd} (h:w.pos≤last∨16384≤w.pos∨(w.bits:Int)=0):zM last (w::l)=false:=by
 unfold zM
 rcases h with h|h|h
 ·rw[decide_eq_false (show ¬last<w.pos by omega)];rfl
 ·rw[decide_eq_false (show ¬w.pos<16384 by omega),Bool.and_false];rfl
 ·rw[decide_eq_false (show ¬w.bits≠0 by omega),Bool.and_false];rfl
theorem checkW_good {last:Int} {w:LWd} {l:List LWd} (h1:last<w.pos) (h2:w.pos<16384) (h3:w.bits≠0):zM last (w::l)=zM w.pos l:=by
 rw[zM,decide_eq_true h1,decide_eq_true h2,decide_eq_true h3];rfl
noncomputable def body31_0:ACode:=(.seq (.region [⟨some 9,none,(.bin .lss (.tmp 8) (.tmp 7))⟩]) (.seq (.cond (.tmp 9) .skip (.exit 0)) (.seq (.block 1 (.seq (.region [⟨some 10,none,(.idx 2 (.tmp 6) (.tmp 8))⟩,⟨some 11,none,(.load true 2 (.tmp 10))⟩,⟨some 5,none,(.alloc [(.int .i64 0),(.int .u64 0)])⟩,⟨none,none,(.store 2 (.tmp 5) (.tmp 11))⟩]) (.seq (.seq (.region [⟨some 12,none,(.fld 0 (.tmp 5))⟩,⟨some 13,none,(.load false 1 (.tmp 12))⟩,⟨some 14,none,(.mov (.tmp 3))⟩,⟨some 15,none,(.bin .leq (.tmp 13) (.tmp 14))⟩,⟨some 16,none,(.mov (.tmp 15))⟩,⟨some 17,some (16,false),(.fld 0 (.tmp 5))⟩,⟨some 18,some (16,false),(.load false 1 (.tmp 17))⟩,⟨some 19,some (16,false),(.bin .geq (.tmp 18) (.const (.int .i64 16384)))⟩,⟨some 20,none,(.pick (.tmp 16) (.const (.bool true)) (.tmp 19))⟩,⟨some 21,none,(.mov (.tmp 20))⟩,⟨some 22,some (21,false),(.fld 1 (.tmp 5))⟩,⟨some 23,some (21,false),(.load false 1 (.tmp 22))⟩,⟨some 24,some (21,false),(.bin .eql (.tmp 23) (.const (.int .u64 0)))⟩,⟨some 25,none,(.pick (.tmp 21) (.const (.bool true)) (.tmp 24))⟩]) (.cond (.tmp 25) (.seq (.region [⟨some 2,none,(.mov (.const (.int .i64 8)))⟩]) .ret) .skip)) (.region [⟨some 26,none,(.fld 0 (.tmp 5))⟩,⟨some 27,none,(.load false 1 (.tmp 26))⟩,⟨some 3,none,(.mov (.tmp 27))⟩])))) (.region [⟨some 28,none,(.bin .add (.tmp 8) (.const (.int .i64 1)))⟩,⟨some 8,none,(.mov (.tmp 28))⟩]))))
noncomputable def body31:ACode:=(.seq (.region [⟨some 2,none,(.mov (.const (.int .i64 0)))⟩]) (.seq (.region [⟨some 3,none,(.mov (.const (.int .i64 (-1))))⟩]) (.seq (.seq (.region [⟨some 6,none,(.mov (.tmp 0))⟩,⟨some 7,none,(.len (.tmp 6))⟩,⟨some 8,none,(.mov (.const (.int .i64 0)))⟩]) (.block 0 (.loop body31_0))) (.seq (.region [⟨some 2,none,(.mov (.const (.int .i64 0)))⟩]) .ret))))
set_option maxRecDepth 100000 in
theorem tab31:tb.code 31=some ⟨29,[(2,none)],body31⟩:=by kernel_rfl
theorem check_ok (h:AHeap) (v:Value) (s:List LWd) (k:SlW h v s) (hl:(s.length:Int)≤1000000000):
  WC Try.prog tb 31 [v] h fun r h'=>r=I (errW (zM (-1) s))∧Ext h h':=by
 refine WC.of (zH 31) tab31 ?_;simp only[zn,Nat.zero_add,Nat.reduceAdd]
 refine go ?_
 refine WX.loopA [9,10,11,5,12,13,14,15,16,17,18,19,20,21,22,23,24,25,2,26,27,3,28,8] (by kernel_rfl) (fun i=>s.length - i) (fun i t h1=>Ext h h1∧zB t 8=I i∧i≤s.length∧∃ last:Int,zB t 3=I last∧Hid (zM (-1) s=zM last (s.drop i))) 0 ?_ ?_
 ·exact⟨Ext.refl _,sl_,Nat.zero_le _,-1,sl_,⟨rfl⟩⟩
 rintro i t h1 hsame ⟨e1,s8,hi,last,s3,hc⟩
 have k1:=SlW.ext k e1
 refine go ?_
 refine WX.br (fun hb=> ?_) (fun hb=> ?_)<;>simp only[DB]at hb
 ·have hi':i<s.length:=by omega
  obtain⟨cs,⟨rfl,w1,w2,w3⟩,pc,hs⟩:=wd_at k1 hi'
  have hd:=hc.out
  rw[drop_cons hi']at hd
  generalize s.getD i default=w at *
  have hd:=Hid.mk hd
  refine go ?_
  refine WO.al ?_
  intro p h2 e2 o2
  refine go ?_
  refine WO.stC0 (cs:=[I w.pos,W w.bits]) o2 e2 ?_
  intro h3 e3 o3 u3
  refine go ?_
  refine go ?_
  repeat' (first|(refine WX.br (fun hb=> ?_) (fun hb=> ?_)<;>(try simp only[DB]at hb)<;>refine go ?_)|(refine WO.sp (fun hb=> ?_) (fun hb=> ?_)<;>(try simp only[DB]at hb)<;>refine go ?_))
  ·refine rt ?_
   exact⟨by rw[hd.out,yI (.inl hb)];rfl,e1.trans e3⟩
  ·refine rt ?_
   exact⟨by rw[hd.out,yI (.inr (.inl hb))];rfl,e1.trans e3⟩
  ·refine rt ?_
   exact⟨by rw[hd.out,yI (.inr (.inr hb))];rfl,e1.trans e3⟩
  ·refine zA (i+1) (by omega) ⟨e1.trans e3,sln,by omega,w.pos,sl_,⟨?_⟩⟩
   rw[hd.out];exact checkW_good (by omega) (by omega) (by omega)
 ·refine go ?_
  refine rt ?_
  have:=hc.out
  rw[show i=s.length by omega,List.drop_length]at this
  exact⟨by rw[this];rfl,e1⟩
end Go.Proofs.Ytejjibilgmlhdaa
namespace Go.Proofs.Ytejjibilgmlhdaa
open Go.Am
set_option linter.unusedVariables false
set_option linter.unusedSimpArgs false
set_option maxHeartbeats 1000000
noncomputable def body21_0:ACode:=(.seq (.seq (.region [⟨some 4,none,(.mov (.tmp 3))⟩,⟨some 5,none,(.mov (.tmp 0))⟩,⟨some 6,none,(.len (.tmp 5))⟩,⟨some 7,none,(.bin .lss (.tmp 4) (.tmp 6))⟩]) (.cond (.tmp 7) .skip (.exit 0))) (.seq (.block 1 (.seq (.regionC [(⟨some 10,none,(.mov (.tmp 0))⟩,[]),(⟨some 11,none,(.mov (.tmp 3))⟩,[]),(⟨some 12,none,(.idx 2 (.tmp 10) (.tmp 11))⟩,[]),(⟨some 13,none,(.fld 0 (.tmp 12))⟩,[]),(⟨some 14,none,(.load false 1 (.tmp 13))⟩,[]),(⟨some 15,none,(.bin .lss (.tmp 14) (.const (.int .i64 0)))⟩,[]),(⟨some 16,none,(.mov (.tmp 15))⟩,[]),(⟨some 17,some (16,false),(.mov (.tmp 0))⟩,[]),(⟨some 18,some (16,false),(.mov (.tmp 3))⟩,[]),(⟨some 19,some (16,false),(.idx 2 (.tmp 17) (.tmp 18))⟩,[]),(⟨some 20,some (16,false),(.fld 0 (.tmp 19))⟩,[]),(⟨some 21,some (16,false),(.load false 1 (.tmp 20))⟩,[]),(⟨some 22,some (16,false),(.bin .geq (.tmp 21) (.const (.int .i64 16384)))⟩,[]),(⟨some 23,none,(.pick (.tmp 16) (.const (.bool true)) (.tmp 22))⟩,[]),(⟨some 24,none,(.mov (.tmp 23))⟩,[]),(⟨some 25,some (24,false),(.mov (.tmp 0))⟩,[]),(⟨some 26,some (24,false),(.mov (.tmp 3))⟩,[]),(⟨some 27,some (24,false),(.idx 2 (.tmp 25) (.tmp 26))⟩,[]),(⟨some 28,some (24,false),(.fld 1 (.tmp 27))⟩,[]),(⟨some 29,some (24,false),(.load false 1 (.tmp 28))⟩,[]),(⟨some 30,some (24,false),(.bin .eql (.tmp 29) (.const (.int .u64 0)))⟩,[]),(⟨some 31,none,(.pick (.tmp 24) (.const (.bool true)) (.tmp 30))⟩,[]),(⟨some 32,none,(.mov (.tmp 31))⟩,[]),(⟨some 33,some (32,false),(.mov (.tmp 3))⟩,[]),(⟨some 34,some (32,false),(.bin .gtr (.tmp 33) (.const (.int .i64 0)))⟩,[]),(⟨some 35,some (32,false),(.mov (.tmp 34))⟩,[]),(⟨some 36,some (35,true),(.mov (.tmp 0))⟩,[]),(⟨some 37,some (35,true),(.mov (.tmp 3))⟩,[]),(⟨some 38,some (35,true),(.bin .sub (.tmp 37) (.const (.int .i64 1)))⟩,[]),(⟨some 39,some (35,true),(.idx 2 (.tmp 36) (.tmp 38))⟩,[]),(⟨some 40,some (35,true),(.fld 0 (.tmp 39))⟩,[]),(⟨some 41,some (35,true),(.load false 1 (.tmp 40))⟩,[]),(⟨some 42,some (35,true),(.mov (.tmp 0))⟩,[]),(⟨some 43,some (35,true),(.mov (.tmp 3))⟩,[]),(⟨some 44,some (35,true),(.idx 2 (.tmp 42) (.tmp 43))⟩,[]),(⟨some 45,some (35,true),(.fld 0 (.tmp 44))⟩,[]),(⟨some 46,some (35,true),(.load false 1 (.tmp 45))⟩,[]),(⟨some 47,some (35,true),(.bin .geq (.tmp 41) (.tmp 46))⟩,[]),(⟨some 48,some (32,false),(.pick (.tmp 35) (.tmp 47) (.const (.bool false)))⟩,[]),(⟨some 49,none,(.pick (.tmp 32) (.const (.bool true)) (.tmp 48))⟩,[])]) (.cond (.tmp 49) (.seq (.region [⟨some 2,none,(.mov (.const (.bool false)))⟩]) .ret) .skip))) (.region [⟨some 8,none,(.mov (.tmp 3))⟩,⟨some 9,none,(.bin .add (.tmp 8) (.const (.int .i64 1)))⟩,⟨some 3,none,(.mov (.tmp 9))⟩])))
noncomputable def body21:ACode:=(.seq (.region [⟨some 2,none,(.mov (.const (.bool false)))⟩]) (.seq (.seq (.region [⟨some 3,none,(.mov (.const (.int .i64 0)))⟩]) (.block 0 (.loop body21_0))) (.seq (.region [⟨some 2,none,(.mov (.const (.bool true)))⟩]) .ret)))
set_option maxRecDepth 100000 in
theorem tab21:tb.code 21=some ⟨50,[(2,none)],body21⟩:=by kernel_rfl
theorem rMay_ok (h:AHeap) (v:Value) (s:List LWd) (k:SlW h v s) (hl:(s.length:Int)≤1000000000):
  WC Try.prog tb 21 [v] h fun r h'=>r= .bool (zM (-1) s)∧h=h':=by
 refine WC.of (zH 21) tab21 ?_;simp only[zn,Nat.zero_add,Nat.reduceAdd]
 refine go ?_
 refine WX.loopA [4,5,6,7,10,11,12,13,14,15,16,17,18,19,20,21,22,23,24,25,26,27,28,29,30,31,32,33,34,35,36,37,38,39,40,41,42,43,44,45,46,47,48,49,2,8,9,3] (by kernel_rfl) (fun i=>s.length - i) (fun i t h1=>h=h1∧zB t 3=I i∧i≤s.length∧∃ last:Int,Hid (zM (-1) s=zM last (s.drop i))∧(i=0→last= -1)∧(0<i→(s.getD (i - 1) default).pos=last∧0≤last)) 0 ?_ ?_
 ·exact⟨rfl,sl_,Nat.zero_le _,-1,⟨rfl⟩,fun _=>rfl,fun h=>absurd h (Nat.lt_irrefl _)⟩
 rintro i t _ hsame ⟨rfl,s3,hi,last,hc,hc0,hc1⟩
 refine go ?_
 refine WX.br (fun hb=> ?_) (fun hb=> ?_)<;>simp only[DB]at hb
 ·have hi':i<s.length:=by omega
  obtain⟨cs,⟨rfl,w1,w2,w3⟩,pc,hs⟩:=wd_at k hi'
  have hd:=hc.out
  rw[drop_cons hi']at hd
  have hg:(s.getD (i+1 - 1) default)=s.getD i default:=rfl
  rw[←hg]at hd w1 w2 w3 pc
  generalize hw:s.getD (i+1 - 1) default=w at hd w1 w2 w3 pc
  have hd:=Hid.mk hd
  have hw:=Hid.mk hw
  by_cases h0:i=0
  ·subst h0
   have hlast:=hc0 rfl
   clear hc0 hc1
   refine go ?_
   repeat' (first|(refine WX.br (fun hb=> ?_) (fun hb=> ?_)<;>(try simp only[DB]at hb)<;>refine go ?_)|(refine WO.sp (fun hb=> ?_) (fun hb=> ?_)<;>(try simp only[DB]at hb)<;>refine go ?_))
   ·refine rt ?_
    exact⟨by rw[hd.out,yI (by omega)];rfl,rfl⟩
   ·refine rt ?_
    exact⟨by rw[hd.out,yI (by omega)];rfl,rfl⟩
   ·refine rt ?_
    exact⟨by rw[hd.out,yI (by omega)];rfl,rfl⟩
   ·exact zA (0+1) (by omega) ⟨rfl,sln,by omega,w.pos,⟨hd.out.trans (checkW_good (by omega) (by omega) (by omega))⟩,fun h=>absurd h (by omega),fun _=>⟨by rw[hw.out],by omega⟩⟩
  ·obtain⟨j,rfl⟩:∃ j,i=j+1:=⟨i - 1,by omega⟩
   obtain⟨hp,hp0⟩:=hc1 (by omega)
   obtain⟨cs2,⟨rfl,y1,y2,y3⟩,pc2,_⟩:=wd_at k (show j<s.length by omega)
   rw[show s.getD (j+1 - 1) default=s.getD j default from rfl]at hp
   rw[hp]at y2 y3 pc2
   rw[show j * 2=(((j+1:Nat):Int) - 1).toNat * 2 by omega]at pc2
   clear hc0 hc1 hp
   refine go ?_
   repeat' (first|(refine WX.br (fun hb=> ?_) (fun hb=> ?_)<;>(try simp only[DB]at hb)<;>refine go ?_)|(refine WO.sp (fun hb=> ?_) (fun hb=> ?_)<;>(try simp only[DB]at hb)<;>refine go ?_))
   ·refine rt ?_
    exact⟨by rw[hd.out,yI (by omega)];rfl,rfl⟩
   ·refine rt ?_
    exact⟨by rw[hd.out,yI (by omega)];rfl,rfl⟩
   ·refine rt ?_
    exact⟨by rw[hd.out,yI (by omega)];rfl,rfl⟩
   ·refine rt ?_
    exact⟨by rw[hd.out,yI (by omega)];rfl,rfl⟩
   ·exact zA (j+1+1) (by omega) ⟨rfl,sln,by omega,w.pos,⟨hd.out.trans (checkW_good (by omega) (by omega) (by omega))⟩,fun h=>absurd h (by omega),fun _=>⟨by rw[hw.out],by omega⟩⟩
 ·refine go ?_
  refine rt ?_
  have:=hc.out
  rw[show i=s.length by omega,List.drop_length]at this
  exact⟨by rw[this];rfl,rfl⟩
end Go.Proofs.Ytejjibilgmlhdaa
namespace Go.Proofs.Ytejjibilgmlhdaa
open Go.Am
set_option linter.unusedVariables false
set_option linter.unusedSimpArgs false
set_option maxHeartbeats 1000000
theorem b_quo {n:Int} (h0:0≤n) (h1:n<9223372036854775808):zb .quo (I n) (I 64)=some (I (n / 64)):=by
 simp only[zb,I,if_true];rw[if_neg (by decide),Int.tdiv_eq_ediv_of_nonneg h0,wrap64 (by omega) (by omega)]
theorem b_rem {n:Int} (h0:0≤n):zb .rem (I n) (I 64)=some (I (n % 64)):=by
 simp only[zb,I,if_true];rw[if_neg (by decide),Int.tmod_eq_emod_of_nonneg h0]
theorem has_word {s:List LWd} {i:Nat} {n:Int} (ok:OkW s) (hi:i<s.length) (hp:(s.getD i default).pos=n / 64):inB s n=(s.getD i default).bits.testBit (n % 64).toNat:=by
 have hm:s.getD i default∈s:=by rw[List.getD_eq_getElem?_getD,List.getElem?_eq_getElem hi];exact List.getElem_mem hi
 cases hb:(s.getD i default).bits.testBit (n % 64).toNat with
 |true=>exact inB_iff.2 ⟨_,hm,hp,hb⟩
 |false=>
  refine inB_false fun ⟨w,hw,e,hb2⟩=> ?_
  have:w=s.getD i default:=by
   obtain⟨j,hj,ej⟩:=List.getElem_of_mem hw
   by_cases h1:j=i
   ·subst h1;rw[←ej,List.getD_eq_getElem?_getD,List.getElem?_eq_getElem hj];rfl
   ·exfalso
    rw[List.getD_eq_getElem?_getD,List.getElem?_eq_getElem hi]at hp
    have hp:s[i].pos=n / 64:=hp
    rcases Nat.lt_or_gt_of_ne h1 with h|h
    ·have:=List.pairwise_iff_getElem.1 ok.rise _ _ hj hi h;rw[ej]at this;omega
    ·have:=List.pairwise_iff_getElem.1 ok.rise _ _ hi hj h;rw[ej]at this;omega
  rw[this,hb]at hb2;cases hb2
theorem numsL_cons (w:LWd) (s:List LWd):(numsL (w::s)).length=(bitsL w.bits).length+(numsL s).length:=by
 unfold numsL;simp
theorem bitsL_le (b:Nat):(bitsL b).length≤64:=by
 have:=List.length_filter_le b.testBit (List.range 64)
 rw[List.length_range]at this;exact this
end Go.Proofs.Ytejjibilgmlhdaa
namespace Go.Proofs.Ytejjibilgmlhdaa
open Go.Am
set_option linter.unusedVariables false
set_option linter.unusedSimpArgs false
set_option maxHeartbeats 1000000
abbrev OwnW (b:Nat) (h:AHeap) (v:Value) (s:List LWd):Prop:=OwnR 2 RW b h v s
theorem RW.dep {h:AHeap} {w:LWd} (h1:w.bits<18446744073709551616) (h2: -9223372036854775808≤w.pos) (h3:w.pos≤9223372036854775807) (D:Nat→Prop):Dep RW h [I w.pos,W w.bits] w D:=
 fun _ _ _=>⟨rfl,h1,h2,h3⟩
def DoOk (fv:Value) (f:Nat→Nat→Nat):Prop:=∀ (h:AHeap) (a b:Nat),a<18446744073709551616→b<18446744073709551616→WV Try.prog tb fv [W a,W b] h fun r h'=>r=W (f a b)∧h=h'
noncomputable def body33:ACode:=(.seq (.region [⟨some 1,none,(.box (.tmp 0))⟩,⟨some 2,none,(.mov (.const (.int .i64 0)))⟩]) (.seq (.region [⟨some 3,none,(.fld 0 (.tmp 1))⟩,⟨some 4,none,(.load false 1 (.tmp 3))⟩,⟨some 2,none,(.mov (.tmp 4))⟩]) .ret))
set_option maxRecDepth 100000 in
theorem tab33:tb.code 33=some ⟨5,[(2,none)],body33⟩:=by kernel_rfl
theorem both1_ok (h:AHeap) (w:LWd):WC Try.prog tb 33 [.agg #[I w.pos,W w.bits]] h fun r h'=>r=I w.pos∧Ext h h':=by
 refine WC.of (zH 33) tab33 ?_;simp only[zn,Nat.zero_add,Nat.reduceAdd]
 refine go ?_
 refine WO.bx ?_
 intro p h1 e1 o1
 refine go ?_
 refine rt ?_
 exact⟨rfl,e1⟩
def putL (p:Int) (v:Nat) (out:List LWd):List LWd:=if v=0 then out else out++[⟨p,v⟩]
theorem putL_putW (p:Int) (v:Nat) (out s:List LWd):putL p v out++s=out++putW p v s:=by
 unfold putL putW;split<;>simp
structure PutS (hB h:AHeap) (b:Nat) (p5 p6 fv:Value) (out:List LWd):Prop where
 e:Ext hB h
 o5:OwnC hB h p5 [fv]
 bb:hB.n≤b∧b≤h.n
 p5b:∀ g,p5= .pointer (some ⟨g,0,none⟩)→g<b
 p6b:∀ g,p6= .pointer (some ⟨g,0,none⟩)→g<b
 ne:p5≠p6
 v:∃ v,OwnC hB h p6 [v]∧OwnW b h v out
theorem ownC_keepB {hB h h':AHeap} {p:Value} {cells:List Value} {b vn vk:Nat} {va:Option Addr} (o:OwnC hB h p cells) (hb:∀ g,p= .pointer (some ⟨g,0,none⟩)→g<b) (hv:∀ g,va=some ⟨g,0,none⟩→b≤g)
  (keep:∀ k,k<h.n→(∀ n k',Value.slice va vn vk≠ .slice (some ⟨k,0,none⟩) n k')→h'.get k=h.get k) (hn:h.n≤h'.n):OwnC hB h' p cells:=by
 obtain⟨g,g1,g2,rfl,g4⟩:=o
 refine⟨g,g1,Nat.lt_of_lt_of_le g2 hn,rfl,(keep g g2 fun n k' e=> ?_).trans g4⟩
 cases e
 have h1:=hb g rfl
 have h2:=hv g rfl
 omega
theorem ownC_keepU {hB h h':AHeap} {p q:Value} {cells:List Value} (o:OwnC hB h p cells) (u:UpdC q h h') (hne:p≠q):OwnC hB h' p cells:=by
 obtain⟨g,g1,g2,rfl,g4⟩:=o
 exact⟨g,g1,Nat.lt_of_lt_of_le g2 u.1,rfl,(u.2 g g2 fun e=>hne e.symm).trans g4⟩
theorem zV {α:Type} {c b:Nat} {R:AHeap→List Value→α→Prop} {h:AHeap} {v:Value} {xs:List α} (ow:OwnR c R b h v xs):∃ a n k,v= .slice a n k∧∀ g,a=some ⟨g,0,none⟩→b≤g∧g<h.n:=by
 rcases ow with ⟨rfl,_⟩|⟨g,_,_,g1,g2,rfl,_⟩
 ·exact⟨_,_,_,rfl,fun g e=>by cases e⟩
 ·exact⟨_,_,_,rfl,fun g' e=>by cases e;exact⟨g1,g2⟩⟩
noncomputable def body34:ACode:=(.seq (.region [⟨some 5,none,(.box (.tmp 0))⟩,⟨some 6,none,(.box (.tmp 1))⟩]) (.seq (.region [⟨some 9,none,(.load false 1 (.tmp 3))⟩,⟨some 10,none,(.fld 1 (.tmp 5))⟩,⟨some 11,none,(.load false 1 (.tmp 10))⟩,⟨some 12,none,(.fld 1 (.tmp 6))⟩,⟨some 13,none,(.load false 1 (.tmp 12))⟩,⟨some 14,none,(.call (.tmp 9) [(.tmp 11),(.tmp 13)])⟩,⟨some 8,none,(.mov (.tmp 14))⟩]) (.seq (.region [⟨some 15,none,(.mov (.tmp 8))⟩,⟨some 16,none,(.bin .neq (.tmp 15) (.const (.int .u64 0)))⟩]) (.cond (.tmp 16) (.region [⟨some 17,none,(.load false 1 (.tmp 4))⟩,⟨some 18,none,(.mov (.tmp 2))⟩,⟨some 19,none,(.mov (.tmp 8))⟩,⟨some 20,none,(.build [(.int .i64 0),(.int .u64 0)] [(0,1,(.tmp 18)),(1,1,(.tmp 19))])⟩,⟨some 21,none,(.buildSlice 1 2 [(.int .i64 0),(.int .u64 0)] [(0,2,(.tmp 20))])⟩,⟨some 22,none,(.append 2 (.tmp 17) (.tmp 21))⟩,⟨none,none,(.store 1 (.tmp 4) (.tmp 22))⟩]) .skip))))
set_option maxRecDepth 100000 in
theorem tab34:tb.code 34=some ⟨23,[],body34⟩:=by kernel_rfl
theorem both2_ok (hB h:AHeap) (b:Nat) (p5 p6 fv:Value) (f:Nat→Nat→Nat) (hf:DoOk fv f) (out:List LWd) (x y:LWd) (at':Int) (S:PutS hB h b p5 p6 fv out) (hx:x.bits<18446744073709551616) (hy:y.bits<18446744073709551616) (hl:out.length≤100000)
  (hz:f x.bits y.bits<18446744073709551616) (ha: -9223372036854775808≤at'∧at'≤9223372036854775807) (hm:h.mark≤h.n):
  WC Try.prog tb 34 [.agg #[I x.pos,W x.bits],.agg #[I y.pos,W y.bits],I at',p5,p6] h fun r h'=>PutS hB h' b p5 p6 fv (putL at' (f x.bits y.bits) out)∧h.n≤h'.n∧(∀ k∈h'.wr,k∈h.wr∨hB.n≤k)∧
   (∀ p cells,OwnC hB h p cells→p≠p6→(∀ g,p= .pointer (some ⟨g,0,none⟩)→g<b)→OwnC hB h' p cells):=by
 obtain⟨e0,o5,⟨b1,b2⟩,h5,h6,hne,v,o6,ow⟩:=S
 obtain⟨va,vn,vk,rfl,hvn⟩:=zV ow
 refine WC.of (zH 34) tab34 ?_;simp only[zn,Nat.zero_add,Nat.reduceAdd]
 refine go ?_
 refine WO.bx ?_
 intro p3 h1 e1 o3
 refine go ?_
 refine WO.bx ?_
 intro p4 h2 e2 o4
 have o3:=o3.ext e2
 have o5':=o5.ext (e1.trans e2)
 have o6':=o6.ext (e1.trans e2)
 have ow':=OwnR.ext ow (e1.trans e2)
 have e02:=e0.trans (e1.trans e2)
 have hn12:=(e1.trans e2).n
 refine go ?_
 refine WO.conV (hf h2 x.bits y.bits hx hy) ?_
 rintro _ _ ⟨rfl,rfl⟩
 have hw12:h2.wr=h.wr:=(e1.trans e2).wr hm
 refine go ?_
 refine WX.br (fun hc=> ?_) (fun hc=> ?_)<;>simp only[DB]at hc
 ·refine go ?_
  refine WO.apRw (b:=b) (R:=RW) (h:=h2) ⟨at',f x.bits y.bits⟩ (fun _=>False) ow' e02 b1 (by omega) (by decide) hl (RW.dep hz ha.1 ha.2 _) (fun k hk=>hk.elim) (fun _ _ _ _ h=>h) ?_
  intro v' h3 lit e3 ow3 n3 keep3 w3
  obtain⟨va',vn',vk',rfl,hvn'⟩:=zV ow3
  have hvb:∀ g,va=some ⟨g,0,none⟩→b≤g:=fun g e=>(hvn g e).1
  have o6'':OwnC hB h3 p6 [.slice va vn vk]:=ownC_keepB o6' h6 hvb keep3 n3
  refine go ?_
  refine WO.stC0w (cs:=[.slice va' vn' vk']) o6'' e3 ?_
  intro h4 e4 o4' u4 w4
  refine go ?_
  refine rtN ?_
  refine⟨⟨e4,ownC_keepU (ownC_keepB o5' h5 hvb keep3 n3) u4 hne,⟨b1,by have:=u4.1;omega⟩,h5,h6,hne,_,o4',?_⟩,by have:=u4.1;omega,fun k hk=> ?_,fun p cells o hp hpb=>ownC_keepU (ownC_keepB (o.ext (e1.trans e2)) hpb hvb keep3 n3) u4 hp⟩
  ·unfold putL
   rw[if_neg (by omega)]
   refine OwnR.upd ow3 (fun k k1 k2=>u4.2 k k2 fun e=> ?_) u4.1
   have:=h6 k e;omega
  ·rcases w4 k hk with h|h
   ·rcases w3 k h with h|h
    ·rw[hw12]at h;exact .inl h
    ·exact .inr (by omega)
   ·exact .inr h
 ·refine go ?_
  refine rtN ?_
  refine⟨⟨e02,o5',⟨b1,by omega⟩,h5,h6,hne,_,o6',?_⟩,hn12,fun k hk=> ?_,fun p cells o _ _=>o.ext (e1.trans e2)⟩
  ·unfold putL
   rw[if_pos (by omega)];exact ow'
  ·rw[hw12]at hk;exact .inl hk
theorem PutS.enter {hB h X:AHeap} {b:Nat} {p5 p6 fv:Value} {out:List LWd} (S:PutS hB h b p5 p6 fv out) (e:Ext (inC (zC 0 h)) X):PutS {hB with mark:=X.n,wr:=[]} (inC X) b p5 p6 fv out:=by
 obtain⟨e0,o5,⟨b1,b2⟩,h5,h6,hne,v,o6,ow⟩:=S
 have o5:OwnC hB X p5 [fv]:=OwnC.ext (h:=inC (zC 0 h)) o5 e
 have o6:OwnC hB X p6 [v]:=OwnC.ext (h:=inC (zC 0 h)) o6 e
 have ow:OwnW b X v out:=OwnR.upd ow (fun k _ hk=>e.get k hk) e.n
 have hn:h.n≤X.n:=e.n
 refine⟨⟨Nat.le_trans e0.n hn,fun g hg=>(e.get g (Nat.lt_of_lt_of_le hg e0.n)).trans (e0.get g hg),fun w=>e.wf (e0.wf w),rfl,fun _=>rfl⟩,o5,⟨b1,Nat.le_trans b2 hn⟩,h5,h6,hne,v,o6,OwnR.upd ow (fun _ _ _=>rfl) (Nat.le_refl _)⟩
theorem PutS.leave {hB h h':AHeap} {b m:Nat} {p5 p6 fv:Value} {out:List LWd} (S:PutS {hB with mark:=m,wr:=[]} h' b p5 p6 fv out) (e:Ext hB h):PutS hB (outC h h') b p5 p6 fv out:=by
 obtain⟨e0,o5,⟨b1,b2⟩,h5,h6,hne,v,o6,ow⟩:=S
 exact⟨⟨e0.n,e0.get,fun w=>e0.wf w,e.mark,fun hm=>e.wr hm⟩,o5,⟨b1,b2⟩,h5,h6,hne,v,o6,OwnR.upd ow (fun _ _ _=>rfl) (Nat.le_refl _)⟩
theorem merge_a {f:Nat→Nat→Nat} {A B:List LWd} (hA:0<A.length) (h:B.length=0∨(A.getD 0 default).pos<(B.getD 0 default).pos):zR f A B=putW (A.getD 0 default).pos (f (A.getD 0 default).bits 0) (zR f (A.drop 1) B):=by
 cases A with
 |nil=>simp at hA
 |cons x a=>
  cases B with
  |nil=>rw[zR];rfl
  |cons y b=>
   have h:x.pos<y.pos:=h.resolve_left (by simp)
   rw[zR,if_pos h];rfl
theorem merge_b {f:Nat→Nat→Nat} {A B:List LWd} (hB:0<B.length) (h:A.length=0∨(B.getD 0 default).pos<(A.getD 0 default).pos):zR f A B=putW (B.getD 0 default).pos (f 0 (B.getD 0 default).bits) (zR f A (B.drop 1)):=by
 cases B with
 |nil=>simp at hB
 |cons y b=>
  cases A with
  |nil=>rw[zR];rfl
  |cons x a=>
   have h:y.pos<x.pos:=h.resolve_left (by simp)
   rw[zR,if_neg (by omega),if_pos h];rfl
theorem merge_c {f:Nat→Nat→Nat} {A B:List LWd} (hA:0<A.length) (hB:0<B.length) (h:(A.getD 0 default).pos=(B.getD 0 default).pos):zR f A B=putW (A.getD 0 default).pos (f (A.getD 0 default).bits (B.getD 0 default).bits) (zR f (A.drop 1) (B.drop 1)):=by
 cases A with
 |nil=>simp at hA
 |cons x a=>
  cases B with
  |nil=>simp at hB
  |cons y b=>
   have h:x.pos=y.pos:=h
   rw[zR,if_neg (by omega),if_neg (by omega)];rfl
theorem putL_len {p:Int} {v:Nat} {out:List LWd}:(putL p v out).length≤out.length+1:=by
 unfold putL;split<;>simp
theorem ext_reg {h h':AHeap} (e:Ext (inC (zC 0 h)) h'):Ext h (outC h (inC h')):=⟨e.n,e.get,fun w=>e.wf w,rfl,fun _=>rfl⟩
theorem ext_reg2 {h h' h2:AHeap} (e:Ext (inC (zC 0 h)) h') (e2:Ext (inC h') h2):Ext h (outC h (inC h2)):=⟨Nat.le_trans e.n e2.n,fun g hg=>(e2.get g (Nat.lt_of_lt_of_le hg e.n)).trans (e.get g hg),fun w=>e2.wf (e.wf w),rfl,fun _=>rfl⟩
theorem PutS.ext {hB h h':AHeap} {b:Nat} {p5 p6 fv:Value} {out:List LWd} (S:PutS hB h b p5 p6 fv out) (e:Ext h h'):PutS hB h' b p5 p6 fv out:=by
 obtain⟨e0,o5,⟨b1,b2⟩,h5,h6,hne,v,o6,ow⟩:=S
 exact⟨e0.trans e,o5.ext e,⟨b1,Nat.le_trans b2 e.n⟩,h5,h6,hne,v,o6.ext e,OwnR.ext ow e⟩
theorem out_in (h:AHeap):outC h (inC (zC 0 h))=h:=rfl
noncomputable def body32_0:ACode:=(.seq (.seq (.region [⟨some 9,none,(.mov (.tmp 0))⟩,⟨some 10,none,(.len (.tmp 9))⟩,⟨some 11,none,(.bin .gtr (.tmp 10) (.const (.int .i64 0)))⟩,⟨some 12,none,(.mov (.tmp 11))⟩,⟨some 13,some (12,false),(.mov (.tmp 1))⟩,⟨some 14,some (12,false),(.len (.tmp 13))⟩,⟨some 15,some (12,false),(.bin .gtr (.tmp 14) (.const (.int .i64 0)))⟩,⟨some 16,none,(.pick (.tmp 12) (.const (.bool true)) (.tmp 15))⟩]) (.cond (.tmp 16) .skip (.exit 0))) (.block 1 (.block 2 (.seq (.regionC [(⟨some 35,none,(.mov (.tmp 1))⟩,[]),(⟨some 36,none,(.len (.tmp 35))⟩,[]),(⟨some 37,none,(.bin .eql (.tmp 36) (.const (.int .i64 0)))⟩,[]),(⟨some 38,none,(.mov (.tmp 37))⟩,[]),(⟨some 39,some (38,false),(.mov (.tmp 0))⟩,[]),(⟨some 40,some (38,false),(.len (.tmp 39))⟩,[]),(⟨some 41,some (38,false),(.bin .gtr (.tmp 40) (.const (.int .i64 0)))⟩,[]),(⟨some 42,some (38,false),(.mov (.tmp 41))⟩,[]),(⟨some 43,some (42,true),(.mov (.tmp 2))⟩,[]),(⟨some 44,some (42,true),(.mov (.tmp 0))⟩,[]),(⟨some 45,some (42,true),(.idx 2 (.tmp 44) (.const (.int .i64 0)))⟩,[]),(⟨some 46,some (42,true),(.load true 2 (.tmp 45))⟩,[]),(⟨some 47,some (42,true),(.call (.tmp 43) [(.tmp 46)])⟩,[]),(⟨some 48,some (42,true),(.mov (.tmp 2))⟩,[]),(⟨some 49,some (42,true),(.mov (.tmp 1))⟩,[]),(⟨some 50,some (42,true),(.idx 2 (.tmp 49) (.const (.int .i64 0)))⟩,[]),(⟨some 51,some (42,true),(.load true 2 (.tmp 50))⟩,[12]),(⟨some 52,some (42,true),(.call (.tmp 48) [(.tmp 51)])⟩,[]),(⟨some 53,some (42,true),(.bin .lss (.tmp 47) (.tmp 52))⟩,[]),(⟨some 54,some (38,false),(.pick (.tmp 42) (.tmp 53) (.const (.bool false)))⟩,[]),(⟨some 55,none,(.pick (.tmp 38) (.const (.bool true)) (.tmp 54))⟩,[]),(⟨some 34,none,(.mov (.tmp 55))⟩,[])]) (.cond (.tmp 34) (.seq (.regionC [(⟨some 56,none,(.mov (.tmp 3))⟩,[]),(⟨some 57,none,(.mov (.tmp 0))⟩,[]),(⟨some 58,none,(.idx 2 (.tmp 57) (.const (.int .i64 0)))⟩,[]),(⟨some 59,none,(.load true 2 (.tmp 58))⟩,[]),(⟨some 60,none,(.load true 2 (.tmp 8))⟩,[]),(⟨some 61,none,(.mov (.tmp 2))⟩,[]),(⟨some 62,none,(.mov (.tmp 0))⟩,[]),(⟨some 63,none,(.idx 2 (.tmp 62) (.const (.int .i64 0)))⟩,[]),(⟨some 64,none,(.load true 2 (.tmp 63))⟩,[]),(⟨some 65,none,(.call (.tmp 61) [(.tmp 64)])⟩,[3,4]),(⟨some 66,none,(.call (.tmp 56) [(.tmp 59),(.tmp 60),(.tmp 65)])⟩,[])]) (.region [⟨some 67,none,(.mov (.tmp 0))⟩,⟨some 68,none,(.slice 2 (.tmp 67) (some (.const (.int .i64 1))) none none)⟩,⟨some 0,none,(.mov (.tmp 68))⟩])) (.seq (.regionC [(⟨some 70,none,(.mov (.tmp 0))⟩,[]),(⟨some 71,none,(.len (.tmp 70))⟩,[]),(⟨some 72,none,(.bin .eql (.tmp 71) (.const (.int .i64 0)))⟩,[]),(⟨some 73,none,(.mov (.tmp 72))⟩,[]),(⟨some 74,some (73,false),(.mov (.tmp 2))⟩,[]),(⟨some 75,some (73,false),(.mov (.tmp 1))⟩,[]),(⟨some 76,some (73,false),(.idx 2 (.tmp 75) (.const (.int .i64 0)))⟩,[]),(⟨some 77,some (73,false),(.load true 2 (.tmp 76))⟩,[]),(⟨some 78,some (73,false),(.call (.tmp 74) [(.tmp 77)])⟩,[]),(⟨some 79,some (73,false),(.mov (.tmp 2))⟩,[]),(⟨some 80,some (73,false),(.mov (.tmp 0))⟩,[]),(⟨some 81,some (73,false),(.idx 2 (.tmp 80) (.const (.int .i64 0)))⟩,[]),(⟨some 82,some (73,false),(.load true 2 (.tmp 81))⟩,[8]),(⟨some 83,some (73,false),(.call (.tmp 79) [(.tmp 82)])⟩,[]),(⟨some 84,some (73,false),(.bin .lss (.tmp 78) (.tmp 83))⟩,[]),(⟨some 85,none,(.pick (.tmp 73) (.const (.bool true)) (.tmp 84))⟩,[]),(⟨some 69,none,(.mov (.tmp 85))⟩,[])]) (.cond (.tmp 69) (.seq (.regionC [(⟨some 86,none,(.mov (.tmp 3))⟩,[]),(⟨some 87,none,(.load true 2 (.tmp 8))⟩,[]),(⟨some 88,none,(.mov (.tmp 1))⟩,[]),(⟨some 89,none,(.idx 2 (.tmp 88) (.const (.int .i64 0)))⟩,[]),(⟨some 90,none,(.load true 2 (.tmp 89))⟩,[]),(⟨some 91,none,(.mov (.tmp 2))⟩,[]),(⟨some 92,none,(.mov (.tmp 1))⟩,[]),(⟨some 93,none,(.idx 2 (.tmp 92) (.const (.int .i64 0)))⟩,[]),(⟨some 94,none,(.load true 2 (.tmp 93))⟩,[]),(⟨some 95,none,(.call (.tmp 91) [(.tmp 94)])⟩,[1,4]),(⟨some 96,none,(.call (.tmp 86) [(.tmp 87),(.tmp 90),(.tmp 95)])⟩,[])]) (.region [⟨some 97,none,(.mov (.tmp 1))⟩,⟨some 98,none,(.slice 2 (.tmp 97) (some (.const (.int .i64 1))) none none)⟩,⟨some 1,none,(.mov (.tmp 98))⟩])) (.seq (.regionC [(⟨some 17,none,(.mov (.tmp 3))⟩,[]),(⟨some 18,none,(.mov (.tmp 0))⟩,[]),(⟨some 19,none,(.idx 2 (.tmp 18) (.const (.int .i64 0)))⟩,[]),(⟨some 20,none,(.load true 2 (.tmp 19))⟩,[]),(⟨some 21,none,(.mov (.tmp 1))⟩,[]),(⟨some 22,none,(.idx 2 (.tmp 21) (.const (.int .i64 0)))⟩,[]),(⟨some 23,none,(.load true 2 (.tmp 22))⟩,[]),(⟨some 24,none,(.mov (.tmp 2))⟩,[]),(⟨some 25,none,(.mov (.tmp 0))⟩,[]),(⟨some 26,none,(.idx 2 (.tmp 25) (.const (.int .i64 0)))⟩,[]),(⟨some 27,none,(.load true 2 (.tmp 26))⟩,[]),(⟨some 28,none,(.call (.tmp 24) [(.tmp 27)])⟩,[3,6]),(⟨some 29,none,(.call (.tmp 17) [(.tmp 20),(.tmp 23),(.tmp 28)])⟩,[])]) (.regionC [(⟨some 30,none,(.mov (.tmp 0))⟩,[]),(⟨some 31,none,(.slice 2 (.tmp 30) (some (.const (.int .i64 1))) none none)⟩,[]),(⟨some 32,none,(.mov (.tmp 1))⟩,[]),(⟨some 33,none,(.slice 2 (.tmp 32) (some (.const (.int .i64 1))) none none)⟩,[]),(⟨some 0,none,(.mov (.tmp 31))⟩,[]),(⟨some 1,none,(.mov (.tmp 33))⟩,[])])))))))))
noncomputable def body32:ACode:=(.seq (.region [⟨some 8,none,(.alloc [(.int .i64 0),(.int .u64 0)])⟩]) (.block 0 (.loop body32_0)))
set_option maxRecDepth 100000 in
theorem tab32:tb.code 32=some ⟨99,[],body32⟩:=by kernel_rfl
theorem merge_ok (hB h:AHeap) (va vb p5 p6 fv:Value) (f:Nat→Nat→Nat) (hf:DoOk fv f) (hfz:∀ x y,x<18446744073709551616→y<18446744073709551616→f x y<18446744073709551616) (A B:List LWd) (ka:SlW hB va A) (kb:SlW hB vb B) (la:A.length≤1000) (lb:B.length≤1000)
  (e:Ext hB h) (hm:hB.mark≤hB.n) (o5:OwnC hB h p5 [fv]) (o6:OwnC hB h p6 [.slice none 0 0]) (hne:p5≠p6):
  WC Try.prog tb 32 [va,vb,.func (.func 33) #[] #[],.func (.func 34) #[] #[p5,p6]] h fun r h'=>Ext hB h'∧∃ v b,hB.n≤b∧OwnC hB h' p6 [v]∧OwnW b h' v (zR f A B)∧∀ g,p6= .pointer (some ⟨g,0,none⟩)→g<b:=by
 refine WC.of (zH 32) tab32 ?_;simp only[zn,Nat.zero_add,Nat.reduceAdd]
 refine go ?_
 refine WO.al ?_
 intro p8 h0 e0 o8
 refine go ?_
 obtain⟨g8,g81,g82,rfl,g84⟩:=id o8
 have o8:=o8.since e
 have S0:PutS hB h0 h0.n p5 p6 fv []:=⟨e.trans e0,o5.ext e0,⟨(e.trans e0).n,Nat.le_refl _⟩,fun g eg=>by
  obtain⟨g',_,a,b,_⟩:=o5;rw[b]at eg;cases eg;have:=e0.n;omega,fun g eg=>by
  obtain⟨g',_,a,b,_⟩:=o6;rw[b]at eg;cases eg;have:=e0.n;omega,hne,_,o6.ext e0,OwnR.nil⟩
 have h86:Value.pointer (some ⟨g8,0,none⟩)≠p6:=fun eq=>by
  obtain⟨g',_,a,b,_⟩:=o6;rw[b]at eq;cases eq;omega
 have hb8:∀ g,Value.pointer (some ⟨g8,0,none⟩)= .pointer (some ⟨g,0,none⟩)→g<h0.n:=fun g eg=>by cases eg;exact g82
 generalize hbb:h0.n=bb at S0 hb8
 generalize Value.pointer (some ⟨g8,0,none⟩)=p8 at *
 clear e0 g81 g82 g84 o5 o6
 refine WX.loopA [9,10,11,12,13,14,15,16,35,36,37,38,39,40,41,42,43,44,45,46,47,48,49,50,51,52,53,54,55,34,56,57,58,59,60,61,62,63,64,65,66,67,68,0,70,71,72,73,74,75,76,77,78,79,80,81,82,83,84,85,69,86,87,88,89,90,91,92,93,94,95,96,97,98,1,17,18,19,20,21,22,23,24,25,26,27,28,29,30,31,32,33,0,1] (by kernel_rfl) (fun p:List LWd×List LWd=>p.1.length+p.2.length) (fun p t h1=>∃ va' vb' out,zB t 0=va'∧zB t 1=vb'∧SlW hB va' p.1∧SlW hB vb' p.2∧PutS hB h1 bb p5 p6 fv out∧OwnC hB h1 p8 [I 0,W 0]∧Hid (zR f A B=out++zR f p.1 p.2)∧p.1.length≤1000∧p.2.length≤1000∧out.length+(p.1.length+p.2.length)≤2000) (A,B) ?_ ?_
 ·exact⟨va,vb,[],sl_,sl_,ka,kb,S0,o8,⟨rfl⟩,la,lb,by simp only[List.length_nil];omega⟩
 clear S0 o8 ka kb la lb
 rintro⟨a,b⟩ t h1 hsame ⟨va',vb',out,s0,s1,ka,kb,S,o8,hI,la,lb,lo⟩
 simp only at ka kb hI la lb lo
 have e1:=S.e
 have ka1:=SlW.ext ka e1
 have kb1:=SlW.ext kb e1
 have hm1:h1.mark≤h1.n:=by have:=e1.mark;have:=e1.n;omega
 have hmB:h1.mark≤hB.n:=by have:=e1.mark;omega
 by_cases hA:0<a.length
 case neg=>
  by_cases hBl:0<b.length
  case neg=>
   refine go ?_
   refine rtN ?_
   obtain⟨e1,o5,⟨b1,b2⟩,h5,h6,hne,v,o6,ow⟩:=S
   have:zR f a b=[]:=by
    have ha:a=[]:=List.eq_nil_of_length_eq_zero (by omega)
    have hb:b=[]:=List.eq_nil_of_length_eq_zero (by omega)
    subst ha hb;rw[zR]
   rw[hI.out,this,List.append_nil]
   exact⟨e1,v,bb,b1,o6,ow,h6⟩
  have hmg:=merge_b (f:=f) hBl (.inl (by omega:a.length=0))
  have kaX:SlW (inC (zC 0 h1)) va' a:=ka1
  have kbX:SlW (inC (zC 0 h1)) vb' b:=kb1
  have o8X:OwnC hB (inC (zC 0 h1)) p8 [I 0,W 0]:=o8
  obtain⟨cb,⟨rfl,y1,y2,y3⟩,pcb,hsb⟩:=slr_atX kb1 hBl
  have pcbX:=(pcb _ (Ext.refl _)).2
  have pcbX:Piece (inC (zC 0 h1)) vb' (0 * 2) [I (b.getD 0 default).pos,W (b.getD 0 default).bits]:=pcbX
  obtain⟨qa,qn,qk,hqv,hqb⟩:=slr_block (i:=0) kb1 hBl
  generalize b.getD 0 default=y at *
  have hI:=hI.out.trans (congrArg (out++·) hmg)
  have hI:=Hid.mk hI
  clear hmg
  refine go ?_
  refine WX.regionU2 0 rfl rfl ?_
  refine goU ?_
  refine uK2_gT ?_
  refine goU ?_
  rw[out_in]
  refine WX.regionU2 0 rfl rfl ?_
  refine goU ?_
  refine uK2_gF ?_
  refine goU ?_
  rw[out_in]
  refine WX.regionU2 0 rfl rfl ?_
  refine goU ?_
  refine WO.conV (WV.func (both1_ok _ y)) ?_
  rintro _ h2 ⟨rfl,e2⟩
  refine WO.nil ?_
  refine uK2_e e2 yC ?_
  have S2:=S.enter e2
  refine goU ?_
  refine WO.conV (WV.func (both2_ok _ (inC h2) bb p5 p6 fv f hf out ⟨0,0⟩ y y.pos S2 (by decide) y1 (by omega) (hfz _ _ (by decide) y1) ⟨y2,y3⟩ (Nat.le_refl _))) ?_
  rintro _ h3 ⟨S3,n3,w3,f3⟩
  refine WO.nil ?_
  refine uK2_w (fun k hk=> ?_) n3 ?_
  ·rcases w3 k hk with h|h
   ·cases h
   ·have h:hB.n≤k:=h
    omega
  have S4:=S3.leave e1
  have o84:OwnC hB (outC h1 h3) p8 [I 0,W 0]:=f3 p8 _ (by have:=OwnC.ext (h:=inC (zC 0 h1)) o8 e2;exact this) h86 hb8
  generalize outC h1 h3=h4 at S4 o84 ⊢
  obtain⟨vb2,hsl,kb2⟩:=slr_tail (i:=1) kb hBl (by omega)
  refine goU ?_
  refine WO.slLo (i:=1) (hy:=rfl) hsl ?_
  refine go ?_
  have hpl:=putL_len (p:=y.pos) (v:=f 0 y.bits) (out:=out)
  have hdl:(b.drop 1).length=b.length - 1:=List.length_drop ..
  refine zA (a,b.drop 1) (by simp only;omega) ⟨va',vb2,_,sl_,sl_,ka,kb2,S4,o84,⟨?_⟩,la,by simp only;omega,by simp only;omega⟩
  rw[putL_putW];exact hI.out
 by_cases hBl:0<b.length
 case neg=>
  have hmg:=merge_a (f:=f) hA (.inl (by omega:b.length=0))
  have kaX:SlW (inC (zC 0 h1)) va' a:=ka1
  have kbX:SlW (inC (zC 0 h1)) vb' b:=kb1
  have o8X:OwnC hB (inC (zC 0 h1)) p8 [I 0,W 0]:=o8
  obtain⟨ca,⟨rfl,y1,y2,y3⟩,pca,hsa⟩:=slr_atX ka1 hA
  have pcaX:=(pca _ (Ext.refl _)).2
  have pcaX:Piece (inC (zC 0 h1)) va' (0 * 2) [I (a.getD 0 default).pos,W (a.getD 0 default).bits]:=pcaX
  generalize a.getD 0 default=y at *
  have hI:=hI.out.trans (congrArg (out++·) hmg)
  have hI:=Hid.mk hI
  clear hmg
  refine go ?_
  refine WX.regionU2 0 rfl rfl ?_
  refine goU ?_
  refine uK2_gU ?_
  refine goU ?_
  rw[out_in]
  refine WX.regionU2 0 rfl rfl ?_
  refine goU ?_
  refine WO.conV (WV.func (both1_ok _ y)) ?_
  rintro _ h2 ⟨rfl,e2⟩
  refine WO.nil ?_
  refine uK2_e e2 yC ?_
  have S2:=S.enter e2
  refine goU ?_
  refine WO.conV (WV.func (both2_ok _ (inC h2) bb p5 p6 fv f hf out y ⟨0,0⟩ y.pos S2 y1 (by decide) (by omega) (hfz _ _ y1 (by decide)) ⟨y2,y3⟩ (Nat.le_refl _))) ?_
  rintro _ h3 ⟨S3,n3,w3,f3⟩
  refine WO.nil ?_
  refine uK2_w (fun k hk=> ?_) n3 ?_
  ·rcases w3 k hk with h|h
   ·cases h
   ·have h:hB.n≤k:=h
    omega
  have S4:=S3.leave e1
  have o84:OwnC hB (outC h1 h3) p8 [I 0,W 0]:=f3 p8 _ (by have:=OwnC.ext (h:=inC (zC 0 h1)) o8 e2;exact this) h86 hb8
  generalize outC h1 h3=h4 at S4 o84 ⊢
  obtain⟨va2,hsl,ka2⟩:=slr_tail (i:=1) ka hA (by omega)
  refine goU ?_
  refine WO.slLo (i:=1) (hy:=rfl) hsl ?_
  refine go ?_
  have hpl:=putL_len (p:=y.pos) (v:=f y.bits 0) (out:=out)
  have hdl:(a.drop 1).length=a.length - 1:=List.length_drop ..
  refine zA (a.drop 1,b) (by simp only;omega) ⟨va2,vb',_,sl_,sl_,ka2,kb,S4,o84,⟨?_⟩,by simp only;omega,lb,by simp only;omega⟩
  rw[putL_putW];exact hI.out
 have kaX:SlW (inC (zC 0 h1)) va' a:=ka1
 have kbX:SlW (inC (zC 0 h1)) vb' b:=kb1
 have o8X:OwnC hB (inC (zC 0 h1)) p8 [I 0,W 0]:=o8
 obtain⟨ca,⟨rfl,x1,x2,x3⟩,pca,hsa⟩:=slr_atX ka1 hA
 have pcaX:=(pca _ (Ext.refl _)).2
 have pcaX:Piece (inC (zC 0 h1)) va' (0 * 2) [I (a.getD 0 default).pos,W (a.getD 0 default).bits]:=pcaX
 obtain⟨cb,⟨rfl,y1,y2,y3⟩,pcb,hsb⟩:=slr_atX kb1 hBl
 have pcbX:=(pcb _ (Ext.refl _)).2
 have pcbX:Piece (inC (zC 0 h1)) vb' (0 * 2) [I (b.getD 0 default).pos,W (b.getD 0 default).bits]:=pcbX
 obtain⟨qa,qn,qk,hqv,hqb⟩:=slr_block (i:=0) kb1 hBl
 obtain⟨ra,rn,rk,hrv,hrb⟩:=slr_block (i:=0) ka1 hA
 have hma:=fun h=>merge_a (f:=f) hA (.inr h:b.length=0∨(a.getD 0 default).pos<(b.getD 0 default).pos)
 have hmb:=fun h=>merge_b (f:=f) hBl (.inr h:a.length=0∨(b.getD 0 default).pos<(a.getD 0 default).pos)
 have hmc:=merge_c (f:=f) hA hBl
 generalize a.getD 0 default=x at *
 generalize b.getD 0 default=y at *
 have hma:=Hid.mk hma
 have hmb:=Hid.mk hmb
 have hmc:=Hid.mk hmc
 refine go ?_
 refine WX.regionU2 0 rfl rfl ?_
 refine goU ?_
 refine WO.conV (WV.func (both1_ok _ x)) ?_
 rintro _ h2 ⟨rfl,e2⟩
 refine WO.nil ?_
 refine uK2_e e2 yC ?_
 have e3:Ext h1 (outC h1 (inC h2)):=ext_reg e2
 have kaY:SlW (inC h2) va' a:=by have:=SlW.ext ka1 e3;exact this
 have kbY:SlW (inC h2) vb' b:=by have:=SlW.ext kb1 e3;exact this
 have pcbY:Piece (inC h2) vb' (0 * 2) [I y.pos,W y.bits]:=by have:=(pcb _ e3).2;exact this
 refine goU ?_
 refine uK2_elg ⟨qa,qn,qk,hqv,hqb⟩ ?_
 refine goU ?_
 refine WO.conV (WV.func (both1_ok _ y)) ?_
 rintro _ h4 ⟨rfl,e4⟩
 refine WO.nil ?_
 refine uK2_e e4 yC ?_
 have e5:Ext h1 (outC h1 (inC h4)):=ext_reg2 e2 e4
 by_cases hlt:x.pos<y.pos
 ·have hI:=Hid.mk (hI.out.trans (congrArg (out++·) (hma.out hlt)))
  clear hma hmb hmc
  refine goU ?_
  generalize outC h1 (inC h4)=h5 at e5 ⊢
  have S:=S.ext e5
  have o8:=o8.ext e5
  have e15:=e1.trans e5
  have hmB:h5.mark≤hB.n:=by have:=e15.mark;omega
  have kaX:SlW (inC (zC 0 h5)) va' a:=by have:=SlW.ext ka1 e5;exact this
  have o8X:OwnC hB (inC (zC 0 h5)) p8 [I 0,W 0]:=o8
  have pcaX:Piece (inC (zC 0 h5)) va' (0 * 2) [I x.pos,W x.bits]:=by have:=(pca _ e5).2;exact this
  refine WX.regionU2 0 rfl rfl ?_
  refine goU ?_
  refine WO.conV (WV.func (both1_ok _ x)) ?_
  rintro _ h6 ⟨rfl,e6⟩
  refine WO.nil ?_
  refine uK2_e e6 yC ?_
  have S2:=S.enter e6
  refine goU ?_
  refine WO.conV (WV.func (both2_ok _ (inC h6) bb p5 p6 fv f hf out x ⟨0,0⟩ x.pos S2 x1 (by decide) (by omega) (hfz _ _ x1 (by decide)) ⟨x2,x3⟩ (Nat.le_refl _))) ?_
  rintro _ h3 ⟨S3,n3,w3,f3⟩
  refine WO.nil ?_
  refine uK2_w (fun k hk=> ?_) n3 ?_
  ·rcases w3 k hk with h|h
   ·cases h
   ·have h:hB.n≤k:=h
    omega
  have S4:=S3.leave e15
  have o84:OwnC hB (outC h5 h3) p8 [I 0,W 0]:=f3 p8 _ (by have:=OwnC.ext (h:=inC (zC 0 h5)) o8 e6;exact this) h86 hb8
  generalize outC h5 h3=h7 at S4 o84 ⊢
  obtain⟨va2,hsl,ka2⟩:=slr_tail (i:=1) ka hA (by omega)
  refine goU ?_
  refine WO.slLo (i:=1) (hy:=rfl) hsl ?_
  refine go ?_
  have hpl:=putL_len (p:=x.pos) (v:=f x.bits 0) (out:=out)
  have hdl:(a.drop 1).length=a.length - 1:=List.length_drop ..
  refine zA (a.drop 1,b) (by simp only;omega) ⟨va2,vb',_,sl_,sl_,ka2,kb,S4,o84,⟨?_⟩,by simp only;omega,lb,by simp only;omega⟩
  rw[putL_putW];exact hI.out
 refine goU ?_
 generalize outC h1 (inC h4)=h5 at e5 ⊢
 clear e3 kaY kbY pcbY e2 e4 kaX kbX o8X pcaX pcbX
 have S:=S.ext e5
 have o8:=o8.ext e5
 have e15:=e1.trans e5
 have hmB:h5.mark≤hB.n:=by have:=e15.mark;omega
 have ka5:=SlW.ext ka1 e5
 have kb5:=SlW.ext kb1 e5
 have kaX:SlW (inC (zC 0 h5)) va' a:=ka5
 have kbX:SlW (inC (zC 0 h5)) vb' b:=kb5
 have o8X:OwnC hB (inC (zC 0 h5)) p8 [I 0,W 0]:=o8
 have pcaX:Piece (inC (zC 0 h5)) va' (0 * 2) [I x.pos,W x.bits]:=by have:=(pca _ e5).2;exact this
 have pcbX:Piece (inC (zC 0 h5)) vb' (0 * 2) [I y.pos,W y.bits]:=by have:=(pcb _ e5).2;exact this
 refine WX.regionU2 0 rfl rfl ?_
 refine goU ?_
 refine WO.conV (WV.func (both1_ok _ y)) ?_
 rintro _ h2 ⟨rfl,e2⟩
 refine WO.nil ?_
 refine uK2_e e2 yC ?_
 have e3:Ext h5 (outC h5 (inC h2)):=ext_reg e2
 have kaY:SlW (inC h2) va' a:=by have:=SlW.ext ka5 e3;exact this
 have pcaY:Piece (inC h2) va' (0 * 2) [I x.pos,W x.bits]:=by have:=(pca _ (e5.trans e3)).2;exact this
 have hrb5:ra.block<h5.n:=Nat.lt_of_lt_of_le hrb e5.n
 have hqb5:qa.block<h5.n:=Nat.lt_of_lt_of_le hqb e5.n
 refine goU ?_
 refine uK2_elg ⟨ra,rn,rk,hrv,hrb5⟩ ?_
 refine goU ?_
 refine WO.conV (WV.func (both1_ok _ x)) ?_
 rintro _ h4 ⟨rfl,e4⟩
 refine WO.nil ?_
 refine uK2_e e4 yC ?_
 have e6:Ext h5 (outC h5 (inC h4)):=ext_reg2 e2 e4
 by_cases hgt:y.pos<x.pos
 ·have hI:=Hid.mk (hI.out.trans (congrArg (out++·) (hmb.out hgt)))
  clear hma hmb hmc
  refine goU ?_
  generalize outC h5 (inC h4)=h6 at e6 ⊢
  have S:=S.ext e6
  have o8:=o8.ext e6
  have e16:=e15.trans e6
  have hmB:h6.mark≤hB.n:=by have:=e16.mark;omega
  have kbX:SlW (inC (zC 0 h6)) vb' b:=by have:=SlW.ext kb5 e6;exact this
  have o8X:OwnC hB (inC (zC 0 h6)) p8 [I 0,W 0]:=o8
  have pcbX:Piece (inC (zC 0 h6)) vb' (0 * 2) [I y.pos,W y.bits]:=by have:=(pcb _ (e5.trans e6)).2;exact this
  refine WX.regionU2 0 rfl rfl ?_
  refine goU ?_
  refine WO.conV (WV.func (both1_ok _ y)) ?_
  rintro _ h7 ⟨rfl,e7⟩
  refine WO.nil ?_
  refine uK2_e e7 yC ?_
  have S2:=S.enter e7
  refine goU ?_
  refine WO.conV (WV.func (both2_ok _ (inC h7) bb p5 p6 fv f hf out ⟨0,0⟩ y y.pos S2 (by decide) y1 (by omega) (hfz _ _ (by decide) y1) ⟨y2,y3⟩ (Nat.le_refl _))) ?_
  rintro _ h3 ⟨S3,n3,w3,f3⟩
  refine WO.nil ?_
  refine uK2_w (fun k hk=> ?_) n3 ?_
  ·rcases w3 k hk with h|h
   ·cases h
   ·have h:hB.n≤k:=h
    omega
  have S4:=S3.leave e16
  have o84:OwnC hB (outC h6 h3) p8 [I 0,W 0]:=f3 p8 _ (by have:=OwnC.ext (h:=inC (zC 0 h6)) o8 e7;exact this) h86 hb8
  generalize outC h6 h3=h8 at S4 o84 ⊢
  obtain⟨vb2,hsl,kb2⟩:=slr_tail (i:=1) kb hBl (by omega)
  refine goU ?_
  refine WO.slLo (i:=1) (hy:=rfl) hsl ?_
  refine go ?_
  have hpl:=putL_len (p:=y.pos) (v:=f 0 y.bits) (out:=out)
  have hdl:(b.drop 1).length=b.length - 1:=List.length_drop ..
  refine zA (a,b.drop 1) (by simp only;omega) ⟨va',vb2,_,sl_,sl_,ka,kb2,S4,o84,⟨?_⟩,la,by simp only;omega,by simp only;omega⟩
  rw[putL_putW];exact hI.out
 have hI:=Hid.mk (hI.out.trans (congrArg (out++·) (hmc.out (by omega))))
 clear hma hmb hmc
 refine goU ?_
 generalize outC h5 (inC h4)=h6 at e6 ⊢
 clear kaX kbX o8X pcaX pcbX kaY pcaY
 have S:=S.ext e6
 have o8:=o8.ext e6
 have e16:=e15.trans e6
 have hmB:h6.mark≤hB.n:=by have:=e16.mark;omega
 have kaX:SlW (inC (zC 0 h6)) va' a:=by have:=SlW.ext ka5 e6;exact this
 have kbX:SlW (inC (zC 0 h6)) vb' b:=by have:=SlW.ext kb5 e6;exact this
 have o8X:OwnC hB (inC (zC 0 h6)) p8 [I 0,W 0]:=o8
 have pcaX:Piece (inC (zC 0 h6)) va' (0 * 2) [I x.pos,W x.bits]:=by have:=(pca _ (e5.trans e6)).2;exact this
 have pcbX:Piece (inC (zC 0 h6)) vb' (0 * 2) [I y.pos,W y.bits]:=by have:=(pcb _ (e5.trans e6)).2;exact this
 refine WX.regionU2 0 rfl rfl ?_
 refine goU ?_
 refine WO.conV (WV.func (both1_ok _ x)) ?_
 rintro _ h7 ⟨rfl,e7⟩
 refine WO.nil ?_
 refine uK2_e e7 yC ?_
 have S2:=S.enter e7
 refine goU ?_
 refine WO.conV (WV.func (both2_ok _ (inC h7) bb p5 p6 fv f hf out x y x.pos S2 x1 y1 (by omega) (hfz _ _ x1 y1) ⟨x2,x3⟩ (Nat.le_refl _))) ?_
 rintro _ h3 ⟨S3,n3,w3,f3⟩
 refine WO.nil ?_
 refine uK2_w (fun k hk=> ?_) n3 ?_
 ·rcases w3 k hk with h|h
  ·cases h
  ·have h:hB.n≤k:=h
   omega
 have S4:=S3.leave e16
 have o84:OwnC hB (outC h6 h3) p8 [I 0,W 0]:=f3 p8 _ (by have:=OwnC.ext (h:=inC (zC 0 h6)) o8 e7;exact this) h86 hb8
 generalize outC h6 h3=h8 at S4 o84 ⊢
 obtain⟨va2,hsa2,ka2⟩:=slr_tail (i:=1) ka hA (by omega)
 obtain⟨vb2,hsb2,kb2⟩:=slr_tail (i:=1) kb hBl (by omega)
 refine goU ?_
 refine WO.slLo (i:=1) (hy:=rfl) hsa2 ?_
 refine go ?_
 refine WO.slLo (i:=1) (hy:=rfl) hsb2 ?_
 refine go ?_
 have hpl:=putL_len (p:=x.pos) (v:=f x.bits y.bits) (out:=out)
 have hda:(a.drop 1).length=a.length - 1:=List.length_drop ..
 have hdb:(b.drop 1).length=b.length - 1:=List.length_drop ..
 refine zA (a.drop 1,b.drop 1) (by simp only;omega) ⟨va2,vb2,_,sl_,sl_,ka2,kb2,S4,o84,⟨?_⟩,by simp only;omega,by simp only;omega,by simp only;omega⟩
 rw[putL_putW];exact hI.out
end Go.Proofs.Ytejjibilgmlhdaa
namespace Go.Proofs.Ytejjibilgmlhdaa
open Go.Am
set_option linter.unusedVariables false
set_option linter.unusedSimpArgs false
set_option maxHeartbeats 1000000
def bothE (A B:List LWd):Int:=if zM (-1) A&&zM (-1) B then 0 else 8
def bothL (f:Nat→Nat→Nat) (A B:List LWd):List LWd:=if zM (-1) A&&zM (-1) B then zR f A B else []
def MineW (h h':AHeap) (v:Value) (s:List LWd):Prop:=∃ b,h.n≤b∧OwnW b h' v s
theorem MineW.sl {h h' v s} (m:MineW h h' v s):SlW h' v s:=let ⟨_,_,o⟩:=m;OwnR.sl o
theorem MineW.ext {h h1 h2 v s} (m:MineW h h1 v s) (e:Ext h1 h2):MineW h h2 v s:=let ⟨b,hb,o⟩:=m;⟨b,hb,OwnR.ext o e⟩
theorem MineW.nil {h h':AHeap}:MineW h h' (.slice none 0 0) []:=⟨h.n,Nat.le_refl _,OwnR.nil⟩
section
variable {P:Program} {tab:Tab} {t:Trie Value} {h:AHeap} {ds:List Deferred} {rd:Option Nat} {l:List AOper} {Q:AFr→AHeap→Prop}
theorem WO.max2 {d:Nat} {x y:Operand} {a b r:Int} (hr:r=if a<b then b else a) (k:WO P tab l ⟨t.set d (I r),ds,rd⟩ h Q) (hx:Ope t x (I a):=by exact zP) (hy:Ope t y (I b):=by exact zP):WO P tab (⟨some d,none,.maxmin true [x,y]⟩::l) ⟨t,ds,rd⟩ h Q:=by
 have hx:ev t x=I a:=hx
 have hy:ev t y=I b:=hy
 refine WO.op (I r) h rfl ?_ k
 subst hr
 simp only[aop,hx,hy,List.map_cons,List.map_nil]
 rfl
end
noncomputable def body19:ACode:=(.seq (.region [⟨some 5,none,(.box (.tmp 2))⟩,⟨some 6,none,(.alloc [(.slice none 0 0)])⟩,⟨some 7,none,(.mov (.const (.int .i64 0)))⟩]) (.seq (.seq (.region [⟨some 9,none,(.mov (.tmp 0))⟩,⟨some 10,none,(.call (.func 31) [(.tmp 9)])⟩,⟨some 11,none,(.mov (.tmp 1))⟩,⟨some 12,none,(.call (.func 31) [(.tmp 11)])⟩,⟨some 13,none,(.maxmin true [(.tmp 10),(.tmp 12)])⟩,⟨some 8,none,(.mov (.tmp 13))⟩]) (.seq (.region [⟨some 14,none,(.mov (.tmp 8))⟩,⟨some 15,none,(.bin .neq (.tmp 14) (.const (.int .i64 0)))⟩]) (.cond (.tmp 15) (.seq (.region [⟨some 16,none,(.mov (.tmp 8))⟩,⟨none,none,(.store 1 (.tmp 6) (.const (.slice none 0 0)))⟩,⟨some 7,none,(.mov (.tmp 16))⟩]) .ret) .skip))) (.seq (.region [⟨some 17,none,(.mov (.tmp 0))⟩,⟨some 18,none,(.mov (.tmp 1))⟩,⟨some 19,none,(.mkFunc (.func 34) [] [(.tmp 5),(.tmp 6)])⟩,⟨some 20,none,(.call (.func 32) [(.tmp 17),(.tmp 18),(.func 33),(.tmp 19)])⟩]) (.seq (.region [⟨some 21,none,(.load false 1 (.tmp 6))⟩,⟨none,none,(.store 1 (.tmp 6) (.tmp 21))⟩,⟨some 7,none,(.mov (.const (.int .i64 0)))⟩]) .ret))))
set_option maxRecDepth 100000 in
theorem tab19:tb.code 19=some ⟨22,[(6,some (false,1)),(7,none)],body19⟩:=by kernel_rfl
theorem both_ok (h:AHeap) (va vb fv:Value) (f:Nat→Nat→Nat) (hf:DoOk fv f) (hfz:∀ x y,x<18446744073709551616→y<18446744073709551616→f x y<18446744073709551616) (hfc:fv.cells=#[fv]) (A B:List LWd) (ka:SlW h va A) (kb:SlW h vb B) (la:A.length≤1000) (lb:B.length≤1000) (hm:h.mark≤h.n):
  WC Try.prog tb 19 [va,vb,fv] h fun r h'=>(∃ v,r= .tuple #[v,I (bothE A B)]∧MineW h h' v (bothL f A B))∧Ext h h':=by
 refine WC.of (zH 19) tab19 ?_;simp only[zn,Nat.zero_add,Nat.reduceAdd]
 refine go ?_
 refine WO.bx ?_
 intro p5 h1 e1 o5
 rw[hfc]at o5
 have o5:OwnC h h1 p5 [fv]:=o5
 refine go ?_
 refine WO.al ?_
 intro p6 h2 e2 o6
 have o5':=o5.ext e2
 have e12:=e1.trans e2
 have hne:p5≠p6:=fun e=>by
  obtain⟨g,_,g2,a,_⟩:=o5
  obtain⟨g',g1,_,b,_⟩:=o6
  rw[a,b]at e;cases e;omega
 have ka2:=SlW.ext ka e12
 refine go ?_
 refine WO.con (check_ok h2 va A ka2 (by omega)) ?_
 rintro _ h3 ⟨rfl,e3⟩
 have kb3:=SlW.ext kb (e12.trans e3)
 refine go ?_
 refine WO.con (check_ok h3 vb B kb3 (by omega)) ?_
 rintro _ h4 ⟨rfl,e4⟩
 have e14:=e12.trans (e3.trans e4)
 have o5:=o5'.ext (e3.trans e4)
 have o6:=o6.ext (e3.trans e4)
 have o6h:=o6.since e1
 have hm4:h4.mark≤h4.n:=by have:=e14.mark;have:=e14.n;omega
 refine go ?_
 refine WO.max2 (a:=errW (zM (-1) A)) (b:=errW (zM (-1) B)) (r:=bothE A B) (by unfold bothE errW;cases zM (-1) A<;>cases zM (-1) B<;>rfl) ?_
 have hE:bothE A B=if (zM (-1) A&&zM (-1) B)=true then 0 else 8:=rfl
 have hL:bothL f A B=if (zM (-1) A&&zM (-1) B)=true then zR f A B else []:=rfl
 by_cases hc:(zM (-1) A&&zM (-1) B)=true
 ·rw[if_pos hc]at hE hL
  rw[hE,hL]
  refine go ?_
  refine WO.con (merge_ok h h4 va vb p5 p6 fv f hf hfz A B ka kb la lb e14 hm o5 o6h hne) ?_
  rintro _ h5 ⟨e5,v,b,hb,o65,ow,h6b⟩
  obtain⟨va',vn',vk',rfl,hvn⟩:=zV ow
  refine go ?_
  refine WO.stC0 (cs:=[.slice va' vn' vk']) o65 e5 ?_
  intro h6 e6 o66 u6
  refine go ?_
  refine rt (vs:=[.slice va' vn' vk',I 0]) ?_ (Res.consB sl_ o66 rfl (Res.cons sl_ Res.nil))
  exact⟨⟨_,rfl,b,hb,OwnR.upd ow (fun k k1 k2=>u6.2 k k2 fun e=>by have:=h6b k e;omega) u6.1⟩,e6⟩
 ·rw[if_neg hc]at hE hL
  rw[hE,hL]
  refine go ?_
  refine WO.stC0 (cs:=[.slice none 0 0]) o6h e14 ?_
  intro h6 e6 o66 u6
  refine go ?_
  refine rt (vs:=[.slice none 0 0,I 8]) ?_ (Res.consB sl_ o66 rfl (Res.cons sl_ Res.nil))
  exact⟨⟨_,rfl,MineW.nil⟩,e6⟩
theorem bit_or:Bitw (fun a b=>a|||b) (fun a b=>a||b):=⟨rfl,fun a b ha hb=>⟨(u_or ha hb).2,fun i=>Nat.testBit_or ..⟩⟩
theorem bit_and:Bitw (fun a b=>a&&& b) (fun a b=>a&&b):=⟨rfl,fun a b ha hb=>⟨Nat.lt_of_le_of_lt Nat.and_le_left ha,fun i=>Nat.testBit_and ..⟩⟩
theorem bit_not:Bitw notN (fun a b=>a&& !b):=⟨rfl,fun a b ha hb=>(u_notN ha hb).2⟩
noncomputable def body6:ACode:=(.seq (.region [⟨some 4,none,(.mov (.const (.slice none 0 0)))⟩,⟨some 5,none,(.mov (.const (.int .i64 0)))⟩]) (.seq (.region [⟨some 6,none,(.mov (.tmp 0))⟩,⟨some 7,none,(.mov (.tmp 1))⟩,⟨some 8,none,(.call (.func 19) [(.tmp 6),(.tmp 7),(.func 20)])⟩,⟨some 9,none,(.extract (.tmp 8) 0)⟩,⟨some 10,none,(.extract (.tmp 8) 1)⟩,⟨some 4,none,(.mov (.tmp 9))⟩,⟨some 5,none,(.mov (.tmp 10))⟩]) .ret))
set_option maxRecDepth 100000 in
theorem tab6:tb.code 6=some ⟨11,[(4,none),(5,none)],body6⟩:=by kernel_rfl
theorem or_ok (h:AHeap) (va vb:Value) (A B:List LWd) (ka:SlW h va A) (kb:SlW h vb B) (la:A.length≤1000) (lb:B.length≤1000) (hm:h.mark≤h.n):
  WC Try.prog tb 6 [va,vb] h fun r h'=>(∃ v,r= .tuple #[v,I (bothE A B)]∧MineW h h' v (bothL (fun a b=>a|||b) A B))∧Ext h h':=by
 refine WC.of (zH 6) tab6 ?_;simp only[zn,Nat.zero_add,Nat.reduceAdd]
 refine go ?_
 refine WO.con (both_ok h va vb (.func (.func 20) #[] #[]) (fun a b=>a|||b) (fun h a b ha hb=>WV.func (or1_ok h a b ha hb)) (fun x y hx hy=>(bit_or.bit x y hx hy).1) rfl A B ka kb la lb hm) ?_
 rintro _ h1 ⟨⟨v,rfl,m⟩,e1⟩
 refine go ?_
 refine rt ?_
 exact⟨⟨v,rfl,m⟩,e1⟩
noncomputable def body8:ACode:=(.seq (.region [⟨some 4,none,(.mov (.const (.slice none 0 0)))⟩,⟨some 5,none,(.mov (.const (.int .i64 0)))⟩]) (.seq (.region [⟨some 6,none,(.mov (.tmp 0))⟩,⟨some 7,none,(.mov (.tmp 1))⟩,⟨some 8,none,(.call (.func 19) [(.tmp 6),(.tmp 7),(.func 23)])⟩,⟨some 9,none,(.extract (.tmp 8) 0)⟩,⟨some 10,none,(.extract (.tmp 8) 1)⟩,⟨some 4,none,(.mov (.tmp 9))⟩,⟨some 5,none,(.mov (.tmp 10))⟩]) .ret))
set_option maxRecDepth 100000 in
theorem tab8:tb.code 8=some ⟨11,[(4,none),(5,none)],body8⟩:=by kernel_rfl
theorem and_ok (h:AHeap) (va vb:Value) (A B:List LWd) (ka:SlW h va A) (kb:SlW h vb B) (la:A.length≤1000) (lb:B.length≤1000) (hm:h.mark≤h.n):
  WC Try.prog tb 8 [va,vb] h fun r h'=>(∃ v,r= .tuple #[v,I (bothE A B)]∧MineW h h' v (bothL (fun a b=>a&&& b) A B))∧Ext h h':=by
 refine WC.of (zH 8) tab8 ?_;simp only[zn,Nat.zero_add,Nat.reduceAdd]
 refine go ?_
 refine WO.con (both_ok h va vb (.func (.func 23) #[] #[]) (fun a b=>a&&& b) (fun h a b ha hb=>WV.func (and1_ok h a b ha hb)) (fun x y hx hy=>(bit_and.bit x y hx hy).1) rfl A B ka kb la lb hm) ?_
 rintro _ h1 ⟨⟨v,rfl,m⟩,e1⟩
 refine go ?_
 refine rt ?_
 exact⟨⟨v,rfl,m⟩,e1⟩
noncomputable def body10:ACode:=(.seq (.region [⟨some 4,none,(.mov (.const (.slice none 0 0)))⟩,⟨some 5,none,(.mov (.const (.int .i64 0)))⟩]) (.seq (.region [⟨some 6,none,(.mov (.tmp 0))⟩,⟨some 7,none,(.mov (.tmp 1))⟩,⟨some 8,none,(.call (.func 19) [(.tmp 6),(.tmp 7),(.func 25)])⟩,⟨some 9,none,(.extract (.tmp 8) 0)⟩,⟨some 10,none,(.extract (.tmp 8) 1)⟩,⟨some 4,none,(.mov (.tmp 9))⟩,⟨some 5,none,(.mov (.tmp 10))⟩]) .ret))
set_option maxRecDepth 100000 in
theorem tab10:tb.code 10=some ⟨11,[(4,none),(5,none)],body10⟩:=by kernel_rfl
theorem minus_ok (h:AHeap) (va vb:Value) (A B:List LWd) (ka:SlW h va A) (kb:SlW h vb B) (la:A.length≤1000) (lb:B.length≤1000) (hm:h.mark≤h.n):
  WC Try.prog tb 10 [va,vb] h fun r h'=>(∃ v,r= .tuple #[v,I (bothE A B)]∧MineW h h' v (bothL notN A B))∧Ext h h':=by
 refine WC.of (zH 10) tab10 ?_;simp only[zn,Nat.zero_add,Nat.reduceAdd]
 refine go ?_
 refine WO.con (both_ok h va vb (.func (.func 25) #[] #[]) notN (fun h a b ha hb=>WV.func (minus1_ok h a b ha hb)) (fun x y hx hy=>(bit_not.bit x y hx hy).1) rfl A B ka kb la lb hm) ?_
 rintro _ h1 ⟨⟨v,rfl,m⟩,e1⟩
 refine go ?_
 refine rt ?_
 exact⟨⟨v,rfl,m⟩,e1⟩
end Go.Proofs.Ytejjibilgmlhdaa
namespace Go.Proofs.Ytejjibilgmlhdaa
open Go.Am
set_option linter.unusedVariables false
set_option linter.unusedSimpArgs false
set_option maxHeartbeats 1000000
theorem w_ext {a b:LWd} (h1:a.pos=b.pos) (h2:a.bits=b.bits):a=b:=by cases a;cases b;cases h1;cases h2;rfl
theorem lw_ext {A B:List LWd} (hl:A.length=B.length) (h:∀ i,i<A.length→A.getD i default=B.getD i default):A=B:=by
 refine List.ext_getElem hl fun i h1 h2=> ?_
 have:=h i h1
 rwa [List.getD_eq_getElem?_getD,List.getD_eq_getElem?_getD,List.getElem?_eq_getElem h1,List.getElem?_eq_getElem h2]at this
theorem eq_wd (x y:LWd):eqAll [I x.pos,W x.bits] [I y.pos,W y.bits]=decide (x=y):=by
 by_cases h:x=y
 ·subst h;simp[eqAll,eqOne,I]
 ·rw[decide_eq_false h]
  cases hb:eqAll [I x.pos,W x.bits] [I y.pos,W y.bits]with
  |false=>rfl
  |true=>
   exfalso
   simp[eqAll,eqOne,I]at hb
   exact h (w_ext hb.1 (by omega))
noncomputable def body12_0:ACode:=(.seq (.seq (.region [⟨some 11,none,(.mov (.tmp 5))⟩,⟨some 12,none,(.mov (.tmp 0))⟩,⟨some 13,none,(.len (.tmp 12))⟩,⟨some 14,none,(.bin .lss (.tmp 11) (.tmp 13))⟩]) (.cond (.tmp 14) .skip (.exit 0))) (.seq (.block 1 (.seq (.regionC [(⟨some 17,none,(.mov (.tmp 0))⟩,[]),(⟨some 18,none,(.mov (.tmp 5))⟩,[]),(⟨some 19,none,(.idx 2 (.tmp 17) (.tmp 18))⟩,[]),(⟨some 20,none,(.load true 2 (.tmp 19))⟩,[]),(⟨some 21,none,(.mov (.tmp 1))⟩,[]),(⟨some 22,none,(.mov (.tmp 5))⟩,[]),(⟨some 23,none,(.idx 2 (.tmp 21) (.tmp 22))⟩,[]),(⟨some 24,none,(.load true 2 (.tmp 23))⟩,[]),(⟨some 25,none,(.binP .neq 41 (.tmp 20) (.tmp 24))⟩,[])]) (.cond (.tmp 25) (.seq (.region [⟨some 4,none,(.mov (.const (.bool false)))⟩]) .ret) .skip))) (.region [⟨some 15,none,(.mov (.tmp 5))⟩,⟨some 16,none,(.bin .add (.tmp 15) (.const (.int .i64 1)))⟩,⟨some 5,none,(.mov (.tmp 16))⟩])))
noncomputable def body12:ACode:=(.seq (.region [⟨some 4,none,(.mov (.const (.bool false)))⟩]) (.seq (.seq (.region [⟨some 6,none,(.mov (.tmp 0))⟩,⟨some 7,none,(.len (.tmp 6))⟩,⟨some 8,none,(.mov (.tmp 1))⟩,⟨some 9,none,(.len (.tmp 8))⟩,⟨some 10,none,(.bin .neq (.tmp 7) (.tmp 9))⟩]) (.cond (.tmp 10) (.seq (.region [⟨some 4,none,(.mov (.const (.bool false)))⟩]) .ret) .skip)) (.seq (.seq (.region [⟨some 5,none,(.mov (.const (.int .i64 0)))⟩]) (.block 0 (.loop body12_0))) (.seq (.region [⟨some 4,none,(.mov (.const (.bool true)))⟩]) .ret))))
set_option maxRecDepth 100000 in
theorem tab12:tb.code 12=some ⟨26,[(4,none)],body12⟩:=by kernel_rfl
theorem rSame_ok (h:AHeap) (va vb:Value) (A B:List LWd) (ka:SlW h va A) (kb:SlW h vb B) (la:(A.length:Int)≤1000000000):WC Try.prog tb 12 [va,vb] h fun r h'=>r= .bool (decide (A=B))∧h=h':=by
 refine WC.of (zH 12) tab12 ?_;simp only[zn,Nat.zero_add,Nat.reduceAdd]
 by_cases hl:A.length=B.length
 case neg=>
  refine go ?_
  refine rt ?_
  exact⟨by rw[decide_eq_false (fun e=>hl (by rw[e]))];rfl,rfl⟩
 refine go ?_
 refine WX.loopA [11,12,13,14,17,18,19,20,21,22,23,24,25,4,15,16,5] (by kernel_rfl) (fun i=>A.length - i) (fun i t h1=>h=h1∧zB t 5=I i∧i≤A.length∧Hid (∀ j,j<i→A.getD j default=B.getD j default)) 0 ?_ ?_
 ·exact⟨rfl,sl_,Nat.zero_le _,⟨fun j hj=>absurd hj (Nat.not_lt_zero _)⟩⟩
 rintro i t _ hsame ⟨rfl,s5,hi,hI⟩
 refine go ?_
 refine WX.br (fun hb=> ?_) (fun hb=> ?_)<;>simp only[DB]at hb
 ·obtain⟨ca,⟨rfl,x1,x2,x3⟩,pca,hsa⟩:=wd_at ka (show i<A.length by omega)
  obtain⟨cb,⟨rfl,y1,y2,y3⟩,pcb,hsb⟩:=wd_at kb (show i<B.length by omega)
  refine go ?_
  refine WO.bp (ne_chk (xs:=#[I (A.getD i default).pos,W (A.getD i default).bits]) (ys:=#[I (B.getD i default).pos,W (B.getD i default).bits]) (b:=decide (A.getD i default=B.getD i default)) (by kernel_rfl) (eq_wd _ _)) ?_
  refine go ?_
  repeat' (first|(refine WX.br (fun hb=> ?_) (fun hb=> ?_)<;>(try simp only[DB]at hb)<;>refine go ?_)|(refine WO.sp (fun hb=> ?_) (fun hb=> ?_)<;>(try simp only[DB]at hb)<;>refine go ?_))
  ·refine rt ?_
   refine⟨?_,rfl⟩
   rw[decide_eq_false (fun e=>by subst e;exact hb rfl)];rfl
  ·refine zA (i+1) (by omega) ⟨rfl,sln,by omega,⟨fun j hj=> ?_⟩⟩
   by_cases e:j=i
   ·subst e;exact hb
   ·exact hI.out j (by omega)
 ·refine go ?_
  refine rt ?_
  exact⟨by rw[decide_eq_true (lw_ext hl fun j hj=>hI.out j (by omega))];rfl,rfl⟩
end Go.Proofs.Ytejjibilgmlhdaa
namespace Go.Proofs.Ytejjibilgmlhdaa
open Go.Am
set_option linter.unusedVariables false
set_option linter.unusedSimpArgs false
set_option maxHeartbeats 1000000
noncomputable def body15:ACode:=(.seq (.region [⟨some 2,none,(.mov (.const (.slice none 0 0)))⟩]) (.seq (.seq (.region [⟨some 3,none,(.mov (.tmp 0))⟩,⟨some 4,none,(.isNil 0 false (.tmp 3))⟩]) (.cond (.tmp 4) (.seq (.region [⟨some 2,none,(.mov (.const (.slice none 0 0)))⟩]) .ret) .skip)) (.seq (.region [⟨some 5,none,(.buildSlice 0 1 [(.int .i64 0)] [])⟩,⟨some 6,none,(.mov (.tmp 0))⟩,⟨some 7,none,(.append 1 (.tmp 5) (.tmp 6))⟩,⟨some 2,none,(.mov (.tmp 7))⟩]) .ret)))
set_option maxRecDepth 100000 in
theorem tab15:tb.code 15=some ⟨8,[(2,none)],body15⟩:=by kernel_rfl
theorem clone_ok (h:AHeap) (v:Value) (l:List Int) (s:SlI h v l) (hl:l.length≤1000000):WC Try.prog tb 15 [v] h fun r h'=>OwnN h h' r l∧Ext h h':=by
 refine WC.of (zH 15) tab15 ?_;simp only[zn,Nat.zero_add,Nat.reduceAdd]
 obtain⟨a,n,k,rfl⟩:=SlC.shape s
 cases a with
 |none=>
  have hn:l=[]:=by
   rcases s.2 with ⟨h0,_⟩|⟨g,off,row,hv,_⟩
   ·exact List.length_eq_zero_iff.1 h0
   ·cases hv
  subst hn
  refine go ?_
  refine WX.br (fun hb=> ?_) (fun hb=> ?_)
  ·refine go ?_
   refine rt ?_
   exact⟨.inl ⟨rfl,rfl⟩,Ext.refl _⟩
  ·exact absurd hb (by simp)
 |some a=>
  refine go ?_
  refine WX.br (fun hb=> ?_) (fun hb=> ?_)
  ·exact absurd hb (by simp)
  ·refine go ?_
   refine WO.bl [] ?_
   intro v1 h1 e1 o1
   have s1:=SlI.ext s e1
   refine go ?_
   refine WO.apN (.inr o1) s1 e1 (by simp only[List.length_nil];omega) ?_
   intro v2 h2 e2 o2
   refine go ?_
   refine rt ?_
   exact⟨o2,e2⟩
theorem mem_sortB {x:Int} {l:List Int}:x∈sortL l↔x∈l:=(List.mergeSort_perm l _).mem_iff
theorem len_sortB (l:List Int):(sortL l).length=l.length:=(List.mergeSort_perm l _).length_eq
theorem rise_sortB (l:List Int):(sortL l).Pairwise (·≤·):=by
 have hp:(sortL l).Pairwise (fun a b=>decide (a≤b)=true):=List.pairwise_mergeSort (fun a b c h1 h2=>by simp only[decide_eq_true_eq]at *;omega) (fun a b=>by simp only[Bool.or_eq_true,decide_eq_true_eq];omega) l
 exact hp.imp fun h=>of_decide_eq_true h
theorem upto_le {s:List LWd} {xs:List Int} {n:Int} (u:Upto s xs) (h:∀ x∈xs,x≤n):∀ w∈s,w.pos≤n / 64:=by
 intro w hw
 obtain⟨a,b,c,d⟩:=u.ok.each w hw
 obtain⟨k,hk⟩:=bits_ex c
 have hk2:=bits_lt d hk
 have:=(u.mem (64 * w.pos+k)).1 ⟨w,hw,by omega,by rw[show ((64 * w.pos+(k:Int)) % 64).toNat=k by omega];exact hk⟩
 have:=h _ this
 omega
def ofE (l:List Int):Int:=if l.all (fun n=>decide (0≤n)&&decide (n<1048576)) then 0 else 2
theorem ofE_bad {l:List Int} {n:Int} (h:n∈l) (hn:(decide (0≤n)&&decide (n<1048576))=false):ofE l=2:=by
 unfold ofE
 rw[if_neg fun ha=>by
  have:=List.all_eq_true.1 ha n h
  rw[hn]at this;cases this]
theorem ofE_good {l:List Int} (h:∀ n∈l,0≤n∧n<1048576):ofE l=0:=by
 unfold ofE
 rw[if_pos (List.all_eq_true.2 fun n hn=>by have:=h n hn;simp[this.1,this.2])]
theorem Upto.perm {s:List LWd} {xs ys:List Int} (u:Upto s xs) (h:∀ n,n∈xs↔n∈ys):Upto s ys:=⟨u.ok,fun n=>(u.mem n).trans (h n)⟩
theorem rev_cases {α:Type} (l:List α) (h:l≠[]):∃ s w,l=s++[w]:=⟨l.dropLast,l.getLast h,(List.dropLast_concat_getLast h).symm⟩
theorem upto_nil:Upto [] []:=⟨OkW.nil,fun n=>⟨(fun ⟨_,h,_⟩=>by cases h),(fun h=>by cases h)⟩⟩
noncomputable def body4_0:ACode:=(.seq (.region [⟨some 17,none,(.bin .lss (.tmp 16) (.tmp 15))⟩]) (.seq (.cond (.tmp 17) .skip (.exit 0)) (.seq (.block 1 (.seq (.region [⟨some 18,none,(.idx 1 (.tmp 14) (.tmp 16))⟩,⟨some 19,none,(.load false 1 (.tmp 18))⟩,⟨some 7,none,(.mov (.tmp 19))⟩]) (.seq (.seq (.region [⟨some 20,none,(.mov (.tmp 7))⟩,⟨some 21,none,(.call (.func 17) [(.tmp 20)])⟩,⟨some 22,none,(.un .not (.tmp 21))⟩]) (.cond (.tmp 22) (.seq (.region [⟨some 2,none,(.mov (.const (.slice none 0 0)))⟩,⟨some 3,none,(.mov (.const (.int .i64 2)))⟩]) .ret) .skip)) (.seq (.region [⟨some 23,none,(.mov (.tmp 7))⟩,⟨some 24,none,(.bin .quo (.tmp 23) (.const (.int .i64 64)))⟩,⟨some 8,none,(.mov (.tmp 24))⟩]) (.seq (.seq (.region [⟨some 25,none,(.mov (.tmp 5))⟩,⟨some 26,none,(.len (.tmp 25))⟩,⟨some 9,none,(.mov (.tmp 26))⟩]) (.seq (.region [⟨some 27,none,(.mov (.tmp 9))⟩,⟨some 28,none,(.bin .eql (.tmp 27) (.const (.int .i64 0)))⟩,⟨some 29,none,(.mov (.tmp 28))⟩,⟨some 30,some (29,false),(.mov (.tmp 5))⟩,⟨some 31,some (29,false),(.mov (.tmp 9))⟩,⟨some 32,some (29,false),(.bin .sub (.tmp 31) (.const (.int .i64 1)))⟩,⟨some 33,some (29,false),(.idx 2 (.tmp 30) (.tmp 32))⟩,⟨some 34,some (29,false),(.fld 0 (.tmp 33))⟩,⟨some 35,some (29,false),(.load false 1 (.tmp 34))⟩,⟨some 36,some (29,false),(.mov (.tmp 8))⟩,⟨some 37,some (29,false),(.bin .neq (.tmp 35) (.tmp 36))⟩,⟨some 38,none,(.pick (.tmp 29) (.const (.bool true)) (.tmp 37))⟩]) (.cond (.tmp 38) (.region [⟨some 39,none,(.mov (.tmp 5))⟩,⟨some 40,none,(.mov (.tmp 8))⟩,⟨some 41,none,(.build [(.int .i64 0),(.int .u64 0)] [(0,1,(.tmp 40))])⟩,⟨some 42,none,(.buildSlice 1 2 [(.int .i64 0),(.int .u64 0)] [(0,2,(.tmp 41))])⟩,⟨some 43,none,(.append 2 (.tmp 39) (.tmp 42))⟩,⟨some 5,none,(.mov (.tmp 43))⟩]) .skip))) (.regionC [(⟨some 44,none,(.mov (.tmp 5))⟩,[]),(⟨some 45,none,(.mov (.tmp 5))⟩,[]),(⟨some 46,none,(.len (.tmp 45))⟩,[]),(⟨some 47,none,(.bin .sub (.tmp 46) (.const (.int .i64 1)))⟩,[]),(⟨some 48,none,(.idx 2 (.tmp 44) (.tmp 47))⟩,[]),(⟨some 49,none,(.fld 1 (.tmp 48))⟩,[]),(⟨some 50,none,(.load false 1 (.tmp 49))⟩,[]),(⟨some 51,none,(.mov (.tmp 7))⟩,[]),(⟨some 52,none,(.bin .rem (.tmp 51) (.const (.int .i64 64)))⟩,[]),(⟨some 53,none,(.bin .shl (.const (.int .u64 1)) (.tmp 52))⟩,[]),(⟨some 54,none,(.bin .or (.tmp 50) (.tmp 53))⟩,[]),(⟨some 55,none,(.idx 2 (.tmp 44) (.tmp 47))⟩,[]),(⟨some 56,none,(.fld 1 (.tmp 55))⟩,[]),(⟨none,none,(.store 1 (.tmp 56) (.tmp 54))⟩,[])])))))) (.region [⟨some 57,none,(.bin .add (.tmp 16) (.const (.int .i64 1)))⟩,⟨some 16,none,(.mov (.tmp 57))⟩]))))
noncomputable def body4:ACode:=(.seq (.region [⟨some 2,none,(.mov (.const (.slice none 0 0)))⟩,⟨some 3,none,(.mov (.const (.int .i64 0)))⟩]) (.seq (.region [⟨some 10,none,(.mov (.tmp 0))⟩,⟨some 11,none,(.call (.func 15) [(.tmp 10)])⟩,⟨some 4,none,(.mov (.tmp 11))⟩]) (.seq (.region [⟨some 12,none,(.mov (.tmp 4))⟩,⟨some 13,none,(.call (.func 16) [(.tmp 12)])⟩]) (.seq (.region [⟨some 5,none,(.mov (.const (.slice none 0 0)))⟩]) (.seq (.seq (.region [⟨some 14,none,(.mov (.tmp 4))⟩,⟨some 15,none,(.len (.tmp 14))⟩,⟨some 16,none,(.mov (.const (.int .i64 0)))⟩]) (.block 0 (.loop body4_0))) (.seq (.region [⟨some 58,none,(.mov (.tmp 5))⟩,⟨some 2,none,(.mov (.tmp 58))⟩,⟨some 3,none,(.mov (.const (.int .i64 0)))⟩]) .ret))))))
set_option maxRecDepth 100000 in
theorem tab4:tb.code 4=some ⟨59,[(2,none),(3,none)],body4⟩:=by kernel_rfl
theorem of_ok (h:AHeap) (v:Value) (l:List Int) (s:SlI h v l) (hl:l.length≤10000) (hm:h.mark≤h.n):
  WC Try.prog tb 4 [v] h fun r h'=>(∃ w t,r= .tuple #[w,I (ofE l)]∧MineW h h' w t∧(ofE l=0→Upto t l)∧(ofE l≠0→t=[]))∧Ext h h':=by
 refine WC.of (zH 4) tab4 ?_;simp only[zn,Nat.zero_add,Nat.reduceAdd]
 refine go ?_
 refine WO.con (clone_ok h v l s (by omega)) ?_
 rintro c h1 ⟨o1,e1⟩
 refine go ?_
 refine WO.con (sort_ok h h1 c l e1 hm o1 (by omega)) ?_
 rintro _ h2 ⟨o2,e2,_⟩
 have sl2:=o2.sl
 have hlen:=len_sortB l
 have hrise:=rise_sortB l
 have hmem:∀ n,n∈sortL l↔n∈l:=fun n=>mem_sortB
 generalize sortL l=L at *
 have hrise:=Hid.mk hrise
 have hmem:=Hid.mk hmem
 have hm2:h2.mark≤h2.n:=by have:=e2.mark;have:=e2.n;omega
 refine go ?_
 refine WX.loopA [17,18,19,7,20,21,22,2,3,23,24,8,25,26,9,27,28,29,30,31,32,33,34,35,36,37,38,39,40,41,42,43,5,44,45,46,47,48,49,50,51,52,53,54,55,56,57,16] (by kernel_rfl) (fun i=>L.length - i) (fun i t h3=>∃ w out,zB t 16=I i∧i≤L.length∧Ext h2 h3∧zB t 5=w∧OwnW h2.n h3 w out∧Hid (Upto out (L.take i))∧out.length≤i∧Hid (∀ j,j<i→0≤L.getD j 0∧L.getD j 0<1048576)) 0 ?_ ?_
 ·exact⟨_,[],sl_,Nat.zero_le _,Ext.refl _,sl_,OwnR.nil,⟨upto_nil⟩,Nat.le_refl _,⟨fun j hj=>by omega⟩⟩
 rintro i t h3 hsame ⟨w,out,s16,hi,e3,s5,ow,hU,hol,hin⟩
 have sl3:SlI h3 c L:=SlI.ext sl2 e3
 refine go ?_
 refine WX.br (fun hb=> ?_) (fun hb=> ?_)<;>simp only[DB]at hb
 ·have hi':i<L.length:=by omega
  refine go ?_
  refine WO.con (within_ok h3 (L.getD i 0)) ?_
  rintro _ _ ⟨rfl,rfl⟩
  have hmi:L.getD i 0∈L:=by rw[List.getD_eq_getElem?_getD,List.getElem?_eq_getElem hi'];exact List.getElem_mem hi'
  have htk:L.take (i+1)=L.take i++[L.getD i 0]:=by rw[List.take_add_one];simp[List.getD,List.getElem?_eq_getElem hi']
  have hle:∀ x∈L.take i,x≤L.getD i 0:=fun x hx=>by
   obtain⟨j,hj,rfl⟩:=List.getElem_of_mem hx
   rw[List.length_take]at hj
   rw[List.getElem_take,List.getD_eq_getElem?_getD,List.getElem?_eq_getElem hi']
   exact List.pairwise_iff_getElem.1 hrise.out j i (by omega) hi' (by omega)
  have hup:=upto_le hU.out hle
  by_cases hw:(decide (0≤L.getD i 0)&&decide (L.getD i 0<1048576))=false
  ·rw[hw]
   have hE:=ofE_bad ((hmem.out _).1 hmi) hw
   refine go ?_
   refine rt ?_
   rw[hE]
   exact⟨⟨_,[],rfl,MineW.nil,(fun h=>by cases h),fun _=>rfl⟩,e2.trans e3⟩
  have hw:(decide (0≤L.getD i 0)&&decide (L.getD i 0<1048576))=true:=by simpa using hw
  have hn:0≤L.getD i 0∧L.getD i 0<1048576:=by simpa using hw
  rw[hw]
  generalize hnn:L.getD i 0=n at *
  have htk:=Hid.mk htk
  have hin2:Hid (∀ j,j<i+1→0≤L.getD j 0∧L.getD j 0<1048576):=⟨fun j hj=>by
   by_cases e:j=i
   ·subst e;rw[hnn];exact hn
   ·exact hin.out j (by omega)⟩
  clear hle hmi hw
  have hup:=Hid.mk hup
  refine go ?_
  refine WO.bin zP rfl (b_quo hn.1 (by omega)) ?_
  have owl:=OwnR.sl ow
  have hm3:h3.mark≤h2.n:=by rw[e3.mark];exact hm2
  by_cases h0:out.length=0
  ·have ho:out=[]:=List.eq_nil_of_length_eq_zero h0
   subst ho
   refine go ?_
   refine WO.apRw (b:=h2.n) (R:=RW) (hB:=h2) ⟨n / 64,0⟩ (fun _=>False) ow e3 (Nat.le_refl _) e3.n (by decide) (by omega) (RW.dep (show (0:Nat)<18446744073709551616 by decide) (by simp only;omega) (by simp only;omega) _) (fun k hk=>hk.elim) (fun _ _ _ _ h=>h) ?_
   intro w5 h5 lit e5 ow5 n5 keep5 wr5
   obtain⟨va,vn,vk,rfl,_⟩:=zV ow5
   obtain⟨O5,sI,lw,hO,hsI,hlw⟩:∃ (O5 sI:List LWd) (lw:LWd),O5=sI++[lw]∧sI=[]∧lw=⟨n / 64,0⟩:=⟨_,_,_,rfl,rfl,rfl⟩
   have ow5:OwnW h2.n h5 (.slice va vn vk) O5:=by rw[hO,hsI,hlw];exact ow5
   have hsl:sI.length=0:=by rw[hsI];rfl
   have hsl:sI.length≤i:=by omega
   have hO5:O5.length=sI.length+1:=by rw[hO];simp
   have hlO:O5.length≤20000:=by omega
   refine go ?_
   refine WX.regionU2 0 rfl rfl ?_
   have owX:OwnW h2.n (zC 0 h5) (.slice va vn vk) O5:=OwnR.upd ow5 (fun _ _ _=>rfl) (Nat.le_refl _)
   have slX:SlW (inC (zC 0 h5)) (.slice va vn vk) O5:=OwnR.sl owX
   obtain⟨cs,⟨rfl,y1,y2,y3⟩,pc,hs⟩:=wd_at (i:=((O5.length:Int) - 1).toNat) slX (by omega)
   have hgl:O5.getD ((O5.length:Int) - 1).toNat default=lw:=by
    rw[show ((O5.length:Int) - 1).toNat=sI.length by omega,hO];simp[List.getD]
   rw[hgl]at y1 y2 y3 pc
   have hsh:zb .shl (W 1) (I (n % 64))=some (W (2 ^ (n % 64).toNat)):=by
    rw[show I (n % 64)=I (((n % 64).toNat:Nat):Int) by congr 1;omega];exact(u_shl1 (by omega)).1
   have hp2:2 ^ (n % 64).toNat<18446744073709551616:=(u_shl1 (k:=(n % 64).toNat) (by omega)).2
   have hor:=u_or y1 hp2
   generalize hk2:2 ^ (n % 64).toNat=k2 at hsh hp2 hor
   refine goU ?_
   refine WO.bin zP rfl (b_rem hn.1) ?_
   refine WO.nil ?_
   refine zy ?_
   refine goU ?_
   refine WO.bin rfl zP hsh ?_
   refine WO.nil ?_
   refine zy ?_
   refine goU ?_
   refine WO.bin zP zP hor.1 ?_
   refine WO.nil ?_
   refine zy ?_
   refine goU ?_
   refine WU2.stR (i:=((O5.length:Int) - 1).toNat) (off:=1) (cs:=[W (lw.bits|||k2)]) (ho:=by simp) ⟨lw.pos,lw.bits|||k2⟩ owX e5 (by rw[e5.mark];exact hm2) rfl (Nat.le_refl _) (by omega) (fun old hx hr ho=>by
    rw[hgl]at hr
    obtain⟨rfl,r1,r2,r3⟩:=hr
    exact⟨rfl,hor.2,r2,r3⟩) ?_
   intro h6 e6 ow6 n6 f6
   have hset:O5.set ((O5.length:Int) - 1).toNat ⟨lw.pos,lw.bits|||k2⟩=sI++[⟨lw.pos,lw.bits|||k2⟩]:=by
    rw[show ((O5.length:Int) - 1).toNat=sI.length by omega,hO,List.set_append_right _ _ (Nat.le_refl _),Nat.sub_self];rfl
   rw[hset]at ow6
   refine go ?_
   refine zA (i+1) (by omega) ⟨_,_,sln,by omega,e6,sl_,ow6,⟨?_⟩,by simp only[List.length_append,List.length_singleton];omega,hin2⟩
   rw[htk.out,←hk2]
   subst hlw hsI
   have:=hU.out.new hn (fun w hw=>by cases hw)
   rw[Nat.zero_or];exact this
  ·obtain⟨sI,lw,hO⟩:=rev_cases out (fun e=>h0 (by rw[e];rfl))
   have hO5:out.length=sI.length+1:=by rw[hO];simp
   obtain⟨cs,⟨rfl,y1,y2,y3⟩,pc,hs⟩:=wd_at (i:=((out.length:Int) - 1).toNat) owl (by omega)
   have hgl:out.getD ((out.length:Int) - 1).toNat default=lw:=by
    rw[show ((out.length:Int) - 1).toNat=sI.length by omega,hO];simp[List.getD]
   rw[hgl]at y1 y2 y3 pc
   by_cases hat:lw.pos=n / 64
   ·refine go ?_
    clear pc y1 y2 y3 hs hgl hO5
    obtain⟨O5,hOO⟩:∃ O5,O5=out:=⟨_,rfl⟩
    rw[←hOO]at ow hO hol
    have hsl:sI.length≤i:=by rw[hO,List.length_append,List.length_singleton]at hol;omega
    have hO5:O5.length=sI.length+1:=by rw[hO];simp
    have hlO:O5.length≤20000:=by omega
    refine go ?_
    refine WX.regionU2 0 rfl rfl ?_
    have owX:OwnW h2.n (zC 0 h3) w O5:=OwnR.upd ow (fun _ _ _=>rfl) (Nat.le_refl _)
    have slX:SlW (inC (zC 0 h3)) w O5:=OwnR.sl owX
    obtain⟨cs,⟨rfl,y1,y2,y3⟩,pc,hs⟩:=wd_at (i:=((O5.length:Int) - 1).toNat) slX (by omega)
    have hgl:O5.getD ((O5.length:Int) - 1).toNat default=lw:=by
     rw[show ((O5.length:Int) - 1).toNat=sI.length by omega,hO];simp[List.getD]
    rw[hgl]at y1 y2 y3 pc
    have hsh:zb .shl (W 1) (I (n % 64))=some (W (2 ^ (n % 64).toNat)):=by
     rw[show I (n % 64)=I (((n % 64).toNat:Nat):Int) by congr 1;omega];exact(u_shl1 (by omega)).1
    have hp2:2 ^ (n % 64).toNat<18446744073709551616:=(u_shl1 (k:=(n % 64).toNat) (by omega)).2
    have hor:=u_or y1 hp2
    generalize hk2:2 ^ (n % 64).toNat=k2 at hsh hp2 hor
    refine goU ?_
    refine WO.bin zP rfl (b_rem hn.1) ?_
    refine WO.nil ?_
    refine zy ?_
    refine goU ?_
    refine WO.bin rfl zP hsh ?_
    refine WO.nil ?_
    refine zy ?_
    refine goU ?_
    refine WO.bin zP zP hor.1 ?_
    refine WO.nil ?_
    refine zy ?_
    refine goU ?_
    refine WU2.stR (i:=((O5.length:Int) - 1).toNat) (off:=1) (cs:=[W (lw.bits|||k2)]) (ho:=by simp) ⟨lw.pos,lw.bits|||k2⟩ owX e3 (by rw[e3.mark];exact hm2) rfl (Nat.le_refl _) (by omega) (fun old hx hr ho=>by
     rw[hgl]at hr
     obtain⟨rfl,r1,r2,r3⟩:=hr
     exact⟨rfl,hor.2,r2,r3⟩) ?_
    intro h6 e6 ow6 n6 f6
    have hset:O5.set ((O5.length:Int) - 1).toNat ⟨lw.pos,lw.bits|||k2⟩=sI++[⟨lw.pos,lw.bits|||k2⟩]:=by
     rw[show ((O5.length:Int) - 1).toNat=sI.length by omega,hO,List.set_append_right _ _ (Nat.le_refl _),Nat.sub_self];rfl
    rw[hset]at ow6
    refine go ?_
    refine zA (i+1) (by omega) ⟨_,_,sln,by omega,e6,sl_,ow6,⟨?_⟩,by simp only[List.length_append,List.length_singleton];omega,hin2⟩
    rw[htk.out,←hk2]
    subst hOO
    rw[hO]at hU
    exact hU.out.old hn hat
   ·refine go ?_
    refine WO.apRw (b:=h2.n) (R:=RW) (hB:=h2) ⟨n / 64,0⟩ (fun _=>False) ow e3 (Nat.le_refl _) e3.n (by decide) (by omega) (RW.dep (show (0:Nat)<18446744073709551616 by decide) (by simp only;omega) (by simp only;omega) _) (fun k hk=>hk.elim) (fun _ _ _ _ h=>h) ?_
    intro w5 h5 lit e5 ow5 n5 keep5 wr5
    obtain⟨va,vn,vk,rfl,_⟩:=zV ow5
    clear pc y1 y2 y3 hs hgl hO5
    have hfar:∀ x∈out,x.pos<n / 64:=fun x hx=>by
     have hle:=hup.out x hx
     rcases List.mem_append.1 (hO▸hx:x∈sI++[lw])with h|h
     ·have h1:=(List.pairwise_append.1 (hO▸hU.out.ok.rise:(sI++[lw]).Pairwise _)).2.2 x h lw (by simp)
      have h2:=hup.out lw (by rw[hO];simp)
      omega
     ·rw[List.mem_singleton]at h;subst h;omega
    have hfar:=Hid.mk hfar
    clear hO
    obtain⟨O5,sI2,lw2,hO,hsI,hlw⟩:∃ (O5 sI:List LWd) (lw:LWd),O5=sI++[lw]∧sI=out∧lw=⟨n / 64,0⟩:=⟨_,_,_,rfl,rfl,rfl⟩
    have ow5:OwnW h2.n h5 (.slice va vn vk) O5:=by rw[hO,hsI,hlw];exact ow5
    have hsl:sI2.length=out.length:=by rw[hsI]
    have hsl:sI2.length≤i:=by omega
    have hO5:O5.length=sI2.length+1:=by rw[hO];simp
    have hlO:O5.length≤20000:=by omega
    refine go ?_
    refine WX.regionU2 0 rfl rfl ?_
    have owX:OwnW h2.n (zC 0 h5) (.slice va vn vk) O5:=OwnR.upd ow5 (fun _ _ _=>rfl) (Nat.le_refl _)
    have slX:SlW (inC (zC 0 h5)) (.slice va vn vk) O5:=OwnR.sl owX
    obtain⟨cs,⟨rfl,y1,y2,y3⟩,pc,hs⟩:=wd_at (i:=((O5.length:Int) - 1).toNat) slX (by omega)
    have hgl:O5.getD ((O5.length:Int) - 1).toNat default=lw2:=by
     rw[show ((O5.length:Int) - 1).toNat=sI2.length by omega,hO];simp[List.getD]
    rw[hgl]at y1 y2 y3 pc
    have hsh:zb .shl (W 1) (I (n % 64))=some (W (2 ^ (n % 64).toNat)):=by
     rw[show I (n % 64)=I (((n % 64).toNat:Nat):Int) by congr 1;omega];exact(u_shl1 (by omega)).1
    have hp2:2 ^ (n % 64).toNat<18446744073709551616:=(u_shl1 (k:=(n % 64).toNat) (by omega)).2
    have hor:=u_or y1 hp2
    generalize hk2:2 ^ (n % 64).toNat=k2 at hsh hp2 hor
    refine goU ?_
    refine WO.bin zP rfl (b_rem hn.1) ?_
    refine WO.nil ?_
    refine zy ?_
    refine goU ?_
    refine WO.bin rfl zP hsh ?_
    refine WO.nil ?_
    refine zy ?_
    refine goU ?_
    refine WO.bin zP zP hor.1 ?_
    refine WO.nil ?_
    refine zy ?_
    refine goU ?_
    refine WU2.stR (i:=((O5.length:Int) - 1).toNat) (off:=1) (cs:=[W (lw2.bits|||k2)]) (ho:=by simp) ⟨lw2.pos,lw2.bits|||k2⟩ owX e5 (by rw[e5.mark];exact hm2) rfl (Nat.le_refl _) (by omega) (fun old hx hr ho=>by
     rw[hgl]at hr
     obtain⟨rfl,r1,r2,r3⟩:=hr
     exact⟨rfl,hor.2,r2,r3⟩) ?_
    intro h6 e6 ow6 n6 f6
    have hset:O5.set ((O5.length:Int) - 1).toNat ⟨lw2.pos,lw2.bits|||k2⟩=sI2++[⟨lw2.pos,lw2.bits|||k2⟩]:=by
     rw[show ((O5.length:Int) - 1).toNat=sI2.length by omega,hO,List.set_append_right _ _ (Nat.le_refl _),Nat.sub_self];rfl
    rw[hset]at ow6
    refine go ?_
    refine zA (i+1) (by omega) ⟨_,_,sln,by omega,e6,sl_,ow6,⟨?_⟩,by simp only[List.length_append,List.length_singleton];omega,hin2⟩
    rw[htk.out,←hk2]
    subst hlw hsI
    have:=hU.out.new hn hfar.out
    rw[Nat.zero_or];exact this
 ·refine go ?_
  refine rt ?_
  have hiL:i=L.length:=by omega
  subst hiL
  rw[List.take_length]at hU
  have hE:ofE l=0:=ofE_good fun n hn=>by
   obtain⟨j,hj,e⟩:=List.getElem_of_mem ((hmem.out n).2 hn)
   have:=hin.out j hj
   rwa [List.getD_eq_getElem?_getD,List.getElem?_eq_getElem hj,Option.getD_some,e]at this
  rw[hE]
  subst s5
  exact⟨⟨_,out,rfl,⟨h2.n,e2.n,ow⟩,fun _=>hU.out.perm hmem.out,fun h=>absurd rfl h⟩,e2.trans e3⟩
end Go.Proofs.Ytejjibilgmlhdaa
namespace Go.Proofs.Ytejjibilgmlhdaa
open Go.Am
set_option linter.unusedVariables false
set_option linter.unusedSimpArgs false
set_option maxHeartbeats 1000000
noncomputable def body14_0:ACode:=(.seq (.seq (.region [⟨some 11,none,(.mov (.tmp 5))⟩,⟨some 12,none,(.mov (.tmp 0))⟩,⟨some 13,none,(.len (.tmp 12))⟩,⟨some 14,none,(.bin .lss (.tmp 11) (.tmp 13))⟩]) (.cond (.tmp 14) .skip (.exit 0))) (.seq (.block 1 (.seq (.regionC [(⟨some 17,none,(.mov (.tmp 0))⟩,[]),(⟨some 18,none,(.mov (.tmp 5))⟩,[]),(⟨some 19,none,(.idx 1 (.tmp 17) (.tmp 18))⟩,[]),(⟨some 20,none,(.load false 1 (.tmp 19))⟩,[]),(⟨some 21,none,(.mov (.tmp 1))⟩,[]),(⟨some 22,none,(.mov (.tmp 5))⟩,[]),(⟨some 23,none,(.idx 1 (.tmp 21) (.tmp 22))⟩,[]),(⟨some 24,none,(.load false 1 (.tmp 23))⟩,[]),(⟨some 25,none,(.bin .neq (.tmp 20) (.tmp 24))⟩,[])]) (.cond (.tmp 25) (.seq (.region [⟨some 4,none,(.mov (.const (.bool false)))⟩]) .ret) .skip))) (.region [⟨some 15,none,(.mov (.tmp 5))⟩,⟨some 16,none,(.bin .add (.tmp 15) (.const (.int .i64 1)))⟩,⟨some 5,none,(.mov (.tmp 16))⟩])))
noncomputable def body14:ACode:=(.seq (.region [⟨some 4,none,(.mov (.const (.bool false)))⟩]) (.seq (.seq (.region [⟨some 6,none,(.mov (.tmp 0))⟩,⟨some 7,none,(.len (.tmp 6))⟩,⟨some 8,none,(.mov (.tmp 1))⟩,⟨some 9,none,(.len (.tmp 8))⟩,⟨some 10,none,(.bin .neq (.tmp 7) (.tmp 9))⟩]) (.cond (.tmp 10) (.seq (.region [⟨some 4,none,(.mov (.const (.bool false)))⟩]) .ret) .skip)) (.seq (.seq (.region [⟨some 5,none,(.mov (.const (.int .i64 0)))⟩]) (.block 0 (.loop body14_0))) (.seq (.region [⟨some 4,none,(.mov (.const (.bool true)))⟩]) .ret))))
set_option maxRecDepth 100000 in
theorem tab14:tb.code 14=some ⟨26,[(4,none)],body14⟩:=by kernel_rfl
theorem sameIntsB_ok (h:AHeap) (v w:Value) (a b:List Int) (sa:SlI h v a) (sb:SlI h w b) (ha:(a.length:Int)≤1000000000):
  WC Try.prog tb 14 [v,w] h fun r h'=>r= .bool (decide (a=b))∧h=h':=by
 refine WC.of (zH 14) tab14 ?_;simp only[zn,Nat.zero_add,Nat.reduceAdd]
 by_cases hl:(a.length:Int)=(b.length:Int)
 case neg=>
  have hne:a≠b:=fun e=>hl (by rw[e])
  refine go ?_
  refine rt ?_
  exact⟨by rw[decide_eq_false hne];rfl,rfl⟩
 refine go ?_
 refine WX.loopA [11,12,13,14,17,18,19,20,21,22,23,24,25,4,15,16,5] (by kernel_rfl) (fun i=>a.length - i) (fun i t h1=>h=h1∧zB t 5=I i∧i≤a.length∧Hid (∀ j,j<i→a.getD j 0=b.getD j 0)) 0 ?_ ?_
 ·exact⟨rfl,sl_,Nat.zero_le _,⟨fun j hj=>absurd hj (Nat.not_lt_zero _)⟩⟩
 rintro i t _ hsame ⟨rfl,s5,hi,hm⟩
 refine go ?_
 refine WX.br (fun hb=> ?_) (fun hb=> ?_)<;>simp only[DB]at hb
 ·have hi':i<a.length:=by omega
  by_cases he:a.getD i 0=b.getD i 0
  ·refine go ?_
   refine zA (i+1) (by omega) ⟨rfl,sln,by omega,⟨fun j hj=> ?_⟩⟩
   by_cases e:j=i
   ·subst e;exact he
   ·exact hm.out j (by omega)
  ·have hne:a≠b:=fun e=>he (by rw[e])
   refine go ?_
   refine rt ?_
   exact⟨by rw[decide_eq_false hne];rfl,rfl⟩
 ·have heq:a=b:=by
   refine List.ext_getElem (by omega) fun j h1 h2=> ?_
   have:=hm.out j (by omega)
   simpa [List.getD,List.getElem?_eq_getElem h1,List.getElem?_eq_getElem h2]using this
  refine go ?_
  refine rt ?_
  exact⟨by rw[decide_eq_true heq];rfl,rfl⟩
def bitsTo (b n:Nat):List Nat:=(List.range n).filter b.testBit
theorem bitsTo_succ (b n:Nat):bitsTo b (n+1)=bitsTo b n++(if b / 2 ^ n % 2=1 then [n] else []):=by
 unfold bitsTo
 rw[List.range_succ,List.filter_append]
 congr 1
 have e:=Nat.testBit_eq_decide_div_mod_eq (x:=b) (i:=n)
 by_cases h:b / 2 ^ n % 2=1
 ·rw[decide_eq_true h]at e
  rw[if_pos h];simp[e]
 ·rw[decide_eq_false h]at e
  rw[if_neg h];simp[e]
theorem bitsTo_le (b n:Nat):(bitsTo b n).length≤n:=by
 have:=List.length_filter_le b.testBit (List.range n)
 rw[List.length_range]at this;exact this
theorem numsL_take {s:List LWd} {i:Nat} (h:i<s.length):numsL (s.take (i+1))=numsL (s.take i)++(bitsL (s.getD i default).bits).map (fun k:Nat=>64 * (s.getD i default).pos+(k:Int)):=by
 unfold numsL
 rw[List.take_add_one,List.getElem?_eq_getElem h,List.flatMap_append,List.getD_eq_getElem?_getD,List.getElem?_eq_getElem h]
 simp
theorem nums_take_le (s:List LWd) (i:Nat):(numsL (s.take i)).length≤64 * i:=by
 have:∀ l:List LWd,(numsL l).length≤64 * l.length:=fun l=>by
  induction l with
  |nil=>exact Nat.le_refl _
  |cons w l ih=>rw[numsL_cons,List.length_cons];have:=bitsL_le w.bits;omega
 have h1:=this (s.take i)
 have h2:(s.take i).length≤i:=by rw[List.length_take];omega
 omega
noncomputable def body35_0:ACode:=(.seq (.seq (.region [⟨some 18,none,(.mov (.tmp 6))⟩,⟨some 19,none,(.bin .lss (.tmp 18) (.const (.int .i64 64)))⟩]) (.cond (.tmp 19) .skip (.exit 2))) (.seq (.block 3 (.seq (.seq (.region [⟨some 22,none,(.mov (.tmp 5))⟩,⟨some 23,none,(.bin .rem (.tmp 22) (.const (.int .u64 2)))⟩,⟨some 24,none,(.bin .eql (.tmp 23) (.const (.int .u64 1)))⟩]) (.cond (.tmp 24) (.region [⟨some 25,none,(.mov (.tmp 3))⟩,⟨some 26,none,(.mov (.tmp 0))⟩,⟨some 27,none,(.mov (.tmp 4))⟩,⟨some 28,none,(.idx 2 (.tmp 26) (.tmp 27))⟩,⟨some 29,none,(.fld 0 (.tmp 28))⟩,⟨some 30,none,(.load false 1 (.tmp 29))⟩,⟨some 31,none,(.bin .mul (.const (.int .i64 64)) (.tmp 30))⟩,⟨some 32,none,(.mov (.tmp 6))⟩,⟨some 33,none,(.bin .add (.tmp 31) (.tmp 32))⟩,⟨some 34,none,(.buildSlice 1 1 [(.int .i64 0)] [(0,1,(.tmp 33))])⟩,⟨some 35,none,(.append 1 (.tmp 25) (.tmp 34))⟩,⟨some 3,none,(.mov (.tmp 35))⟩]) .skip)) (.region [⟨some 36,none,(.mov (.tmp 5))⟩,⟨some 37,none,(.bin .quo (.tmp 36) (.const (.int .u64 2)))⟩,⟨some 5,none,(.mov (.tmp 37))⟩]))) (.region [⟨some 20,none,(.mov (.tmp 6))⟩,⟨some 21,none,(.bin .add (.tmp 20) (.const (.int .i64 1)))⟩,⟨some 6,none,(.mov (.tmp 21))⟩])))
noncomputable def body35_1:ACode:=(.seq (.seq (.region [⟨some 7,none,(.mov (.tmp 4))⟩,⟨some 8,none,(.mov (.tmp 0))⟩,⟨some 9,none,(.len (.tmp 8))⟩,⟨some 10,none,(.bin .lss (.tmp 7) (.tmp 9))⟩]) (.cond (.tmp 10) .skip (.exit 0))) (.seq (.block 1 (.seq (.region [⟨some 13,none,(.mov (.tmp 0))⟩,⟨some 14,none,(.mov (.tmp 4))⟩,⟨some 15,none,(.idx 2 (.tmp 13) (.tmp 14))⟩,⟨some 16,none,(.fld 1 (.tmp 15))⟩,⟨some 17,none,(.load false 1 (.tmp 16))⟩,⟨some 5,none,(.mov (.tmp 17))⟩]) (.seq (.region [⟨some 6,none,(.mov (.const (.int .i64 0)))⟩]) (.block 2 (.loop body35_0))))) (.region [⟨some 11,none,(.mov (.tmp 4))⟩,⟨some 12,none,(.bin .add (.tmp 11) (.const (.int .i64 1)))⟩,⟨some 4,none,(.mov (.tmp 12))⟩])))
noncomputable def body35:ACode:=(.seq (.region [⟨some 2,none,(.mov (.const (.slice none 0 0)))⟩]) (.seq (.region [⟨some 3,none,(.mov (.const (.slice none 0 0)))⟩]) (.seq (.seq (.region [⟨some 4,none,(.mov (.const (.int .i64 0)))⟩]) (.block 0 (.loop body35_1))) (.seq (.region [⟨some 38,none,(.mov (.tmp 3))⟩,⟨some 2,none,(.mov (.tmp 38))⟩]) .ret))))
set_option maxRecDepth 100000 in
theorem tab35:tb.code 35=some ⟨39,[(2,none)],body35⟩:=by kernel_rfl
theorem rNumbers_ok (h:AHeap) (v:Value) (s:List LWd) (k:SlW h v s) (ok:OkW s) (hl:s.length≤100000):
  WC Try.prog tb 35 [v] h fun r h'=>OwnN h h' r (numsL s)∧Ext h h':=by
 have ok:=Hid.mk ok
 refine WC.of (zH 35) tab35 ?_;simp only[zn,Nat.zero_add,Nat.reduceAdd]
 refine go ?_
 refine WX.loopA [7,8,9,10,13,14,15,16,17,5,6,18,19,22,23,24,25,26,27,28,29,30,31,32,33,34,35,3,36,37,5,20,21,6,11,12,4] (by kernel_rfl) (fun i=>s.length - i) (fun i t h1=>∃ w,zB t 4=I i∧i≤s.length∧Ext h h1∧zB t 3=w∧OwnN h h1 w (numsL (s.take i))) 0 ?_ ?_
 ·exact⟨_,sl_,Nat.zero_le _,Ext.refl _,sl_,.inl ⟨rfl,rfl⟩⟩
 rintro i t h1 hsame ⟨w,s4,hi,e1,s3,ow⟩
 have k1:=SlW.ext k e1
 refine go ?_
 refine WX.br (fun hb=> ?_) (fun hb=> ?_)<;>simp only[DB]at hb
 ·have hi':i<s.length:=by omega
  obtain⟨cs,⟨rfl,w1,w2,w3⟩,pc,hs⟩:=wd_at k1 hi'
  have hwp:=ok.out.each (s.getD i default) (by rw[List.getD_eq_getElem?_getD,List.getElem?_eq_getElem hi'];exact List.getElem_mem hi')
  have htk:=numsL_take hi'
  have hpl:=nums_take_le s i
  generalize hP:numsL (s.take i)=P at ow htk hpl
  generalize hwd:s.getD i default=wd at *
  have htk:=Hid.mk htk
  have hwd:=Hid.mk hwd
  refine go ?_
  refine WX.loopA [18,19,22,23,24,25,26,27,28,29,30,31,32,33,34,35,3,36,37,5,20,21,6] (by kernel_rfl) (fun n=>64 - n) (fun n t h2=>∃ w,zB t 6=I n∧n≤64∧Ext h h2∧zB t 5=W (wd.bits / 2 ^ n)∧zB t 3=w∧OwnN h h2 w (P++(bitsTo wd.bits n).map (fun k:Nat=>64 * wd.pos+(k:Int)))) 0 ?_ ?_
  ·refine⟨w,sl_,Nat.zero_le _,e1,?_,sl_,by simpa [bitsTo]using ow⟩
   rw[Nat.pow_zero,Nat.div_one];exact sl_
  ·rintro n t2 h2 hsame2 ⟨w',s6,hn,e2,s5,s3',ow'⟩
   have k2:=SlW.ext k e2
   have hdl:wd.bits / 2 ^ n<18446744073709551616:=Nat.lt_of_le_of_lt (Nat.div_le_self _ _) w1
   have hnext:wd.bits / 2 ^ n / 2=wd.bits / 2 ^ (n+1):=by rw[Nat.div_div_eq_div_mul,Nat.pow_succ]
   have hbt:=bitsTo_succ wd.bits n
   have hbl:=bitsTo_le wd.bits n
   generalize hq:wd.bits / 2 ^ n=q at *
   have hquo:zb .quo (W q) (W 2)=some (W (q / 2)):=u_quo hdl (by decide)
   rw[hnext]at hquo
   refine go ?_
   refine WX.br (fun hb2=> ?_) (fun hb2=> ?_)<;>simp only[DB]at hb2
   ·refine go ?_
    refine WO.bin zP rfl (u_rem (a:=q) (b:=2) (by decide)) ?_
    by_cases hq1:q % 2=1
    ·have hq1':((q % 2:Nat):Int)=1:=by omega
     rw[if_pos hq1]at hbt
     obtain⟨cs2,⟨rfl,y1,y2,y3⟩,pc2,hs2⟩:=wd_at k2 hi'
     rw[hwd.out]at y1 y2 y3 pc2
     refine go ?_
     refine WO.bl [64 * wd.pos+(n:Int)] ?_
     intro v3 h3 e3 o3
     refine go ?_
     refine WO.apN (OwnN.ext ow' e3) o3.sl (e2.trans e3) (by simp only[List.length_append,List.length_map,List.length_singleton];omega) ?_
     intro v4 h4 e4 o4
     refine go ?_
     refine WO.bin zP rfl hquo ?_
     refine go ?_
     refine zA (n+1) (by omega) ⟨_,sln,by omega,e4,sl_,sl_,?_⟩
     rw[hbt,List.map_append,←List.append_assoc];exact o4
    ·have hq1':¬((q % 2:Nat):Int)=1:=by omega
     rw[if_neg hq1,List.append_nil]at hbt
     refine go ?_
     refine WO.bin zP rfl hquo ?_
     refine go ?_
     refine zA (n+1) (by omega) ⟨_,sln,by omega,e2,sl_,sl_,?_⟩
     rw[hbt];exact ow'
   ·have hn64:n=64:=by omega
    subst hn64
    refine go ?_
    refine zA (i+1) (by omega) ⟨_,sln,by omega,e2,sl_,?_⟩
    rw[htk.out];exact ow'
 ·refine go ?_
  refine rt ?_
  rw[show i=s.length by omega,List.take_length]at ow
  subst s3
  exact⟨ow,e1⟩
noncomputable def body29_0:ACode:=(.seq (.seq (.region [⟨some 6,none,(.mov (.tmp 5))⟩,⟨some 7,none,(.mov (.tmp 0))⟩,⟨some 8,none,(.len (.tmp 7))⟩,⟨some 9,none,(.bin .lss (.tmp 6) (.tmp 8))⟩]) (.cond (.tmp 9) .skip (.exit 0))) (.seq (.block 1 (.seq (.region [⟨some 12,none,(.mov (.tmp 0))⟩,⟨some 13,none,(.mov (.tmp 5))⟩,⟨some 14,none,(.idx 2 (.tmp 12) (.tmp 13))⟩,⟨some 15,none,(.fld 0 (.tmp 14))⟩,⟨some 16,none,(.load false 1 (.tmp 15))⟩,⟨some 17,none,(.mov (.tmp 1))⟩,⟨some 18,none,(.bin .quo (.tmp 17) (.const (.int .i64 64)))⟩,⟨some 19,none,(.bin .eql (.tmp 16) (.tmp 18))⟩]) (.cond (.tmp 19) (.seq (.regionC [(⟨some 20,none,(.mov (.tmp 0))⟩,[]),(⟨some 21,none,(.mov (.tmp 5))⟩,[]),(⟨some 22,none,(.idx 2 (.tmp 20) (.tmp 21))⟩,[]),(⟨some 23,none,(.fld 1 (.tmp 22))⟩,[]),(⟨some 24,none,(.load false 1 (.tmp 23))⟩,[]),(⟨some 25,none,(.mov (.tmp 1))⟩,[]),(⟨some 26,none,(.call (.func 30) [(.tmp 25)])⟩,[4]),(⟨some 27,none,(.bin .quo (.tmp 24) (.tmp 26))⟩,[]),(⟨some 28,none,(.bin .rem (.tmp 27) (.const (.int .u64 2)))⟩,[]),(⟨some 29,none,(.bin .eql (.tmp 28) (.const (.int .u64 1)))⟩,[]),(⟨some 4,none,(.mov (.tmp 29))⟩,[])]) .ret) .skip))) (.region [⟨some 10,none,(.mov (.tmp 5))⟩,⟨some 11,none,(.bin .add (.tmp 10) (.const (.int .i64 1)))⟩,⟨some 5,none,(.mov (.tmp 11))⟩])))
noncomputable def body29:ACode:=(.seq (.region [⟨some 4,none,(.mov (.const (.bool false)))⟩]) (.seq (.seq (.region [⟨some 5,none,(.mov (.const (.int .i64 0)))⟩]) (.block 0 (.loop body29_0))) (.seq (.region [⟨some 4,none,(.mov (.const (.bool false)))⟩]) .ret)))
set_option maxRecDepth 100000 in
theorem tab29:tb.code 29=some ⟨30,[(4,none)],body29⟩:=by kernel_rfl
theorem rIn_ok (h:AHeap) (v:Value) (s:List LWd) (n:Int) (k:SlW h v s) (ok:OkW s) (hl:(s.length:Int)≤1000000000) (hn:0≤n∧n<1048576):WC Try.prog tb 29 [v,I n] h fun r h'=>r= .bool (inB s n)∧h=h':=by
 refine WC.of (zH 29) tab29 ?_;simp only[zn,Nat.zero_add,Nat.reduceAdd]
 have ok:=Hid.mk ok
 refine go ?_
 refine WX.loopA [6,7,8,9,12,13,14,15,16,17,18,19,20,21,22,23,24,25,26,27,28,29,4,10,11,5] (by kernel_rfl) (fun i=>s.length - i) (fun i t h1=>h=h1∧zB t 5=I i∧i≤s.length∧Hid (∀ j,j<i→(s.getD j default).pos≠n / 64)) 0 ?_ ?_
 ·exact⟨rfl,sl_,Nat.zero_le _,⟨fun j hj=>absurd hj (Nat.not_lt_zero _)⟩⟩
 rintro i t _ hsame ⟨rfl,s5,hi,hI⟩
 refine go ?_
 refine WX.br (fun hb=> ?_) (fun hb=> ?_)<;>simp only[DB]at hb
 ·have hi':i<s.length:=by omega
  obtain⟨cs,⟨rfl,w1,w2,w3⟩,pcx,hs⟩:=slr_atX k hi'
  have pc:=(pcx _ (Ext.refl _)).1
  have hpX:=(pcx _ (Ext.refl _)).2
  have hpX:Piece (inC (zC 0 h)) v (i * 2) [I (s.getD i default).pos,W (s.getD i default).bits]:=hpX
  have kX:SlW (inC (zC 0 h)) v s:=k
  obtain⟨qa,qn,qk,hqv,hqb⟩:=slr_block (i:=i) k hi'
  have hw:=fun hp=>has_word (n:=n) ok.out hi' hp
  refine go ?_
  refine WO.bin zP rfl (b_quo hn.1 (by omega)) ?_
  by_cases hp:(s.getD i default).pos=n / 64
  ·have hw:=hw hp
   generalize hbit:(s.getD i default).bits=b at *
   have hquo:zb .quo (W b) (W (2 ^ (n % 64).toNat))=some (W (b / 2 ^ (n % 64).toNat)):=u_quo w1 (pow_ne _)
   rw[Nat.testBit_eq_decide_div_mod_eq]at hw
   have hrb:=rbit_ok (inC (zC 0 h)) n hn.1 (by omega)
   generalize 2 ^ (n % 64).toNat=p2 at *
   refine go ?_
   refine WX.regionU2 0 rfl rfl ?_
   refine goU ?_
   refine WO.con hrb ?_
   rintro _ _ ⟨rfl,rfl⟩
   refine WO.nil ?_
   refine uK2_e (Ext.refl _) yC ?_
   refine goU ?_
   refine WO.bin zP zP hquo ?_
   refine WO.nil ?_
   refine zy ?_
   refine goU ?_
   refine WO.bin zP rfl (u_rem (a:=b / p2) (b:=2) (by decide)) ?_
   refine WO.nil ?_
   refine zy ?_
   refine goU ?_
   refine rt ?_
   refine⟨?_,rfl⟩
   rw[hw]
   show Value.bool _=Value.bool _
   congr 1
   exact decide_eq_decide.2 ⟨fun h=>by omega,fun h=>by omega⟩
  ·refine go ?_
   refine zA (i+1) (by omega) ⟨rfl,sln,by omega,⟨fun j hj=> ?_⟩⟩
   by_cases e:j=i
   ·subst e;exact hp
   ·exact hI.out j (by omega)
 ·refine go ?_
  refine rt ?_
  refine⟨?_,rfl⟩
  rw[inB_false fun ⟨w,hw,e,_⟩=>by
   obtain⟨j,hj,ej⟩:=List.getElem_of_mem hw
   refine hI.out j (by omega) ?_
   rw[List.getD_eq_getElem?_getD,List.getElem?_eq_getElem hj];subst ej;exact e]
  rfl
end Go.Proofs.Ytejjibilgmlhdaa
