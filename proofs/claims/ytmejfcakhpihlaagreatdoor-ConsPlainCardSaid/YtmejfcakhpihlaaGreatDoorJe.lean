/- Walks of functions, plain laws; proves no statement. -/
import Derived.Test.YtmejfcakhpihlaaGreatDoorJd
set_option linter.unusedVariables false
set_option linter.unusedSimpArgs false
set_option maxHeartbeats 1000000
namespace Go.Proofs.YtmejfcakhpihlaaGreatDoor
noncomputable section
open Go.Am
set_option maxRecDepth 100000
theorem zRc{a b i j:Int}{zs:List Int}(h0:0<=a)(hi:b<=i/\i<zs.length)(hj:b<=j/\j<zs.length)(s:BU a b zs):BU a b (swp zs i j):=fun p q h1 h2 h3=>by
 rw[yY (by omega) (by omega) (by omega),yY (by omega) (by omega) (by omega),QC (by omega),QC (by omega),QC (by omega),QC (by omega)];exact s p q h1 h2 h3
def zLA:U3:=(oV (oV (o6 [oM 17 7,oM 18 2,oB .lss 19 17 18,oM 20 19,oG 20 (oM 21 0),oG 20 (oM 22 7),oG 20 (oI 1 23 21 22),oG 20 (oL 24 23),oG 20 (oM 25 0),oG 20 (oM 26 7),oG 20 (oC .sub 27 26 1),oG 20 (oI 1 28 25 27),oG 20 (oL 29 28),oG 20 (o2 30 242 24 29),oG 20 (oW 31 30),oP 32 20 31]) (oT 32 2)) (o5 3 (oR [oM 33 7,oC .add 34 33 1,oM 7 34])))
def zML:U3:=(oV (oV (oR [oM 64 9,oC .geq 65 64 1]) (oT 65 4)) (oV (o5 5 (oV (oV (o6 [oM 68 0,oM 69 9,oI 1 70 68 69,oL 71 70,oM 72 0,oM 73 9,oC .sub 74 73 1,oI 1 75 72 74,oL 76 75,o2 77 242 71 76,oW 78 77]) (oJ 78 (.exit 4) .skip)) (o6 [oM 79 0,oM 80 9,oM 81 0,oM 82 9,oC .sub 83 82 1,oM 84 0,oM 85 9,oC .sub 86 85 1,oI 1 87 84 86,oL 88 87,oM 89 0,oM 90 9,oI 1 91 89 90,oL 92 91,oI 1 93 79 80,oS 1 93 88,oI 1 94 81 83,oS 1 94 92]))) (oR [oM 66 9,oC .sub 67 66 1,oM 9 67])))
def zLp:U3:=(oV (oV (oR [oM 101 10,oM 102 2,oB .lss 103 101 102]) (oT 103 6)) (oV (o5 7 (oV (oV (o6 [oM 106 0,oM 107 10,oI 1 108 106 107,oL 109 108,oM 110 0,oM 111 10,oC .sub 112 111 1,oI 1 113 110 112,oL 114 113,o2 115 242 109 114,oW 116 115]) (oJ 116 (.exit 6) .skip)) (o6 [oM 117 0,oM 118 10,oM 119 0,oM 120 10,oC .sub 121 120 1,oM 122 0,oM 123 10,oC .sub 124 123 1,oI 1 125 122 124,oL 126 125,oM 127 0,oM 128 10,oI 1 129 127 128,oL 130 129,oI 1 131 117 118,oS 1 131 126,oI 1 132 119 121,oS 1 132 130]))) (oR [oM 104 10,oC .add 105 104 1,oM 10 105])))
def zMo:U3:=(oV (oV (oR [oM 13 8,oC .lss 14 13 5]) (oT 14 0)) (oV (o5 1 (oV (o5 2 (.loop zLA)) (oV (oV (oR [oM 35 7,oM 36 2,oB .eql 37 35 36]) (oJ 37 (oV (oR [oK 6 (.bool true)]) .ret) .skip)) (oV (oV (oR [oM 38 2,oM 39 1,oB .sub 40 38 39,oC .lss 41 40 50]) (oJ 41 (oV (oR [oZ 6]) .ret) .skip)) (oV (o6 [oM 42 0,oM 43 7,oM 44 0,oM 45 7,oC .sub 46 45 1,oM 47 0,oM 48 7,oC .sub 49 48 1,oI 1 50 47 49,oL 51 50,oM 52 0,oM 53 7,oI 1 54 52 53,oL 55 54,oI 1 56 42 43,oS 1 56 51,oI 1 57 44 46,oS 1 57 55]) (oV (oV (oR [oM 58 7,oM 59 1,oB .sub 60 58 59,oC .geq 61 60 2]) (oJ 61 (oV (oR [oM 62 7,oC .sub 63 62 1,oM 9 63]) (o5 4 (.loop zML))) .skip)) (oV (oR [oM 95 2,oM 96 7,oB .sub 97 95 96,oC .geq 98 97 2]) (oJ 98 (oV (oR [oM 99 7,oC .add 100 99 1,oM 10 100]) (o5 6 (.loop zLp))) .skip)))))))) (oR [oM 15 8,oC .add 16 15 1,oM 8 16])))
def zQk:U3:=(oV (oR [oZ 6]) (oV (oR [oM 11 1,oC .add 12 11 1,oM 7 12]) (oV (oV (oR [oN 8 0]) (o5 0 (.loop zMo))) (oV (oR [oZ 6]) .ret))))
theorem zJl(hB h:U2)(v:Value)(xs:List Int)(a b:Int)(e0:U8 hB h)(hmB:hB.mark<=hB.n)(o:We hB h v xs)(h0:0<=a)(hab:a<b)(hb:b<=xs.length)(hlen:xs.length<=1000000000)(hpre:0<a->∀ k,a<=k->k<b->WH xs (a-1)<=WH xs k):
  WC Tryz.prog tb 241 [v,I a,I b] h fun r h'=>∃ ys w,r=.bool w/\SS hB h v a b xs ys h'/\(w=true->BU a b ys):=by
 have s0:=VT a b o e0;have low:Wa (∀ ys,PI a b xs ys->0<a->∀ k,a<=k->k<b->WH ys (a-1)<=WH ys k):=Wa.mk fun ys p ha=>by
  have e1:WH ys (a-1)=WH xs (a-1):=p.out _ (by omega) (.inl (by omega));rw[e1];exact p.all (p:=fun x=>WH xs (a-1)<=x) h0 hb (hpre ha)
 refine en 133 [(6,none)] zQk ?_;refine VD [13,14,17,18,19,20,21,22,23,24,25,26,27,28,29,30,31,32,33,34,7,35,36,37,6,38,39,40,41,6,42,43,44,45,46,47,48,49,50,51,52,53,54,55,56,57,58,59,60,61,62,63,9,64,65,68,69,70,71,72,73,74,75,76,77,78,79,80,81,82,83,84,85,86,87,88,89,90,91,92,93,94,66,67,9,95,96,97,98,99,100,10,101,102,103,106,107,108,109,110,111,112,113,114,115,116,117,118,119,120,121,122,123,124,125,126,127,128,129,130,131,132,104,105,10,15,16,8] (by kernel_rfl) (fun x=>(5-x.2.2).toNat) (fun(x:List Int×Int×Int) t h4=>SS hB h v a b xs x.1 h4/\zB t 7=I x.2.1/\zB t 8=I x.2.2/\(a+1<=x.2.1/\x.2.1<=b)/\(0<=x.2.2/\x.2.2<=5)/\BU a x.2.1 x.1) (xs,a+1,0) ?_ ?_
 ·exact⟨s0,WA,WA,by simp only;omega,by simp only;omega,VX (by simp only;omega)⟩
 rintro⟨ys,i,c⟩ t h4 hsame ⟨s4,s7,s8,hi,hc,hs⟩;simp only at s4 s7 s8 hi hc hs;have hl4:=s4.len;refine go ?_;refine VE (fun hx=> ?_) (fun hx=> ?_)<;>simp only[DB]at hx;case refine_2=>
  refine gr ?_;exact⟨_,_,rfl,s4,fun h=>by cases h⟩
 refine go ?_;refine VD [17,18,19,20,21,22,23,24,25,26,27,28,29,30,31,32,33,34,7] (by kernel_rfl) (fun i=>(b-i).toNat) (fun(i:Int) t h2=>h4=h2/\zB t 7=I i/\(a+1<=i/\i<=b)/\BU a i ys) i ?_ ?_
 ·exact⟨rfl,WA,hi,hs⟩
 clear hs hi s7;rintro i t _ hsame2 ⟨rfl,s7,hi,hs⟩;refine go ?_;refine VJ [17,18,19,20,21,22,23,24,25,26,27,28,29,30,31,32] (by kernel_rfl) (fun t h'=>h4=h'/\zB t 32=.bool (decide (i<b/\¬(WH ys i<WH ys (i-1))))) ?_ ?_
 ·refine VC 0 rfl rfl ?_;have srX:WM (inC (zC 0 h4)) v ys:=(s4.own).sl;refine WT ?_;refine VI (fun hd=> ?_) (fun hd=> ?_)<;>simp only[DB]at hd<;>refine WT ?_
  ·refine VA (Zb _ (WH ys i) (WH ys (i-1))) ?_;rintro _ _ ⟨rfl,rfl⟩;refine nQ ?_;refine WT ?_;exact zG ⟨rfl,by rw[show decide (i<b/\¬(WH ys i<WH ys (i-1)))= !decide (WH ys i<WH ys (i-1))from zCa hd];exact WA⟩
  ·exact zG ⟨rfl,by rw[show decide (i<b/\¬(WH ys i<WH ys (i-1)))=false from Qb (fun hh=>absurd hh.1 (by omega))];exact WA⟩
 rintro t5 _ hs5 ⟨rfl,q5⟩;refine go ?_;refine VE (fun he=> ?_) (fun he=> ?_)<;>simp only[DB]at he
 ·refine go ?_;refine zA (i+1) (by omega) ⟨rfl,WA,by omega,fun p q h1 h2 h3=> ?_⟩;by_cases e:q=i
  ·by_cases e2:p=i
   ·rw[e,e2];exact Qk _
   ·have:=hs p (i-1) h1 (by omega) (by omega);rw[e];omega
  ·exact hs p q h1 h2 (by omega)
 refine go ?_;refine VE (fun hf=> ?_) (fun hf=> ?_)<;>simp only[DB]at hf
 ·refine gr ?_;subst hf;exact⟨_,_,rfl,s4,fun _=>hs⟩
 refine go ?_;refine VE (fun hg=> ?_) (fun hg=> ?_)<;>simp only[DB]at hg
 ·refine gr ?_;exact⟨_,_,rfl,s4,fun h=>by cases h⟩
 have hlt:WH ys i<WH ys (i-1):=Int.not_le.1 fun hh=>he ⟨by omega,hh⟩;refine go ?_;refine VC 0 rfl rfl ?_;have srX:WM (inC (zC 0 h4)) v ys:=(s4.own).sl;refine WT ?_;refine VM (i) (i-1) (s4).own (s4).ext (by rw[(s4).ext.mark];exact hmB) ?_;intro h6 e6 o6 u6;have s6:=s4.swp e6 o6 u6 h0 hb (by omega) (by omega);have hz:∀ p q,a<=p->p<=q->q<i->q≠i-1->WH (swp ys i (i-1)) p<=WH (swp ys i (i-1)) q:=fun p q h1 h2 h3 h4=>by
  rw[yY (by omega) (by omega) (by omega),yY (by omega) (by omega) (by omega),QC (by omega),QC (by omega),QC (by omega),QC (by omega)];exact hs p q h1 h2 h3
 clear o6 e6 u6 s4 hl4 hs he hlt;generalize swp ys i (i-1)=zs at s6 hz;have hl6:=s6.len;refine go ?_;refine VJ [62,63,9,64,65,68,69,70,71,72,73,74,75,76,77,78,79,80,81,82,83,84,85,86,87,88,89,90,91,92,93,94,66,67,9] (by kernel_rfl) (fun t h'=>∃ ws,SS hB h v a b xs ws h'/\BU a i ws) ?_ ?_
 ·refine VE (fun hj=> ?_) (fun hj=> ?_)<;>simp only[DB]at hj<;>refine go ?_
  ·refine VD [64,65,68,69,70,71,72,73,74,75,76,77,78,79,80,81,82,83,84,85,86,87,88,89,90,91,92,93,94,66,67,9] (by kernel_rfl) (fun x=>(x.2+1).toNat) (fun(x:List Int×Int) t h7=>SS hB h v a b xs x.1 h7/\zB t 9=I x.2/\(a<=x.2/\x.2<=i-1)/\∀ p q,a<=p->p<=q->q<i->q≠x.2->WH x.1 p<=WH x.1 q) (zs,i-1) ?_ ?_
   ·exact⟨s6,WA,by simp only;omega,hz⟩
   rintro⟨ws,j⟩ t h7 hsame3 ⟨s7',s9,hj2,hw⟩;simp only at s7' s9 hj2 hw;have hl7:=s7'.len;have fin:(j<1\/¬WH ws j<WH ws (j-1))->BU a i ws:=fun hor p q h1 h2 h3=>by
    by_cases e:q=j
    ·by_cases e2:p=j
     ·rw[e,e2];exact Qk _
     ·have:=hw p (j-1) h1 (by omega) (by omega) (by omega);rw[e];rcases hor with hh|hh
      ·omega
      ·omega
    ·exact hw p q h1 h2 h3 e
   refine go ?_;refine VE (fun hk=> ?_) (fun hk=> ?_)<;>simp only[DB]at hk;case refine_2=>
    refine go ?_;exact zG ⟨ws,s7',fin (.inl (by omega))⟩
   refine go ?_;refine VC 0 rfl rfl ?_;have srX:WM (inC (zC 0 h7)) v ws:=(s7'.own).sl;refine WT ?_;refine VA (Zb _ (WH ws j) (WH ws (j-1))) ?_;rintro _ _ ⟨rfl,rfl⟩;refine nQ ?_;refine WT ?_;rw[zAp];refine VE (fun hm=> ?_) (fun hm=> ?_)<;>simp only[DB]at hm
   ·refine go ?_;exact zG ⟨ws,s7',fin (.inr (by omega))⟩
   have hja:a<j:=by
    by_cases e:a<j
    ·exact e
    ·have ej:j=a:=by omega
     subst ej;have:=low.out ws s7'.pi (by omega) j (by omega) (by omega);omega
   refine go ?_;refine VC 0 rfl rfl ?_;have srX:WM (inC (zC 0 h7)) v ws:=(s7'.own).sl;refine WT ?_;refine VM (j) (j-1) (s7').own (s7').ext (by rw[(s7').ext.mark];exact hmB) ?_;intro h8 e8 o8 u8;have s8':=s7'.swp e8 o8 u8 h0 hb (by omega) (by omega);refine go ?_;refine zA (swp ws j (j-1),j-1) (by simp only;omega) ⟨s8',WA,by simp only;omega,fun p q h1 h2 h3 h4=> ?_⟩;exact zIp (i:=i-1) h0 hja (by omega) (by omega) hm (fun p q h1 h2 h3 h4=>hw p q h1 h2 (by omega) h4) p q h1 h2 (by omega) h4
  ·exact zG ⟨zs,s6,VX (by omega)⟩
 clear s6 hz hl6;rintro t7 h7 hs7 ⟨zs,s6,hz⟩;have hl6:=s6.len;refine go ?_;refine VJ [99,100,10,101,102,103,106,107,108,109,110,111,112,113,114,115,116,117,118,119,120,121,122,123,124,125,126,127,128,129,130,131,132,104,105,10] (by kernel_rfl) (fun t h'=>∃ ws,SS hB h v a b xs ws h'/\BU a i ws) ?_ ?_
 ·refine VE (fun hj=> ?_) (fun hj=> ?_)<;>simp only[DB]at hj<;>refine go ?_
  ·refine VD [101,102,103,106,107,108,109,110,111,112,113,114,115,116,117,118,119,120,121,122,123,124,125,126,127,128,129,130,131,132,104,105,10] (by kernel_rfl) (fun x=>(b-x.2).toNat) (fun(x:List Int×Int) t h7=>SS hB h v a b xs x.1 h7/\zB t 10=I x.2/\(i+1<=x.2/\x.2<=b)/\BU a i x.1) (zs,i+1) ?_ ?_
   ·exact⟨s6,WA,by simp only;omega,hz⟩
   rintro⟨ws,j⟩ t h7 hsame3 ⟨s7',s10,hj2,hw⟩;simp only at s7' s10 hj2 hw;have hl7:=s7'.len;refine go ?_;refine VE (fun hk=> ?_) (fun hk=> ?_)<;>simp only[DB]at hk;case refine_2=>
    refine go ?_;exact zG ⟨ws,s7',hw⟩
   refine go ?_;refine VC 0 rfl rfl ?_;have srX:WM (inC (zC 0 h7)) v ws:=(s7'.own).sl;refine WT ?_;refine VA (Zb _ (WH ws j) (WH ws (j-1))) ?_;rintro _ _ ⟨rfl,rfl⟩;refine nQ ?_;refine WT ?_;rw[zAp];refine VE (fun hm=> ?_) (fun hm=> ?_)<;>simp only[DB]at hm
   ·refine go ?_;exact zG ⟨ws,s7',hw⟩
   refine go ?_;refine VC 0 rfl rfl ?_;have srX:WM (inC (zC 0 h7)) v ws:=(s7'.own).sl;refine WT ?_;refine VM (j) (j-1) (s7').own (s7').ext (by rw[(s7').ext.mark];exact hmB) ?_;intro h8 e8 o8 u8;have s8':=s7'.swp e8 o8 u8 h0 hb (by omega) (by omega);refine go ?_;exact zA (swp ws j (j-1),j+1) (by simp only;omega) ⟨s8',WA,by simp only;omega,zRc h0 (by omega) (by omega) hw⟩
  ·exact zG ⟨zs,s6,hz⟩
 clear s6 hz hl6;rintro t8 h8 hs8 ⟨zs,s6,hz⟩;refine go ?_;exact zA (zs,i,c+1) (by simp only;omega) ⟨s6,WA,WA,hi,by simp only;omega,hz⟩
def zMk:U3:=(o5 1 (oV (oR [oM 19 2,oM 20 1,oB .sub 21 19 20,oM 10 21]) (oV (oV (oR [oM 22 10,oC .leq 23 22 12]) (oJ 23 (oV (oR [oM 24 0,oM 25 1,oM 26 2,o3 27 236 24 25 26]) .ret) .skip)) (oV (oV (oR [oM 28 3,oC .eql 29 28 0]) (oJ 29 (oV (oR [oM 30 0,oM 31 1,oM 32 2,o3 33 237 30 31 32]) .ret) .skip)) (oV (oV (oR [oM 34 8,oW 35 34]) (oJ 35 (oV (oR [oM 36 0,oM 37 1,oM 38 2,o3 39 238 36 37 38]) (oR [oM 40 3,oC .sub 41 40 1,oM 3 41])) .skip)) (oV (oR [oM 43 0,oM 44 1,oM 45 2,o3 46 239 43 44 45,oM 42 46,oE 47 42 0,oE 48 42 1,oM 11 47,oM 12 48]) (oV (oV (oR [oM 49 12,oC .eql 50 49 2]) (oJ 50 (oV (oR [oM 51 0,oM 52 1,oM 53 2,o3 54 240 51 52 53]) (oV (oR [oM 55 2,oC .sub 56 55 1,oM 57 11,oM 58 1,oB .sub 59 57 58,oB .sub 60 56 59,oM 11 60]) (oR [oN 12 1]))) .skip)) (oV (oV (oR [oM 61 8,oM 62 61,oG 62 (oM 63 9),oP 64 62 63,oM 65 64,oG 65 (oM 66 12),oG 65 (oC .eql 67 66 1),oP 68 65 67]) (oJ 68 (oV (oR [oM 69 0,oM 70 1,oM 71 2,o3 72 241 69 70 71]) (oJ 72 .ret .skip)) .skip)) (oV (oV (o6 [oM 73 1,oC .gtr 74 73 0,oM 75 74,oG 75 (oM 76 0),oG 75 (oM 77 1),oG 75 (oC .sub 78 77 1),oG 75 (oI 1 79 76 78),oG 75 (oL 80 79),oG 75 (oM 81 0),oG 75 (oM 82 11),oG 75 (oI 1 83 81 82),oG 75 (oL 84 83),oG 75 (o2 85 242 80 84),oG 75 (oW 86 85),oP 87 75 86]) (oJ 87 (oV (oR [oM 88 0,oM 89 1,oM 90 2,oM 91 11,o4 92 243 88 89 90 91,oM 13 92]) (oV (oR [oM 93 13,oM 1 93]) (.exit 1))) .skip)) (oV (oR [oM 95 0,oM 96 1,oM 97 2,oM 98 11,o4 99 244 95 96 97 98,oM 94 99,oE 100 94 0,oE 101 94 1,oM 14 100,oM 15 101]) (oV (oR [oM 102 15,oM 9 102]) (oV (oR [oM 103 14,oM 104 1,oB .sub 105 103 104,oM 106 2,oM 107 14,oB .sub 108 106 107,oM 16 105,oM 17 108]) (oV (oR [oM 109 10,oC .quo 110 109 8,oM 18 110]) (oV (oR [oM 111 16,oM 112 17,oB .lss 113 111 112]) (oJ 113 (oV (oR [oM 114 16,oM 115 18,oB .geq 116 114 115,oM 8 116]) (oV (oR [oM 117 0,oM 118 1,oM 119 14,oM 120 3,o4 121 216 117 118 119 120]) (oR [oM 122 14,oC .add 123 122 1,oM 1 123]))) (oV (oR [oM 124 17,oM 125 18,oB .geq 126 124 125,oM 8 126]) (oV (oR [oM 127 0,oM 128 14,oC .add 129 128 1,oM 130 2,oM 131 3,o4 132 216 127 129 130 131]) (oR [oM 133 14,oM 2 133]))))))))))))))))))
def zKE:U3:=(oV (oR [oK 8 (.bool true)]) (oV (oR [oK 9 (.bool true)]) (o5 0 (.loop zMk))))
theorem zUd(n:Nat):∀ (hB h:U2) (v:Value) (xs:List Int) (a b lim:Int) (e0:U8 hB h) (hmB:hB.mark<=hB.n) (o:We hB h v xs) (h0:0<=a) (hab:a<=b) (hb:b<=xs.length) (hn:b-a<=n) (hlen:xs.length<=1000000000) (hlim:0<=lim/\lim<=1000) (hpre:0<a->∀ k,a<=k->k<b->WH xs (a-1)<=WH xs k),
  WC Tryz.prog tb 216 [v,I a,I b,I lim] h fun r h'=>∃ ys,SS hB h v a b xs ys h'/\BU a b ys:=by
 induction n using Nat.strongRecOn with
 |_ n IH=>
 intro hB h v xs a b lim e0 hmB o h0 hab hb hn hlen hlim hpre;have IH:=Wa.mk IH;have s0:=VT a b o e0;refine en 134 [] zKE ?_;refine VD [19,20,21,10,22,23,24,25,26,27,28,29,30,31,32,33,34,35,36,37,38,39,40,41,3,43,44,45,46,42,47,48,11,12,49,50,51,52,53,54,55,56,57,58,59,60,11,12,61,62,63,64,65,66,67,68,69,70,71,72,73,74,75,76,77,78,79,80,81,82,83,84,85,86,87,88,89,90,91,92,13,93,1,95,96,97,98,99,94,100,101,14,15,102,9,103,104,105,106,107,108,16,17,109,110,18,111,112,113,114,115,116,8,117,118,119,120,121,122,123,1,124,125,126,8,127,128,129,130,131,132,133,2] (by kernel_rfl) (fun x=>(x.2.2.1-x.2.1).toNat) (fun(x:List Int×Int×Int×Int×Bool×Bool) t h4=>SS hB h v a b xs x.1 h4/\zB t 1=I x.2.1/\zB t 2=I x.2.2.1/\zB t 3=I x.2.2.2.1/\zB t 8=.bool x.2.2.2.2.1/\zB t 9=.bool x.2.2.2.2.2/\(a<=x.2.1/\x.2.1<=x.2.2.1/\x.2.2.1<=b)/\(0<=x.2.2.2.1/\x.2.2.2.1<=1000)/\BU a x.2.1 x.1/\BU x.2.2.1 b x.1/\(∀ p q,a<=p->p<x.2.1->x.2.1<=q->q<b->WH x.1 p<=WH x.1 q)/\(∀ p q,a<=p->p<x.2.2.1->x.2.2.1<=q->q<b->WH x.1 p<=WH x.1 q)/\(0<x.2.1->∀ k,x.2.1<=k->k<x.2.2.1->WH x.1 (x.2.1-1)<=WH x.1 k)) (xs,a,b,lim,true,true) ?_ ?_
 ·exact⟨s0,WA,WA,WA,WA,WA,by simp only;omega,hlim,VX (by simp only;omega),VX (by simp only;omega),fun p q h1 h2=>by simp only at h2;omega,fun p q h1 h2 h3 h4=>by simp only at h3;omega,hpre⟩
 rintro⟨ys,c,d,lm,wb,wp⟩ t h4 hsame ⟨s4,s1,s2,s3,s8,s9,hcd,hlm,rA,rB,rL,rH,hpr⟩;simp only at s4 s1 s2 s3 s8 s9 hcd hlm rA rB rL rH hpr;have hl4:=s4.len;have whole:Wa (∀ zs h5,SS hB h4 v c d ys zs h5->BU c d zs->SS hB h v a b xs zs h5/\BU a b zs):=Wa.mk fun zs h5 s5 r5=>by
  refine⟨s4.call s5 hcd.1 hcd.2.2,fun p q h1 h2 h3=> ?_⟩;have p5:=s5.pi;have o5:=p5.out;by_cases hq:q<c
  ·rw[o5 p (by omega) (.inl (by omega)),o5 q (by omega) (.inl hq)];exact rA p q h1 h2 hq
  by_cases hp:d<=p
  ·rw[o5 p (by omega) (.inr hp),o5 q (by omega) (.inr (by omega))];exact rB p q hp h2 h3
  by_cases hp2:p<c
  ·rw[o5 p (by omega) (.inl hp2)];by_cases hq2:d<=q
   ·rw[o5 q (by omega) (.inr hq2)];exact rL p q h1 hp2 (by omega) h3
   ·exact p5.all (p:=fun x=>WH ys p<=x) (by omega) (by omega) (fun k hk1 hk2=>rL p k h1 hp2 hk1 (by omega)) q (by omega) (by omega)
  ·by_cases hq2:d<=q
   ·rw[o5 q (by omega) (.inr hq2)];exact p5.all (p:=fun x=>x<=WH ys q) (by omega) (by omega) (fun k hk1 hk2=>rH k q (by omega) hk2 hq2 h3) p (by omega) (by omega)
   ·exact r5 p q (by omega) h2 (by omega)
 refine go ?_;refine VE (fun hx=> ?_) (fun hx=> ?_)<;>simp only[DB]at hx
 ·refine go ?_;refine VA (zGU hB h4 v ys c d s4.ext hmB s4.own (by omega) (by omega) (by omega) (by omega)) ?_;rintro _ h5 ⟨zs,o5,p5,r5,e5,u5⟩;refine gr ?_;exact⟨zs,whole.out zs h5 ⟨o5,e5,u5,p5⟩ r5⟩
 refine go ?_;refine VE (fun hy=> ?_) (fun hy=> ?_)<;>simp only[DB]at hy
 ·refine go ?_;refine VA (zSe hB h4 v ys c d s4.ext hmB s4.own (by omega) (by omega) (by omega) (by omega)) ?_;rintro _ h5 ⟨zs,s5,r5⟩;refine gr ?_;exact⟨zs,whole.out zs h5 s5 r5⟩
 refine go ?_;refine VJ [36,37,38,39,40,41,3] (by kernel_rfl) (fun t h'=>∃ zs l2,SS hB h4 v c d ys zs h'/\zB t 3=I l2/\0<=l2/\l2<=1000) ?_ ?_
 ·refine VE (fun hz=> ?_) (fun hz=> ?_)<;>simp only[DB]at hz<;>refine go ?_
  ·refine VA (zOW hB h4 v ys c d s4.ext hmB s4.own (by omega) (by omega) (by omega) (by omega)) ?_;rintro _ h5 ⟨zs,s5⟩;refine go ?_;exact zG ⟨zs,lm-1,s5,WA,by omega,by omega⟩
  ·exact zG ⟨ys,lm,VT c d s4.own s4.ext,WA,hlm.1,hlm.2⟩
 rintro t5 h5 hs5 ⟨zs,l2,s5,q3,hl2⟩;have hl5:=s5.len;refine go ?_;refine VA (zPZ h5 v zs c d s5.own.sl (by omega) (by omega) (by omega) (by omega)) ?_;rintro _ h6 ⟨⟨pv,hint,rfl,hpv⟩,e6⟩;have s6:=s5.extd e6;refine go ?_;refine VJ [51,52,53,54,55,56,57,58,59,60,11,12] (by kernel_rfl) (fun t h'=>∃ ws p2 hi2,SS hB h4 v c d ys ws h'/\zB t 11=I p2/\zB t 12=I hi2/\c<=p2/\p2<d) ?_ ?_
 ·refine VE (fun hz=> ?_) (fun hz=> ?_)<;>simp only[DB]at hz<;>refine go ?_
  ·refine VA (zJv hB h6 v zs c d s6.ext hmB s6.own (by omega) (by omega) (by omega) (by omega)) ?_;rintro _ h7 ⟨ws,s7⟩;refine go ?_;exact zG ⟨ws,_,1,s6.call s7 (by omega) (by omega),WA,WA,by omega,by omega⟩
  ·exact zG ⟨zs,pv,hint,s6,WA,WA,hpv.1,hpv.2⟩
 clear s5 s6 hl5;rintro t7 h7 hs7 ⟨ws,p2,hi2,s7,q11,q12,hp2⟩;have hl7:=s7.len;have low7:Wa (∀ us,PI c d ys us->0<c->∀ k,c<=k->k<d->WH us (c-1)<=WH us k):=Wa.mk fun us p hc=>by
  rw[p.out (c-1) (by omega) (.inl (by omega))];exact p.all (p:=fun x=>WH ys (c-1)<=x) (by omega) (by omega) (hpr hc)
 have env:Wa (∀ us,PI c d ys us->BU a c us/\BU d b us/\(∀ p q,a<=p->p<c->c<=q->q<b->WH us p<=WH us q)/\(∀ p q,a<=p->p<d->d<=q->q<b->WH us p<=WH us q)):=Wa.mk fun us p5=>by
  have o5:=p5.out;refine⟨fun p q h1 h2 h3=> ?_,fun p q h1 h2 h3=> ?_,fun p q h1 h2 h3 h4=> ?_,fun p q h1 h2 h3 h4=> ?_⟩
  ·rw[o5 p (by omega) (.inl (by omega)),o5 q (by omega) (.inl h3)];exact rA p q h1 h2 h3
  ·rw[o5 p (by omega) (.inr (by omega)),o5 q (by omega) (.inr (by omega))];exact rB p q h1 h2 h3
  ·rw[o5 p (by omega) (.inl (by omega))];by_cases hq2:d<=q
   ·rw[o5 q (by omega) (.inr hq2)];exact rL p q h1 h2 h3 h4
   ·exact p5.all (p:=fun x=>WH ys p<=x) (by omega) (by omega) (fun k hk1 hk2=>rL p k h1 h2 hk1 (by omega)) q h3 (by omega)
  ·rw[o5 q (by omega) (.inr (by omega))];by_cases hp:p<c
   ·rw[o5 p (by omega) (.inl hp)];exact rH p q h1 h2 h3 h4
   ·exact p5.all (p:=fun x=>x<=WH ys q) (by omega) (by omega) (fun k hk1 hk2=>rH k q (by omega) hk2 h3 h4) p (by omega) h2
 clear rA rB rL rH hpr;refine go ?_;refine VU 6 (fun t' h'=>h7=h'/\∃ bb,zB t' 68=.bool bb) ?_ ?_<;>simp only[Qs,GE,GN,Q0]
 ·cases wb<;>cases wp<;>refine go ?_<;>exact⟨rfl,rfl,rfl,_,WA⟩
 rintro t8 _ hs8 ⟨rfl,bb,q68⟩;refine go ?_;refine VJ [69,70,71,72] (by kernel_rfl) (fun t h'=>∃ us,SS hB h4 v c d ys us h') ?_ ?_
 ·refine VE (fun hz=> ?_) (fun hz=> ?_)<;>refine go ?_
  ·refine VA (zJl hB h7 v ws c d s7.ext hmB s7.own (by omega) (by omega) (by omega) (by omega) (low7.out ws s7.pi)) ?_;rintro _ h9 ⟨us,w,rfl,s9',r9⟩;have r9:=Wa.mk r9;refine WO.nil ?_;refine YJ ?_;refine VE (fun hw=> ?_) (fun hw=> ?_)
   ·refine WX.ret ?_;refine zCn ?_;refine gr ?_;exact⟨us,whole.out us h9 (s7.call s9' (by omega) (by omega)) (r9.out hw)⟩
   ·refine WX.skip ?_;exact zG ⟨us,s7.call s9' (by omega) (by omega)⟩
  ·exact zG ⟨ws,s7⟩
 clear s7 hl7;rintro t9 h9 hs9 ⟨us,s9'⟩;have hl9:=s9'.len;refine go ?_;refine VJ [73,74,75,76,77,78,79,80,81,82,83,84,85,86,87] (by kernel_rfl) (fun t h'=>h9=h'/\zB t 87=.bool (decide (0<c/\¬(WH us (c-1)<WH us p2)))) ?_ ?_
 ·refine VC 0 rfl rfl ?_;have srX:WM (inC (zC 0 h9)) v us:=(s9'.own).sl;refine WT ?_;refine VI (fun hd=> ?_) (fun hd=> ?_)<;>simp only[DB]at hd<;>refine WT ?_
  ·refine VA (Zb _ (WH us (c-1)) (WH us p2)) ?_;rintro _ _ ⟨rfl,rfl⟩;refine nQ ?_;refine WT ?_;exact zG ⟨rfl,by rw[show decide (0<c/\¬(WH us (c-1)<WH us p2))= !decide (WH us (c-1)<WH us p2)from zCa hd];exact WA⟩
  ·exact zG ⟨rfl,by rw[show decide (0<c/\¬(WH us (c-1)<WH us p2))=false from Qb (fun hh=>absurd hh.1 (by omega))];exact WA⟩
 rintro t10 _ hs10 ⟨rfl,q10⟩;refine go ?_;refine VE (fun hz=> ?_) (fun hz=> ?_)<;>simp only[DB]at hz<;>refine go ?_
 ·refine VA (zHV hB h9 v us c d p2 s9'.ext hmB s9'.own (by omega) (by omega) (by omega) (by omega)) ?_;rintro _ h11 ⟨zs,m,rfl,s11,hm,lo,hi⟩;have sw:=s9'.call s11 (Qk _) (Qk _);obtain⟨eA,eB,eL,eH⟩:=env.out zs sw.pi;have lz:=low7.out zs sw.pi hz.1;have hP:WH us p2<=WH zs (c-1):=by
   rw[s11.pi.out (c-1) (by omega) (.inl (by omega))];omega
  refine go ?_;refine zA (zs,m,d,l2,wb,wp) (by simp only;omega) ⟨s4.call sw hcd.1 hcd.2.2,WA,WA,WA,WA,WA,by simp only;omega,hl2,fun p q h1 h2 h3=> ?_,eB,fun p q h1 h2 h3 h4=> ?_,eH,fun h1 k h2 h3=> ?_⟩
  ·simp only at h3 |-;by_cases hq:q<c
   ·exact eA p q h1 h2 hq
   by_cases hp:p<c
   ·exact eL p q h1 hp (by omega) (by omega)
   ·have x1:=lo p (by omega) (by omega);have x2:=lz q (by omega) (by omega);omega
  ·simp only at h2 h3 |-;by_cases hp:p<c
   ·exact eL p q h1 hp (by omega) h4
   by_cases hq:d<=q
   ·exact eH p q h1 (by omega) hq h4
   ·have x1:=lo p (by omega) (by omega);have x2:=hi q (by omega) (by omega);omega
  ·simp only at h1 h2 h3 |-;have x1:=lo (m-1) (by omega) (by omega);have x2:=hi k (by omega) (by omega);omega
 ·refine VA (zHM hB h9 v us c d p2 s9'.ext hmB s9'.own (by omega) (by omega) (by omega) (by omega)) ?_;rintro _ h11 ⟨zs,m,w,rfl,s11,hm,lo,hi⟩;have sw:=s9'.call s11 (Qk _) (Qk _);have hlw:=sw.len;refine go ?_;refine WO.quo (a:=d-c) (c:=8) (by decide) (by rw[G5 (by omega)];omega) (by rw[G5 (by omega)];omega) ?_;refine go ?_;refine VE (fun hy2=> ?_) (fun hy2=> ?_)<;>simp only[DB]at hy2<;>refine go ?_
  ·refine VA (IH.out (m-c).toNat (by omega) hB h11 v zs c m l2 sw.ext hmB sw.own (by omega) (by omega) (by omega) (by omega) (by omega) hl2 (fun h1 k h2 h3=>low7.out zs sw.pi h1 k h2 (by omega))) ?_;rintro _ h12 ⟨vs,s12,r12⟩;have st:=sw.call s12 (Qk _) (by omega);obtain⟨eA,eB,eL,eH⟩:=env.out vs st.pi;have same:∀ k,m<=k->WH vs k=WH zs k:=fun k hk=>s12.pi.out k (by omega) (.inr hk);have left:∀ k,c<=k->k<m->WH vs k<=WH zs m:=s12.pi.all (p:=fun x=>x<=WH zs m) (by omega) (by omega) (fun k h1 h2=>lo k h1 h2);refine go ?_;refine zA (vs,m+1,d,l2,decide ((d-c).tdiv 8<=m-c),w) (by simp only;omega) ⟨s4.call st hcd.1 hcd.2.2,WA,WA,WA,WA,WA,by simp only;omega,hl2,fun p q h1 h2 h3=> ?_,eB,fun p q h1 h2 h3 h4=> ?_,eH,fun h1 k h2 h3=> ?_⟩
   ·simp only at h3 |-;by_cases hq:q<c
    ·exact eA p q h1 h2 hq
    by_cases hp:p<c
    ·exact eL p q h1 hp (by omega) (by omega)
    by_cases hqm:q=m
    ·by_cases hpm:p=m
     ·rw[hqm,hpm];exact Qk _
     ·rw[hqm,same m (Qk _)];exact left p (by omega) (by omega)
    ·exact r12 p q (by omega) h2 (by omega)
   ·simp only at h2 h3 |-;by_cases hp:p<c
    ·exact eL p q h1 hp (by omega) h4
    by_cases hq:d<=q
    ·exact eH p q h1 (by omega) hq h4
    ·rw[same q (by omega)];have x2:=hi q (by omega) (by omega);by_cases hpm:p=m
     ·rw[hpm,same m (Qk _)];exact x2
     ·have x1:=left p (by omega) (by omega);omega
   ·simp only at h1 h2 h3 |-;rw[show m+1-1=m by omega,same m (Qk _),same k (by omega)];exact hi k (by omega) h3
  ·refine VA (IH.out (d-(m+1)).toNat (by omega) hB h11 v zs (m+1) d l2 sw.ext hmB sw.own (by omega) (by omega) (by omega) (by omega) (by omega) hl2 (fun h1 k h2 h3=>by rw[show m+1-1=m by omega];exact hi k (by omega) h3)) ?_;rintro _ h12 ⟨vs,s12,r12⟩;have st:=sw.call s12 (by omega) (Qk _);obtain⟨eA,eB,eL,eH⟩:=env.out vs st.pi;have same:∀ k,0<=k->k<=m->WH vs k=WH zs k:=fun k h0 hk=>s12.pi.out k h0 (.inl (by omega));have right:∀ k,m+1<=k->k<d->WH zs m<=WH vs k:=s12.pi.all (p:=fun x=>WH zs m<=x) (by omega) (by omega) (fun k h1 h2=>hi k (by omega) h2);refine go ?_;refine zA (vs,c,m,l2,decide ((d-c).tdiv 8<=d-m),w) (by simp only;omega) ⟨s4.call st hcd.1 hcd.2.2,WA,WA,WA,WA,WA,by simp only;omega,hl2,eA,fun p q h1 h2 h3=> ?_,eL,fun p q h1 h2 h3 h4=> ?_,fun h1 k h2 h3=> ?_⟩
   ·simp only at h1 |-;by_cases hp:d<=p
    ·exact eB p q hp h2 h3
    by_cases hq:d<=q
    ·exact eH p q (by omega) (by omega) hq h3
    by_cases hpm:p=m
    ·by_cases hqm:q=m
     ·rw[hqm,hpm];exact Qk _
     ·rw[hpm,same m (by omega) (Qk _)];exact right q (by omega) (by omega)
    ·exact r12 p q (by omega) h2 (by omega)
   ·simp only at h2 h3 |-;by_cases hp:p<c
    ·exact eL p q h1 hp (by omega) h4
    by_cases hq:d<=q
    ·exact eH p q h1 (by omega) hq h4
    ·have x1:=lo p (by omega) h2;rw[same p (by omega) (by omega)];by_cases hqm:q=m
     ·rw[hqm,same m (by omega) (Qk _)];exact x1
     ·have x2:=right q (by omega) (by omega);omega
   ·simp only at h1 h2 h3 |-;exact low7.out vs st.pi h1 k h2 (by omega)
theorem zFG(h:U2):WC Tryz.prog tb 236 [.slice none 0 0,I 0,I 0] h fun r h'=>h=h':=by
 refine en 49 [] zKW ?_;refine VD [10,11,12,15,7,16,17,18,19,20,21,22,23,24,25,26,27,28,29,30,33,34,35,36,37,38,39,40,41,42,43,44,45,46,47,48,31,32,7,13,14,6] (by kernel_rfl) (fun _=>0) (fun(_:Unit) t h1=>h=h1/\zB t 6=I 1) () ?_ ?_
 ·exact⟨rfl,WA⟩
 rintro _ t _ hsame ⟨rfl,s6⟩;refine go ?_;refine BB ?_;rfl
theorem zRd(h:U2)(k:Int):WC Tryz.prog tb 216 [.slice none 0 0,I 0,I 0,I k] h fun r h'=>h=h':=by
 refine en 134 [] zKE ?_;refine VD [19,20,21,10,22,23,24,25,26,27,28,29,30,31,32,33,34,35,36,37,38,39,40,41,3,43,44,45,46,42,47,48,11,12,49,50,51,52,53,54,55,56,57,58,59,60,11,12,61,62,63,64,65,66,67,68,69,70,71,72,73,74,75,76,77,78,79,80,81,82,83,84,85,86,87,88,89,90,91,92,13,93,1,95,96,97,98,99,94,100,101,14,15,102,9,103,104,105,106,107,108,16,17,109,110,18,111,112,113,114,115,116,8,117,118,119,120,121,122,123,1,124,125,126,8,127,128,129,130,131,132,133,2] (by kernel_rfl) (fun _=>0) (fun(_:Unit) t h1=>h=h1/\zB t 1=I 0/\zB t 2=I 0) () ?_ ?_
 ·exact⟨rfl,WA,WA⟩
 rintro _ t _ hsame ⟨rfl,s1,s2⟩;refine go ?_;refine VA (zFG h) ?_;rintro _ _ rfl;refine gr ?_;rfl
def Ye(xs:List Int):List Int:=xs.mergeSort (fun a b=>decide (a<=b))
def zR7:U3:=(oV (oR [oM 3 0,oQ 4 3,oM 2 4]) (oR [oM 5 0,oM 6 2,oM 7 2,⟨some 8,none,(.conv .u64 (.tmp 7))⟩,o1 9 217 8,⟨some 10,none,(.call (.func 216) [(.tmp 5),(.const (.int .i64 0)),(.tmp 6),(.tmp 9)])⟩]))
theorem zRD(hB h:U2)(v:Value)(xs:List Int)(e0:U8 hB h)(hmB:hB.mark<=hB.n)(o:WJ hB h v xs)(hlen:xs.length<=1000000000):
  WC Tryz.prog tb 176 [v] h fun r h'=>WJ hB h' v (Ye xs)/\U8 hB h'/\BN v h h':=by
 have s:WM h v xs:=o.sl;refine en 11 [] zR7 ?_;rw[Yp (by omega) (by omega)];refine VA (zO9 h xs.length (by omega) (by omega)) ?_;rintro _ _ ⟨⟨k,rfl,hk,hk2⟩,rfl⟩;refine go ?_;rcases o with⟨rfl,rfl⟩|o
 ·rw[show((([]:List Int).length:Nat):Int)=0 from rfl];refine VA (zRd h k) ?_;rintro _ _ rfl;refine go ?_;refine BB ?_;exact⟨.inl ⟨rfl,by simp[Ye]⟩,e0,BN.refl _ _⟩
 refine VA (zUd xs.length hB h v xs 0 xs.length k e0 hmB o (by omega) (by omega) (by omega) (by omega) hlen (by omega) (fun h=>by omega)) ?_;rintro _ h2 ⟨ys,s2,r2⟩;refine go ?_;refine BB ?_;have:ys=Ye xs:=zJr s2.pi.perm (by rw[s2.len];exact r2);exact⟨.inr (this▸s2.own),s2.ext,s2.upd⟩
set_option maxRecDepth 100000
def zLg:U3:=(oV (oR [oB .lss 8 7 6]) (oV (oT 8 0) (oV (o5 1 (oV (oR [oI 1 9 5 7,oL 10 9,oM 4 10]) (oV (oR [oM 11 0,oM 12 4,⟨some 13,none,(.call (.tmp 11) [(.tmp 12)])⟩,oW 14 13]) (oJ 14 .ret .skip)))) (oR [oC .add 15 7 1,oM 7 15]))))
def zSc:U3:=(oV (oR [oL 5 1,oQ 6 5,oN 7 0]) (o5 0 (.loop zLg)))
theorem zJa(hA h:U2)(y p v:Value)(l:List Int)(hl:(l.length:Int)<=1000000000)(J:Nat->U2->Prop)(h0:J 0 h)(hr:∀ i h',J i h'->U6 hA h' p [v]/\WM h' v l)
  (hy:∀ i h',i<l.length->J i h'->WV Tryz.prog tb y [I (l.getD i 0)] h' fun r h''=>r=.bool true/\J (i+1) h''):
  WC Tryz.prog tb 177 [y,p] h fun _ h'=>J l.length h':=by
 obtain⟨o,s⟩:=hr 0 h h0;obtain⟨_,_,_,rfl⟩:=Wb.shape s;have hr:=Wa.mk hr;have hy:=Wa.mk hy;refine en 16 [] zSc ?_;refine VD [8,9,10,4,11,12,13,14,15,7] (by kernel_rfl) (fun i=>l.length-i) (fun i t h1=>zB t 7=I i/\i<=l.length/\J i h1) 0 ?_ ?_
 ·exact⟨WA,QT _,h0⟩
 rintro i t h1 hsame ⟨s7,hi,j1⟩;obtain⟨o1,s1⟩:=hr.out i h1 j1;refine go ?_;refine VE (fun hb=> ?_) (fun hb=> ?_)<;>simp only[DB]at hb
 ·have hi':i<l.length:=by omega
  refine go ?_;refine VN (hy.out i h1 hi' j1) ?_;rintro _ h2 ⟨rfl,j2⟩;refine go ?_;exact zA (i+1) (by omega) ⟨Wx,by omega,j2⟩
 ·refine go ?_;refine BB ?_;have:i=l.length:=by omega
  subst this;exact j1
def zQe:U3:=(oV (oR [oX 1 0,⟨some 2,none,(.mov (.const .nilFunc))⟩]) (oV (oR [⟨some 3,none,(.mkFunc (.func 177) [] [(.tmp 1)])⟩,oM 2 3]) .ret))
theorem zL2(h:U2)(v:Value):
  WC Tryz.prog tb 119 [v] h fun r h'=>(∃ p,r=.func (.func 177) #[] #[p]/\U6 h h' p v.cells.toList)/\U8 h h':=by
 refine en 4 [(2,none)] zQe ?_;refine VH ?_;intro p h1 e1 o1;refine gr ?_;exact⟨⟨p,rfl,o1⟩,e1⟩
def zP5:U3:=(oV (oR [oX 2 0,oK 4 (.slice none 0 0)]) (oV (oV (oR [oM 6 1]) (o5 0 (.rangeFunc (.tmp 6) [7] (oR [oM 5 7]) (o5 1 (oR [oL 8 2,oM 9 5,⟨some 10,none,(.buildSlice 1 1 [(.int .i64 0)] [(0,1,(.tmp 9))])⟩,oY 1 11 8 10,oS 1 2 11]))))) (oV (oR [oL 12 2,oM 4 12]) .ret)))
theorem zG1(h:U2)(p v:Value)(l:List Int)(hA:U2)(hl:(l.length:Int)<=1000000000)(o:U6 hA h p [v])(s:WM h v l):
  WC Tryz.prog tb 215 [.slice none 0 0,.func (.func 177) #[] #[p]] h fun r h'=>WJ h h' r l/\U8 h h':=by
 refine en 13 [(4,none)] zP5 ?_;refine VH ?_;intro p2 h1 e1 o1;refine go ?_;refine Vw ?_;intro L g r hO rdy eO hL hg lL lg;have o2:=o1.ext eO;have eb:=e1.trans eO;refine WV.func ?_;refine WC.mono (zJa hA hO _ p v l hl (fun i h'=>U8 h h'/\Wl h' L (.loop r)/\Wl h' g (.deferred (some []))/\∃ w,U6 h h' p2 [w]/\WJ h h' w (l.take i)) ?_ ?_ ?_) ?_
 ·exact⟨eb,lL,lg,.slice none 0 0,o2,.inl ⟨rfl,rfl⟩⟩
 ·rintro i h' ⟨e',_⟩;exact⟨o.ext e',s.ext e'⟩
 ·rintro i h' hi ⟨e',lL',lg',w,ow,on⟩;refine Vz lL' rdy rfl ?_;simp only[zBp];refine go ?_;refine zDY ?_;intro h2 hh2;have e2:U8 h h2:=by rw[hh2];exact e'.set (by have:=e1.n;omega) lL'.1 _
  have ow2:U6 h h2 p2 [w]:=by rw[hh2];exact ow.setR lL' rfl
  have on2:WJ h h2 w (l.take i):=by rw[hh2];exact on.setR lL' rfl
  have lL2:Wl h2 L (.loop (busy r)):=by rw[hh2];exact lL'.self
  have lg2:Wl h2 g (.deferred (some [])):=by
   rw[hh2];refine lg'.set ?_;intro e;subst e;have:=lg'.2;rw[lL'.2]at this;cases this
  clear hh2;obtain⟨_,_,_,rfl⟩:=Wb.shape on2.sl;refine go ?_;refine WO.bl [l.getD i 0] ?_;intro v3 h3 e3 o3;refine go ?_;have e03:=e2.trans e3;have htl:(l.take i).length<=i:=by rw[Q8];omega
  refine Vh (v:= .slice _ _ _) (w:=v3) (by exact zr) (by exact zr) (on2.ext e3) o3.sl e03 (by simp) (by simp only[Qa];omega) ?_;intro h4 e4 o4 u4;have ow4:=U6.upd (ow2.ext e3) (on2.ext e3) u4;have lL4:=(lL2.ext e3).upd rfl (on2.ext e3) u4;have lg4:=(lg2.ext e3).upd rfl (on2.ext e3) u4;refine go ?_;refine VG ow4 e4 ?_;intro h5 e5 ow5 u5;have on5:=We.updC o4 ow4 u5;have lL5:=lL4.updC rfl ow4 u5;have lg5:=lg4.updC rfl ow4 u5;refine go ?_;refine zDa lL5 ?_;have tk:l.take (i+1)=l.take i++[l.getD i 0]:=by rw[Q4];simp[List.getD,QB hi]
  refine⟨rfl,e5.set (by have:=e1.n;omega) lL5.1 _,lL5.self,lg5.set ?_,_,ow5.setR lL5 rfl,?_⟩
  ·intro e;subst e;have:=lg5.2;rw[lL5.2]at this;cases this
  ·rw[tk];exact(WJ.setR (.inr on5) lL5 rfl)
 ·rintro _ h2 ⟨e2,lL2,lg2,w,ow,on⟩;refine⟨lL2,fun r3=> ?_⟩;have lgL:g≠L:=by intro e;subst e;have:=lg2.2;rw[lL2.2]at this;cases this
  obtain⟨h3,hh3⟩:∃ h3,h3=h2.set L (.loop r3):=⟨_,rfl⟩;have e3:U8 h h3:=by rw[hh3];exact e2.set (by have:=e1.n;omega) lL2.1 _
  have ow3:U6 h h3 p2 [w]:=by rw[hh3];exact ow.setR lL2 rfl
  have on3:WJ h h3 w (l.take l.length):=by rw[hh3];exact on.setR lL2 rfl
  have lg3:Wl h3 g (.deferred (some [])):=by rw[hh3];exact lg2.set lgL
  rw[<-hh3];clear hh3;obtain⟨_,_,_,rfl⟩:=Wb.shape on3.sl;refine go ?_;refine zIf lg3 ?_;refine rt ?_;rw[Q5]at on3;exact⟨on3.setR lg3 rfl,e3.set (by have:=e1.n;omega) lg3.1 _⟩
def zRr:U3:=(oV (oR [oK 2 (.slice none 0 0)]) (oV (oR [oM 3 0,⟨some 4,none,(.call (.func 215) [(.const (.slice none 0 0)),(.tmp 3)])⟩,oM 2 4]) .ret))
theorem zJo(h:U2)(p v:Value)(l:List Int)(hA:U2)(hl:(l.length:Int)<=1000000000)(o:U6 hA h p [v])(s:WM h v l):
  WC Tryz.prog tb 175 [.func (.func 177) #[] #[p]] h fun r h'=>WJ h h' r l/\U8 h h':=by
 refine en 5 [(2,none)] zRr ?_;refine VA (zG1 h p v l hA hl o s) ?_;rintro r h1 ⟨o1,e1⟩;refine gr ?_;exact⟨o1,e1⟩
def zRw:U3:=(oV (oR [oK 2 (.slice none 0 0)]) (oV (oR [oM 4 0,o1 5 175 4,oM 3 5]) (oV (oR [oM 6 3,o1 7 176 6]) (oV (oR [oM 8 3,oM 2 8]) .ret))))
theorem zLa(h:U2)(p v:Value)(l:List Int)(hA:U2)(hl:(l.length:Int)<=1000000000)(hm:h.mark<=h.n)(o:U6 hA h p [v])(s:WM h v l):
  WC Tryz.prog tb 118 [.func (.func 177) #[] #[p]] h fun r h'=>WJ h h' r (Ye l)/\U8 h h':=by
 refine en 9 [(2,none)] zRw ?_;refine VA (zJo h p v l hA hl o s) ?_;rintro r h1 ⟨o1,e1⟩;refine go ?_;refine VA (zRD h h1 r l e1 hm o1 (by omega)) ?_;rintro _ h2 ⟨o2,e2,u2⟩;refine gr ?_;exact⟨o2,e2⟩
def Y9(T:List U5)(F:List WP)(f:Int):List Int:=(Z3 (Wp (zD T F f 0).1) (zD T F f 0).1.length [0] ([],[])).2
theorem zEy{L:List WW}(hin:∀ b,0<=b/\b<(L.length:Int)->∀ c∈Wp L b,0<=c/\c<(L.length:Int))(m:List Int)(hm:∀ c∈m,0<=c/\c<(L.length:Int)):(Z3 (Wp L) L.length m ([],[])).2.length<=L.length:=by
 have:∀ (m:List Int) (s:DS),(∀ c∈m,0<=c/\c<(L.length:Int))->(Z3 (Wp L) L.length m s).2.length+BO L.length (Z3 (Wp L) L.length m s).1<=s.2.length+BO L.length s.1:=by
  intro m;induction m with
  |nil=>intro s _;exact QE _
  |cons x m ih=>intro s hm;exact QO (ih _ fun c hc=>hm c (by simp[hc])) (zDC hin _ x s (hm x (by simp)))
 have h1:=this m ([],[]) hm;have h2:=zEZ L.length [];simp only[Gz]at h1;omega
def yS(T:List U5)(F:List WP)(f:Int):List Int×Int:=
 if(zD T F f 0).2≠0 then([],(zD T F f 0).2)else(Ye (Y9 T F f),0)
def zU(T:List U5)(F:List WP)(f:Int):List Int×Int:=
 if(zD T F f 0).2≠0 then([],(zD T F f 0).2)else((Y9 T F f).reverse,0)
def zUN:U3:=(oV (oR [oX 2 0,oK 4 (.slice none 0 0),oN 5 0]) (oV (oR [oA 2 9 2,oM 10 1,⟨some 11,none,(.call (.func 117) [(.tmp 9),(.tmp 10),(.const (.int .i64 0))])⟩,oM 8 11,oE 12 8 0,oE 13 8 1,oM 6 12,oM 7 13]) (oV (oV (oR [oM 14 7,oC .neq 15 14 0]) (oJ 15 (oV (oR [oM 16 7,oK 4 (.slice none 0 0),oM 5 16]) .ret) .skip)) (oV (oR [oM 17 6,⟨some 18,none,(.buildSlice 1 1 [(.int .i64 0)] [(0,1,(.const (.int .i64 0)))])⟩,o2 19 120 17 18,o1 20 119 19,o1 21 118 20,oM 4 21,oN 5 0]) .ret))))
theorem zH6(h:U2)(vt vf:Value)(T:List U5)(F:List WP)(f:Int)(tt:Be h)(hm:h.mark<=h.n)(sm:BG T F)(st:Wv h vt T)(sf:Wr h vf F):
  WC Tryz.prog tb 75 [.agg #[vt,vf],I f] h fun r h'=>(∃ v,r=.tuple #[v,I (yS T F f).2]/\WJ h h' v (yS T F f).1)/\U8 h h':=by
 refine en 22 [(4,none),(5,none)] zUN ?_;refine VH ?_;intro p h1 e1 o1;refine go ?_;refine VA (zC6 h1 vt vf T F f 0 (tt.ext e1) (yO e1 hm) sm (st.ext e1) (Wr.ext sf e1)) ?_;rintro _ h2 ⟨⟨v,rfl,sb⟩,e2⟩;have e12:=e1.trans e2;refine go ?_;refine VE (fun hb=> ?_) (fun hb=> ?_)<;>simp only[DB]at hb<;>refine go ?_
 ·refine rt ?_;rw[show yS T F f=([],(zD T F f 0).2)from by rw[yS,QI hb]];exact⟨⟨_,rfl,.inl ⟨rfl,rfl⟩⟩,e12⟩
 have hb0:(zD T F f 0).2=0:=by omega
 obtain⟨hlen,hnx⟩:=Zm hb0;obtain⟨_,hpos,_,_⟩:=ZW hb0;have hr0:∀ c∈([0]:List Int),0<=c/\c<((zD T F f 0).1.length:Int):=fun c hc=>by
  rw[QW]at hc;subst hc;exact⟨Qk _,hpos⟩
 have hlp:=zEy hnx [0] hr0;rw[show yS T F f=(Ye (Y9 T F f),0)from by rw[yS,QC (by omega)]];refine WO.bl [0] ?_;intro v3 h3 e3 o3;have e13:=e12.trans e3;refine go ?_;refine VA (zKK h3 (yO e13 hm) _ v v3 [0] (BF.ext sb e3) (by omega) hnx o3.sl (by decide) hr0) ?_;rintro q h4 ⟨o4,e4⟩;have e14:=e13.trans e4;obtain⟨qa,qn,qk,rfl⟩:=Wb.shape o4.sl;refine go ?_;refine VA (zL2 h4 _) ?_;rintro _ h5 ⟨⟨p5,rfl,o5⟩,e5⟩;have e15:=e14.trans e5;refine go ?_;refine VA (zLa h5 p5 _ _ h4 (by omega) (yO e15 hm) o5 (o4.sl.ext e5)) ?_;rintro r h6 ⟨o6,e6⟩;refine gr ?_;exact⟨⟨_,rfl,o6.since e15⟩,e15.trans e6⟩
theorem zC5{x:Int}{l:List Int}:x∈Ye l↔x∈l:=(List.mergeSort_perm l _).mem_iff
theorem zM4(l:List Int):(Ye l).length=l.length:=(List.mergeSort_perm l _).length_eq
theorem zEG{L:List WW}{a b:Int}(h:0<=a/\a<(L.length:Int)):a∈zR L b L.length↔b∈Wp L a:=by
 unfold zR Wp;simp only[Qt,Gv,GJ,QV];constructor
 ·rintro⟨i,⟨_,h1⟩,rfl⟩;rw[QU];exact h1
 ·intro h1;exact⟨a.toNat,⟨by omega,h1⟩,by omega⟩
theorem zDU{L:List WW}{a b:Int}:a∈zR L b L.length↔(0<=a/\a<(L.length:Int))/\b∈Wp L a:=by
 constructor
 ·intro h;have h':=h;unfold zR at h';simp only[Qt,Gv,GJ]at h';obtain⟨i,⟨hi,_⟩,rfl⟩:=h';exact⟨by omega,(zEG (by omega)).1 h⟩
 ·rintro⟨h1,h2⟩;exact(zEG h1).2 h2
theorem YY{T:List U5}{F:List WP}{f b:Int}(h:(zD T F f 0).2=0):b∈(yS T F f).1↔Wk (Wp (zD T F f 0).1) 0 b:=by
 obtain⟨_,hpos,_,_⟩:=ZW h;obtain⟨hlen,hin⟩:=Zm h;unfold yS;rw[QC (by rw[h];exact fun e=>e rfl)];simp only;rw[zC5];unfold Y9;rw[zKX hin (fun c hc=>by rw[QW]at hc;subst hc;exact⟨Qk _,hpos⟩)];simp
theorem zFm{T:List U5}{F:List WP}{f:Int}:(yS T F f).2=(zD T F f 0).2:=by
 unfold yS;split
 ·rfl
 ·rename_i h;simp only[ne_eq,Decidable.not_not]at h;exact h.symm
set_option maxRecDepth 100000
def zM7:U3:=(oV (oV (oR [oM 7 3,oC .geq 8 7 0]) (oT 8 0)) (oV (o5 1 (oV (oR [oM 11 0,oM 12 3,oL 13 1,oM 14 3,oI 1 15 13 14,oL 16 15,⟨some 17,none,(.call (.tmp 11) [(.tmp 12),(.tmp 16)])⟩,oW 18 17]) (oJ 18 .ret .skip))) (oR [oM 9 3,oC .sub 10 9 1,oM 3 10])))
def zQF:U3:=(oV (oR [oL 4 1,oQ 5 4,oC .sub 6 5 1,oM 3 6]) (o5 0 (.loop zM7)))
theorem zGR(hA h:U2)(y p v:Value)(l:List Int)(hl:(l.length:Int)<=1000000000)(J:Nat->U2->Prop)(h0:J 0 h)(hr:∀ i h',J i h'->U6 hA h' p [v]/\WM h' v l)
  (hy:∀ i h',i<l.length->J i h'->WV Tryz.prog tb y [I ((l.length:Int)-1-i),I (l.getD (l.length-1-i) 0)] h' fun r h''=>r=.bool true/\J (i+1) h''):
  WC Tryz.prog tb 257 [y,p] h fun _ h'=>J l.length h':=by
 obtain⟨o,s⟩:=hr 0 h h0;obtain⟨_,_,_,rfl⟩:=Wb.shape s;have hr:=Wa.mk hr;have hy:=Wa.mk hy;refine en 19 [] zQF ?_;refine VD [7,8,11,12,13,14,15,16,17,18,9,10,3] (by kernel_rfl) (fun i=>l.length-i) (fun i t h1=>zB t 3=I ((l.length:Int)-1-i)/\i<=l.length/\J i h1) 0 ?_ ?_
 ·exact⟨by rw[show(l.length:Int)-1-((0:Nat):Int)=l.length-1 by omega];exact WA,QT _,h0⟩
 rintro i t h1 hsame ⟨s3,hi,j1⟩;obtain⟨o1,s1⟩:=hr.out i h1 j1;refine go ?_;refine VE (fun hb=> ?_) (fun hb=> ?_)<;>simp only[DB]at hb
 ·have hi':i<l.length:=by omega
  have hidx:((l.length:Int)-1-i).toNat=l.length-1-i:=by omega
  refine go ?_;have hyi:=hy.out i h1 hi' j1;rw[<-hidx]at hyi;refine VN hyi ?_;rintro _ h2 ⟨rfl,j2⟩;refine go ?_;exact zA (i+1) (by omega) ⟨by rw[show(l.length:Int)-1-((i+1:Nat):Int)=l.length-1-i-1 by omega];exact WA,by omega,j2⟩
 ·refine go ?_;refine BB ?_;have:i=l.length:=by omega
  subst this;exact j1
def zQj:U3:=(oV (oR [oX 1 0,⟨some 2,none,(.mov (.const .nilFunc))⟩]) (oV (oR [⟨some 3,none,(.mkFunc (.func 257) [] [(.tmp 1)])⟩,oM 2 3]) .ret))
theorem zH4(h:U2)(v:Value):
  WC Tryz.prog tb 247 [v] h fun r h'=>(∃ p,r=.func (.func 257) #[] #[p]/\U6 h h' p v.cells.toList)/\U8 h h':=by
 refine en 4 [(2,none)] zQj ?_;refine VH ?_;intro p h1 e1 o1;refine gr ?_;exact⟨⟨p,rfl,o1⟩,e1⟩
theorem zPT(l:List Int){i:Nat}(hi:i<l.length):l.reverse.take (i+1)=l.reverse.take i++[l.getD (l.length-1-i) 0]:=by
 rw[Q4,List.getElem?_reverse hi];simp[List.getD,QB (show l.length-1-i<l.length by omega)]
def zSj:U3:=(oV (oR [oX 2 0,⟨some 4,none,(.alloc [(.slice none 0 0)])⟩,oN 5 0]) (oV (oR [oA 2 10 2,oM 11 1,⟨some 12,none,(.call (.func 117) [(.tmp 10),(.tmp 11),(.const (.int .i64 0))])⟩,oM 9 12,oE 13 9 0,oE 14 9 1,oM 6 13,oM 5 14]) (oV (oV (oR [oM 15 5,oC .neq 16 15 0]) (oJ 16 (oV (oR [oM 17 5,⟨none,none,(.store 1 (.tmp 4) (.const (.slice none 0 0)))⟩,oM 5 17]) .ret) .skip)) (oV (oV (oR [oM 18 6,⟨some 19,none,(.buildSlice 1 1 [(.int .i64 0)] [(0,1,(.const (.int .i64 0)))])⟩,o2 20 120 18 19,o1 21 247 20]) (o5 0 (.rangeFunc (.tmp 21) [22,23] (oR [oM 8 23]) (o5 1 (oR [oL 24 4,oM 25 8,⟨some 26,none,(.buildSlice 1 1 [(.int .i64 0)] [(0,1,(.tmp 25))])⟩,oY 1 27 24 26,oS 1 4 27]))))) (oV (oR [oL 28 4,oS 1 4 28,oN 5 0]) .ret)))))
theorem zOc(h:U2)(vt vf:Value)(T:List U5)(F:List WP)(f:Int)(tt:Be h)(hm:h.mark<=h.n)(sm:BG T F)(st:Wv h vt T)(sf:Wr h vf F):
  WC Tryz.prog tb 222 [.agg #[vt,vf],I f] h fun r h'=>(∃ v,r=.tuple #[v,I (zU T F f).2]/\WJ h h' v (zU T F f).1)/\U8 h h':=by
 refine en 29 [(4,some (false,1)),(5,none)] zSj ?_;refine VH ?_;intro p h1 e1 o1;refine go ?_;refine WO.al ?_;intro p4 h2 e2 o2;have o2:=o2.since e1;have o1:=o1.ext e2;have e02:=e1.trans e2;refine go ?_;refine VA (zC6 h2 vt vf T F f 0 (tt.ext e02) (yO e02 hm) sm (st.ext e02) (Wr.ext sf e02)) ?_;rintro _ h3 ⟨⟨v,rfl,sb⟩,e3⟩;have e03:=e02.trans e3;have o3:=o2.ext e3;refine go ?_;refine VE (fun hb=> ?_) (fun hb=> ?_)<;>simp only[DB]at hb<;>refine go ?_
 ·refine VG o3 e03 ?_;intro h4 e4 o4 _;refine go ?_;rw[show zU T F f=([],(zD T F f 0).2)from by rw[zU,QI hb]];refine rt ?_ (Vc WA o4 rfl (W5.cons WA W5.nil));exact⟨⟨_,rfl,.inl ⟨rfl,rfl⟩⟩,e4⟩
 have hb0:(zD T F f 0).2=0:=by omega
 obtain⟨hlen,hnx⟩:=Zm hb0;obtain⟨_,hpos,_,_⟩:=ZW hb0;have hr0:∀ c∈([0]:List Int),0<=c/\c<((zD T F f 0).1.length:Int):=fun c hc=>by
  rw[QW]at hc;subst hc;exact⟨Qk _,hpos⟩
 have hlp:=zEy hnx [0] hr0;rw[show zU T F f=((Y9 T F f).reverse,0)from by rw[zU,QC (by omega)]];refine WO.bl [0] ?_;intro v4 h4 e4 o4;have e04:=e03.trans e4;have o24:=o3.ext e4;refine go ?_;refine VA (zKK h4 (yO e04 hm) _ v v4 [0] (BF.ext sb e4) (by omega) hnx o4.sl (by decide) hr0) ?_;rintro q h5 ⟨o5,e5⟩;have e05:=e04.trans e5;have o25:=o24.ext e5;obtain⟨qa,qn,qk,rfl⟩:=Wb.shape o5.sl;refine go ?_;refine VA (zH4 h5 _) ?_;rintro _ h6 ⟨⟨p6,rfl,o6⟩,e6⟩;have e06:=e05.trans e6;have o26:=o25.ext e6;have o56:=(o5.ext e6).since (U8.refl h4);have hpl:Y9 T F f=(Z3 (Wp (zD T F f 0).1) (zD T F f 0).1.length [0] ([],[])).2:=rfl;rw[<-hpl]at hlp o56 o5;generalize Y9 T F f=l at hlp o56 o5 |-;clear hpl;refine go ?_;refine Vw ?_;intro L g r hO rdy eO hL hg lL lg;have eOb:=e06.trans eO;obtain⟨g4,hg4,rfl⟩:∃ g4,g4<h4.n/\p4=.pointer (some ⟨g4,0,none⟩):=let⟨g,_,a,b,_⟩:=o24;⟨g,a,b⟩;have oO:=o26.ext eO;refine WV.func ?_;refine WC.mono (zGR h5 hO _ p6 (.slice qa qn qk) l (by omega) (fun i h'=>U8 h h'/\Wc (.pointer (some ⟨g4,0,none⟩)) h6 h'/\Wl h' L (.loop r)/\Wl h' g (.deferred (some []))/\∃ w,U6 h h' (.pointer (some ⟨g4,0,none⟩)) [w]/\WJ h6 h' w (l.reverse.take i)) ?_ ?_ ?_) ?_
 ·exact⟨eOb,(Wc.refl _ h6).extd eO,lL,lg,.slice none 0 0,oO,.inl ⟨rfl,rfl⟩⟩
 ·rintro i h' ⟨_,u',_⟩;exact⟨o6.offC u' (QG hg4 e5.n),(o56.offC u' hg4).sl⟩
 ·rintro i h' hi ⟨e',u',lL',lg',w,ow,on⟩;refine Vz lL' rdy rfl ?_;simp only[zBp];refine go ?_;refine zDY ?_;intro j2 hh2;have e2':U8 h j2:=by rw[hh2];exact e'.set (QO e06.n hL) lL'.1 _
  have u2':Wc (.pointer (some ⟨g4,0,none⟩)) h6 j2:=by rw[hh2];exact u'.setL hL
  have ow2:U6 h j2 (.pointer (some ⟨g4,0,none⟩)) [w]:=by rw[hh2];exact ow.setR lL' rfl
  have on2:WJ h6 j2 w (l.reverse.take i):=by rw[hh2];exact on.setR lL' rfl
  have lL2:Wl j2 L (.loop (busy r)):=by rw[hh2];exact lL'.self
  have lg2:Wl j2 g (.deferred (some [])):=by
   rw[hh2];refine lg'.set ?_;intro e;subst e;have:=lg'.2;rw[lL'.2]at this;cases this
  clear hh2;obtain⟨_,_,_,rfl⟩:=Wb.shape on2.sl;refine go ?_;refine WO.bl [l.getD (l.length-1-i) 0] ?_;intro v3 j3 e3' o3';refine go ?_;have e03':=e2'.trans e3';have htl:(l.reverse.take i).length<=i:=by rw[Q8];omega
  have on3:=on2.ext e3';refine Vh (v:= .slice _ _ _) (w:=v3) (by exact zr) (by exact zr) (on3.since e06) o3'.sl e03' (by simp) (by simp only[Qa];omega) ?_;intro j4 e4' o4' u4';have ow4:=U6.upd (ow2.ext e3') (on3.since e06) u4';have lL4:=(lL2.ext e3').upd rfl on3 u4';have lg4:=(lg2.ext e3').upd rfl on3 u4';have u4:=(u2'.extd e3').upd on3 u4';refine go ?_;refine VG ow4 e4' ?_;intro j5 e5' ow5 u5';have on5:=(We.updC o4' ow4 u5').rebase (QO u2'.1 e3'.n);have lL5:=lL4.updC rfl ow4 u5';have lg5:=lg4.updC rfl ow4 u5';have u5:=u4.trans u5';refine go ?_;refine zDa lL5 ?_;have tk:=zPT l hi;refine⟨rfl,e5'.set (QO e06.n hL) lL5.1 _,u5.setL hL,lL5.self,lg5.set ?_,_,ow5.setR lL5 rfl,?_⟩
  ·intro e;subst e;have:=lg5.2;rw[lL5.2]at this;cases this
  ·rw[tk];exact(WJ.setR (.inr on5) lL5 rfl)
 ·rintro _ j2 ⟨e2',u2',lL2,lg2,w,ow,on⟩;refine⟨lL2,fun r3=> ?_⟩;have lgL:g≠L:=by intro e;subst e;have:=lg2.2;rw[lL2.2]at this;cases this
  obtain⟨j3,hh3⟩:∃ j3,j3=j2.set L (.loop r3):=⟨_,rfl⟩;have e3':U8 h j3:=by rw[hh3];exact e2'.set (QO e06.n hL) lL2.1 _
  have ow3:U6 h j3 (.pointer (some ⟨g4,0,none⟩)) [w]:=by rw[hh3];exact ow.setR lL2 rfl
  have on3:WJ h6 j3 w (l.reverse.take l.length):=by rw[hh3];exact on.setR lL2 rfl
  have lg3:Wl j3 g (.deferred (some [])):=by rw[hh3];exact lg2.set lgL
  rw[<-hh3];clear hh3;obtain⟨_,_,_,rfl⟩:=Wb.shape on3.sl;rw[Qw (by rw[List.length_reverse];exact QE _)]at on3;refine go ?_;refine VG ow3 e3' ?_;intro j4 e4' ow4 u4';have lg4:=lg3.updC rfl ow3 u4';have on4:=on3.offC u4' (QG hg4 (e5.trans e6).n);refine go ?_;refine zIf lg4 ?_;refine rt ?_ (Vc WA (ow4.setR lg4 rfl) rfl (W5.cons WA W5.nil));exact⟨⟨_,rfl,(on4.setR lg4 rfl).since e06⟩,e4'.set (QO e06.n hg) lg4.1 _⟩
def Ord(nx:Int->List Int)(d:List Int):Prop:=∀ d1 u d2,d=d1++u::d2->∀ v∈nx u,v∈d1\/Wk nx v u
theorem Ord.snoc{nx:Int->List Int}{d:List Int}{b:Int}(h:Ord nx d)(k:∀ v∈nx b,v∈d\/Wk nx v b):Ord nx (d++[b]):=by
 intro d1 u d2 e v hv;rcases List.eq_nil_or_concat d2 with rfl|⟨d3,x,rfl⟩
 ·have:=List.append_inj' (s₁:=d) (t₁:=[b]) (s₂:=d1) (t₂:=[u]) e rfl;obtain⟨rfl,e2⟩:=this;cases e2;exact k v hv
 ·have e':d++[b]=(d1++u::d3)++[x]:=by rw[e];simp
  obtain⟨e1,e2⟩:=List.append_inj' e' rfl;exact h d1 u d3 e1 v hv
structure Lv(nx:Int->List Int)(s t:DS):Prop where
 bg:∀ c,Bg s c->Bg t c
 dn:∀ c∈t.2,Bg t c
 nd:t.2.Nodup
 ord:Ord nx t.2
 open_:∀ c,Bg t c->c∈t.2\/Bg s c/\c∉s.2
 old:∀ c∈t.2,c∈s.2\/¬Bg s c
 keep:∀ c∈s.2,c∈t.2
theorem Lv.refl{nx:Int->List Int}{s:DS}(dn:∀ c∈s.2,Bg s c)(nd:s.2.Nodup)(ord:Ord nx s.2):Lv nx s s:=
 ⟨fun _ h=>h,dn,nd,ord,fun c h=>by by_cases e:c∈s.2<;>simp[e,h],fun c h=> .inl h,fun _ h=>h⟩
theorem Lv.trans{nx:Int->List Int}{s t u:DS}(a:Lv nx s t)(b:Lv nx t u):Lv nx s u where
 bg:=fun c h=>b.bg c (a.bg c h)
 dn:=b.dn
 nd:=b.nd
 ord:=b.ord
 open_:=fun c h=>by
  rcases b.open_ c h with h|⟨h1,h2⟩
  ·exact .inl h
  ·rcases a.open_ c h1 with h|h
   ·exact absurd h h2
   ·exact .inr h
 old:=fun c h=>by
  rcases b.old c h with h|h
  ·exact a.old c h
  ·exact .inr fun e=>h (a.bg c e)
 keep:=fun c h=>b.keep c (a.keep c h)
theorem zT5{nx:Int->List Int}{N:Nat}(hin:∀ b,0<=b/\b<(N:Int)->∀ c∈nx b,0<=c/\c<(N:Int)):∀ (n:Nat) (b:Int) (s:DS),BO N s.1<=n->0<=b/\b<(N:Int)->
  (∀ c∈s.2,Bg s c)->s.2.Nodup->Ord nx s.2->(∀ c,Bg s c->c∈s.2\/Wk nx c b)->Lv nx s (ZK nx n b s):=by
 intro n;induction n with
 |zero=>intro b s h hb dn nd ord hw;exact Lv.refl dn nd ord
 |succ n ih=>
  intro b s h hb dn nd ord hw;by_cases hbb:Bg s b
  ·rw[zBh hbb];exact Lv.refl dn nd ord
  ·have hnone:s.1.lookup b=none:=by
    unfold Bg at hbb;cases hq:s.1.lookup b with
    |none=>rfl
    |some w=>rw[hq]at hbb;exact absurd rfl hbb
   have hlt:=zEJ (v:=(s.1.length:Int)) hnone hb;have go:∀ (l:List Int) (t:DS),BO N t.1<=n->(∀ c∈l,c∈nx b)->(∀ c∈t.2,Bg t c)->t.2.Nodup->Ord nx t.2->(∀ c,Bg t c->c∈t.2\/Wk nx c b)->Lv nx t (l.foldl (fun(t:DS) (c:Int)=>ZK nx n c t) t):=by
    intro l;induction l with
    |nil=>intro t _ _ dn nd ord _;exact Lv.refl dn nd ord
    |cons x l ihl=>
     intro t ht hl dn nd ord hw;have hxn:=hl x (by simp);have hx:=ih x t ht (hin b hb x hxn) dn nd ord (fun c hc=>(hw c hc).imp id fun w=> .step w hxn);refine hx.trans (ihl _ (QO (zCZ fun c hc=>hx.bg c hc) ht) (fun c hc=>hl c (by simp[hc])) hx.dn hx.nd hx.ord fun c hc=> ?_);rcases hx.open_ c hc with h|⟨h1,h2⟩
     ·exact .inl h
     ·rcases hw c h1 with h|h
      ·exact absurd h h2
      ·exact .inr h
   have dn0:∀ c∈s.2,Bg (s.1++[(b,(s.1.length:Int))],s.2) c:=fun c hc=>zAS.2 (.inl (dn c hc));have hw0:∀ c,Bg (s.1++[(b,(s.1.length:Int))],s.2) c->c∈s.2\/Wk nx c b:=fun c hc=>by
    rcases zAS.1 hc with h|rfl
    ·exact hw c h
    ·exact .inr .here
   have k:=go (nx b) (s.1++[(b,(s.1.length:Int))],s.2) (by simp only;omega) (fun c hc=>hc) dn0 nd ord hw0;have k2:=zDG (nx:=nx) (n:=n) hin (nx b) (s.1++[(b,(s.1.length:Int))],s.2) (by simp only;omega) (hin b hb);have hu:ZK nx (n+1) b s=(((nx b).foldl (fun(t:DS) (c:Int)=>ZK nx n c t) (s.1++[(b,(s.1.length:Int))],s.2)).1,((nx b).foldl (fun(t:DS) (c:Int)=>ZK nx n c t) (s.1++[(b,(s.1.length:Int))],s.2)).2++[b]):=by
    conv=>lhs;unfold ZK
    rw[QC (by rw[hnone];exact Bool.noConfusion)]
   have hk2:Z3 nx n (nx b) (s.1++[(b,(s.1.length:Int))],s.2)=(nx b).foldl (fun(t:DS) (c:Int)=>ZK nx n c t) (s.1++[(b,(s.1.length:Int))],s.2):=rfl;rw[hk2]at k2;rw[hu];generalize(nx b).foldl (fun(t:DS) (c:Int)=>ZK nx n c t) (s.1++[(b,(s.1.length:Int))],s.2)=t at k k2 |-;have hbs:b∉s.2:=fun e=>hbb (dn b e);have hb0:Bg (s.1++[(b,(s.1.length:Int))],s.2) b:=zAS.2 (.inr rfl);have hbt:b∉t.2:=fun e=>by
    rcases k.old b e with h|h
    ·exact hbs h
    ·exact h hb0
   have opn:∀ c,Bg t c->c∈t.2\/c=b\/Bg s c/\c∉s.2:=fun c hc=>by
    rcases k.open_ c hc with h|⟨h1,h2⟩
    ·exact .inl h
    ·rcases zAS.1 h1 with h|h
     ·exact .inr (.inr ⟨h,h2⟩)
     ·exact .inr (.inl h)
   refine⟨fun c h=>k.bg c (zAS.2 (.inl h)),fun c hc=> ?_,?_,k.ord.snoc fun v hv=> ?_,fun c hc=> ?_,fun c hc=> ?_,fun c hc=> ?_⟩
   ·simp only[Qi,QW]at hc;rcases hc with h|rfl
    ·exact k.dn c h
    ·exact k.bg _ hb0
   ·simp only;rw[List.nodup_append];exact⟨k.nd,by simp,fun a ha c hc=>by rw[QW]at hc;subst hc;exact fun e=>hbt (e▸ha)⟩
   ·rcases opn v (k2.all v hv)with h|rfl|⟨h1,h2⟩
    ·exact .inl h
    ·exact .inr .here
    ·rcases hw v h1 with h|h
     ·exact absurd h h2
     ·exact .inr h
   ·simp only[Qi,QW];rcases opn c hc with h|h|h
    ·exact .inl (.inl h)
    ·exact .inl (.inr h)
    ·exact .inr h
   ·simp only[Qi,QW]at hc;rcases hc with h|rfl
    ·rcases k.old c h with h|h
     ·exact .inl h
     ·exact .inr fun e=>h (zAS.2 (.inl e))
    ·exact .inr hbb
   ·simp only[Qi];exact .inl (k.keep c hc)
theorem zIU{nx:Int->List Int}{N:Nat}(hin:∀ b,0<=b/\b<(N:Int)->∀ c∈nx b,0<=c/\c<(N:Int)){a:Int}(ha:0<=a/\a<(N:Int)):
  (Z3 nx N [a] ([],[])).2.Nodup/\Ord nx (Z3 nx N [a] ([],[])).2/\∃ d,(Z3 nx N [a] ([],[])).2=d++[a]:=by
 have e:Z3 nx N [a] ([],[])=ZK nx N a ([],[]):=rfl;have no:∀ d,¬Bg (([],[]):DS) d:=fun d h=>by unfold Bg at h;exact Bool.noConfusion h
 have k:=zT5 (nx:=nx) hin N a ([],[]) (zEZ _ _) ha (fun c h=>by cases h) .nil (fun d1 u d2 e=>by cases d1<;>cases e) (fun c h=>absurd h (no c));rw[e];refine⟨k.nd,k.ord,?_⟩;obtain⟨n,rfl⟩:∃ n,N=n+1:=⟨N-1,by omega⟩;unfold ZK;rw[QC (by simp)];exact⟨_,rfl⟩
theorem zLj(l:List Int)(hn:l.Nodup):∀ i,i+1<(Ye l).length->(Ye l).getD i 0<(Ye l).getD (i+1) 0:=by
 intro i hi;have hp:(Ye l).Pairwise (fun a b=>decide (a<=b)=true):=List.pairwise_mergeSort (fun a b c h1 h2=>by simp only[QV]at *;omega) (fun a b=>by simp only[GB,QV];omega) l;have hd:(Ye l).Nodup:=(List.mergeSort_perm l _).nodup_iff.2 hn;have h1:=List.pairwise_iff_getElem.1 hp i (i+1) (by omega) hi (by omega);have h2:(Ye l)[i]≠(Ye l)[i+1]:=fun e=>by
  have:=(List.getElem_inj hd).1 e;omega
 simp only[QV]at h1;simp only[QK,QB hi,QB (show i<(Ye l).length by omega),GC];omega
theorem zBi{T:List U5}{F:List WP}{f:Int}(h:(zD T F f 0).2=0):
  (zU T F f).1.length=(yS T F f).1.length/\(zU T F f).1.length<=16/\(∃ l,(zU T F f).1=0::l)/\(∀ c,c∈(yS T F f).1->c∈(zU T F f).1)/\
  (∀ n,n+1<(yS T F f).1.length->(yS T F f).1.getD n 0<(yS T F f).1.getD (n+1) 0)/\(∀ c∈(zU T F f).1,0<=c/\c<((zD T F f 0).1.length:Int))/\
  (∀ i k,i<(zU T F f).1.length->k<(zU T F f).1.length->(zU T F f).1.getD k 0∈Wp (zD T F f 0).1 ((zU T F f).1.getD i 0)->¬Wk (Wp (zD T F f 0).1) ((zU T F f).1.getD k 0) ((zU T F f).1.getD i 0)->i<k):=by
 obtain⟨_,hpos,_,_⟩:=ZW h;obtain⟨hlen,hin⟩:=Zm h;have hr0:∀ c∈([0]:List Int),0<=c/\c<((zD T F f 0).1.length:Int):=fun c hc=>by
  rw[QW]at hc;subst hc;exact⟨Qk _,hpos⟩
 obtain⟨nd,ord,d,hd⟩:=zIU hin (hr0 0 (by simp));have hl:=zEy hin [0] hr0;have eO:(zU T F f).1=(Y9 T F f).reverse:=by unfold zU;rw[QC (by rw[h];exact fun e=>e rfl)]
 have eR:(yS T F f).1=Ye (Y9 T F f):=by unfold yS;rw[QC (by rw[h];exact fun e=>e rfl)]
 have eP:Y9 T F f=(Z3 (Wp (zD T F f 0).1) (zD T F f 0).1.length [0] ([],[])).2:=rfl;have hmem:∀ c,c∈Y9 T F f->0<=c/\c<((zD T F f 0).1.length:Int):=fun c hc=>by
  rw[eP,zKX hin hr0]at hc;obtain⟨a,ha,w⟩:=hc;have ha':=hr0 a ha;clear ha;induction w with
  |here=>exact ha'
  |step _ hd ih=>exact hin _ ih _ hd
 rw[<-eP]at nd ord hd hl;rw[eO,eR];generalize Y9 T F f=l at *;refine⟨by rw[List.length_reverse,zM4],by rw[List.length_reverse];omega,⟨d.reverse,by rw[hd];simp⟩,fun c hc=>by rw[List.mem_reverse];exact zC5.1 hc,zLj l nd,fun c hc=>hmem c (List.mem_reverse.1 hc),fun i k hi hk he hw=> ?_⟩;rw[List.length_reverse]at hi hk;have ei:l.reverse.getD i 0=l.getD (l.length-1-i) 0:=by
  rw[QK,List.getElem?_reverse hi,QK]
 have ek:l.reverse.getD k 0=l.getD (l.length-1-k) 0:=by
  rw[QK,List.getElem?_reverse hk,QK]
 rw[ei,ek]at he hw;have hi2:l.length-1-i<l.length:=by omega
 have hk2:l.length-1-k<l.length:=by omega
 have hsplit:l=l.take (l.length-1-i)++l.getD (l.length-1-i) 0::l.drop (l.length-1-i+1):=by
  conv=>lhs;rw[<-GH (l.length-1-i) l,GI hi2]
  simp[List.getD,QB hi2]
 rcases ord _ _ _ hsplit _ he with hm|hm
 ·obtain⟨j,hj,e⟩:=List.mem_iff_getElem.1 hm;rw[Q8]at hj;rw[List.getElem_take]at e;have e2:l.getD (l.length-1-k) 0=l[l.length-1-k]:=by simp[List.getD,QB hk2]
  rw[e2]at e;have:=(List.getElem_inj nd).1 e;omega
 ·exact absurd hm hw
end
end Go.Proofs.YtmejfcakhpihlaaGreatDoor
