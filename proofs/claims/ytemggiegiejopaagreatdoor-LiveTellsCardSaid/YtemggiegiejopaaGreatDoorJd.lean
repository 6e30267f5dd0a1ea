/- What functions of the program come to in the abstract machine, and plain laws about it; no statement of the seat is proved in this text. -/
import Derived.Test.YtemggiegiejopaaGreatDoorJc
set_option linter.unusedVariables false
set_option linter.unusedSimpArgs false
set_option maxHeartbeats 400000
set_option maxRecDepth 100000
namespace Go.Proofs.YtemggiegiejopaaGreatDoor
noncomputable section
open Go.Am
def body94_0:ACode:=(.seq (.seq (.regionC [oU (oM 30 10),oU (oM 31 11),oU (oB .leq 32 30 31),oU (oM 33 32),oU (oG 33 (oM 34 0)),oU (oG 33 (oM 35 10)),oU (oG 33 (oI 1 36 34 35)),oU (oG 33 (oL 37 36)),oU (oG 33 (oM 38 0)),oU (oG 33 (oM 39 1)),oU (oG 33 (oI 1 40 38 39)),oU (oG 33 (oL 41 40)),oU (oG 33 (o2 42 92 37 41)),oU (oP 43 33 42)]) (oT 43 0)) (.block 1 (oR [oM 44 10,oC .add 45 44 1,oM 10 45])))
def body94_1:ACode:=(.seq (.seq (.regionC [oU (oM 46 10),oU (oM 47 11),oU (oB .leq 48 46 47),oU (oM 49 48),oU (oG 49 (oM 50 0)),oU (oG 49 (oM 51 11)),oU (oG 49 (oI 1 52 50 51)),oU (oG 49 (oL 53 52)),oU (oG 49 (oM 54 0)),oU (oG 49 (oM 55 1)),oU (oG 49 (oI 1 56 54 55)),oU (oG 49 (oL 57 56)),oU (oG 49 (o2 58 92 53 57)),oU (oG 49 (oW 59 58)),oU (oP 60 49 59)]) (oT 60 2)) (.block 3 (oR [oM 61 11,oC .sub 62 61 1,oM 11 62])))
def body94_2:ACode:=(.seq (.seq (.regionC [oU (oM 99 10),oU (oM 100 11),oU (oB .leq 101 99 100),oU (oM 102 101),oU (oG 102 (oM 103 0)),oU (oG 102 (oM 104 10)),oU (oG 102 (oI 1 105 103 104)),oU (oG 102 (oL 106 105)),oU (oG 102 (oM 107 0)),oU (oG 102 (oM 108 1)),oU (oG 102 (oI 1 109 107 108)),oU (oG 102 (oL 110 109)),oU (oG 102 (o2 111 92 106 110)),oU (oP 112 102 111)]) (oT 112 6)) (.block 7 (oR [oM 113 10,oC .add 114 113 1,oM 10 114])))
def body94_3:ACode:=(.seq (.seq (.regionC [oU (oM 115 10),oU (oM 116 11),oU (oB .leq 117 115 116),oU (oM 118 117),oU (oG 118 (oM 119 0)),oU (oG 118 (oM 120 11)),oU (oG 118 (oI 1 121 119 120)),oU (oG 118 (oL 122 121)),oU (oG 118 (oM 123 0)),oU (oG 118 (oM 124 1)),oU (oG 118 (oI 1 125 123 124)),oU (oG 118 (oL 126 125)),oU (oG 118 (o2 127 92 122 126)),oU (oG 118 (oW 128 127)),oU (oP 129 118 128)]) (oT 129 8)) (.block 9 (oR [oM 130 11,oC .sub 131 130 1,oM 11 131])))
def body94_4:ACode:=(.block 5 (.seq (.block 6 (.loop body94_2)) (.seq (.block 8 (.loop body94_3)) (.seq (.seq (oR [oM 132 10,oM 133 11,oB .gtr 134 132 133]) (.cond (.tmp 134) (.exit 4) .skip)) (.seq (.regionC [oU (oM 135 0),oU (oM 136 10),oU (oM 137 0),oU (oM 138 11),oU (oM 139 0),oU (oM 140 11),oU (oI 1 141 139 140),oU (oL 142 141),oU (oM 143 0),oU (oM 144 10),oU (oI 1 145 143 144),oU (oL 146 145),oU (oI 1 147 135 136),oU (oS 1 147 142),oU (oI 1 148 137 138),oU (oS 1 148 146)]) (.seq (oR [oM 149 10,oC .add 150 149 1,oM 10 150]) (oR [oM 151 11,oC .sub 152 151 1,oM 11 152])))))))
def body94:ACode:=(.seq (oR [oN 8 0,oZ 9]) (.seq (.regionC [oU (oM 12 0),oU (oM 13 1),oU (oM 14 0),oU (oM 15 3),oU (oM 16 0),oU (oM 17 3),oU (oI 1 18 16 17),oU (oL 19 18),oU (oM 20 0),oU (oM 21 1),oU (oI 1 22 20 21),oU (oL 23 22),oU (oI 1 24 12 13),oU (oS 1 24 19),oU (oI 1 25 14 15),oU (oS 1 25 23)]) (.seq (oR [oM 26 1,oC .add 27 26 1,oM 28 2,oC .sub 29 28 1,oM 10 27,oM 11 29]) (.seq (.block 0 (.loop body94_0)) (.seq (.block 2 (.loop body94_1)) (.seq (.seq (oR [oM 63 10,oM 64 11,oB .gtr 65 63 64]) (.cond (.tmp 65) (.seq (.regionC [oU (oM 66 0),oU (oM 67 11),oU (oM 68 0),oU (oM 69 1),oU (oM 70 0),oU (oM 71 1),oU (oI 1 72 70 71),oU (oL 73 72),oU (oM 74 0),oU (oM 75 11),oU (oI 1 76 74 75),oU (oL 77 76),oU (oI 1 78 66 67),oU (oS 1 78 73),oU (oI 1 79 68 69),oU (oS 1 79 77)]) (.seq (oR [oM 80 11,oM 8 80,oK 9 (.bool true)]) .ret)) .skip)) (.seq (.regionC [oU (oM 81 0),oU (oM 82 10),oU (oM 83 0),oU (oM 84 11),oU (oM 85 0),oU (oM 86 11),oU (oI 1 87 85 86),oU (oL 88 87),oU (oM 89 0),oU (oM 90 10),oU (oI 1 91 89 90),oU (oL 92 91),oU (oI 1 93 81 82),oU (oS 1 93 88),oU (oI 1 94 83 84),oU (oS 1 94 92)]) (.seq (oR [oM 95 10,oC .add 96 95 1,oM 10 96]) (.seq (oR [oM 97 11,oC .sub 98 97 1,oM 11 98]) (.seq (.block 4 (.loop body94_4)) (.seq (.regionC [oU (oM 153 0),oU (oM 154 11),oU (oM 155 0),oU (oM 156 1),oU (oM 157 0),oU (oM 158 1),oU (oI 1 159 157 158),oU (oL 160 159),oU (oM 161 0),oU (oM 162 11),oU (oI 1 163 161 162),oU (oL 164 163),oU (oI 1 165 153 154),oU (oS 1 165 160),oU (oI 1 166 155 156),oU (oS 1 166 164)]) (.seq (oR [oM 167 11,oM 8 167,oZ 9]) .ret))))))))))))
theorem tab94:tb.code 94=some ⟨168,[(8,none),(9,none)],body94⟩:=by kernel_rfl
theorem zFY (hB h:AHeap) (v:Value) (xs:List Int) (a b pv:Int) (e0:Ext hB h) (hmB:hB.mark≤hB.n) (o:OwnI hB h v xs) (h0:0≤a) (hp:a≤pv∧pv<b) (hb:b≤xs.length) (hlen:xs.length≤1000000000):
  WC Tryz.prog tb 94 [v,I a,I b,I pv] h fun r h'=>∃ ys m w,r= .tuple #[I m,.bool w]∧SS hB h v a b xs ys h'∧(a≤m∧m<b)∧(∀ k,a≤k→k<m→atI ys k≤atI ys m)∧(∀ k,m<k→k<b→atI ys m≤atI ys k):=by
 have s0:=SS.start a b o e0;refine WC.of (zE 94) tab94 ?_;simp only[zK,Nat.zero_add,Nat.reduceAdd];refine go ?_;refine WX.regionU2 0 rfl rfl ?_;have srX:SlI (inC (zB 0 h)) v xs:=(o).sl;refine goU ?_;refine WU2.swA (a) (pv) (s0).own (s0).ext (by rw[(s0).ext.mark];exact hmB) ?_;intro h1 e1 o1 u1;have s1:=s0.swp e1 o1 u1 h0 hb (by omega) (by omega);clear o1 e1 u1;generalize swp xs a pv=ys at s1;have hl1:=s1.len;refine go ?_;refine WX.loopA [30,31,32,33,34,35,36,37,38,39,40,41,42,43,44,45,10] (by kernel_rfl) (fun i=>(b - i).toNat) (fun (i:Int) t h2=>h1=h2∧zC t 10=I i∧(a+1≤i∧i≤b)∧∀ k,a<k→k<i→atI ys k<atI ys a) (a+1) ?_ ?_
 ·exact⟨rfl,sl_,by omega,fun k h1 h2=>by omega⟩
 rintro i t _ hsame ⟨rfl,s10,hi,hlow⟩;refine go ?_;refine WX.cutA [30,31,32,33,34,35,36,37,38,39,40,41,42,43] (by kernel_rfl) (fun t h'=>h1=h'∧zC t 43= .bool (decide (i≤b - 1∧(atI ys i<atI ys a)))) ?_ ?_
 ·refine WX.regionU2 0 rfl rfl ?_;have srX:SlI (inC (zB 0 h1)) v ys:=(s1.own).sl;refine goU ?_;refine WO.sp (fun hd=> ?_) (fun hd=> ?_)<;>simp only[DB]at hd<;>refine goU ?_
  ·refine WO.con (ZA _ (atI ys i) (atI ys a)) ?_;rintro _ _ ⟨rfl,rfl⟩;refine WO.nil ?_;refine yO ?_;refine goU ?_;exact zG ⟨rfl,by rw[show decide (i≤b - 1∧(atI ys i<atI ys a))=decide (atI ys i<atI ys a) from zC0 hd];exact sl_⟩
  ·exact zG ⟨rfl,by rw[show decide (i≤b - 1∧(atI ys i<atI ys a))=false from decide_eq_false (fun hh=>absurd hh.1 (by omega))];exact sl_⟩
 rintro t2 _ hs2 ⟨rfl,q2⟩;refine go ?_;refine WX.br (fun he=> ?_) (fun he=> ?_)<;>simp only[DB]at he
 ·refine go ?_;refine zA (i+1) (by omega) ⟨rfl,sl_,by omega,fun k h1 h2=> ?_⟩;by_cases e:k=i
  ·rw[e];exact he.2
  ·exact hlow k h1 (by omega)
 refine go ?_;refine WX.loopA [46,47,48,49,50,51,52,53,54,55,56,57,58,59,60,61,62,11] (by kernel_rfl) (fun j=>(j+1 - a).toNat) (fun (j:Int) t h2=>h1=h2∧zC t 11=I j∧(i - 1≤j∧j≤b - 1)∧∀ k,j<k→k<b→atI ys a≤atI ys k) (b - 1) ?_ ?_
 ·exact⟨rfl,sl_,by omega,fun k h1 h2=>by omega⟩
 rintro j t _ hsame ⟨rfl,s11,hj,hhigh⟩;refine go ?_;refine WX.cutA [46,47,48,49,50,51,52,53,54,55,56,57,58,59,60] (by kernel_rfl) (fun t h'=>h1=h'∧zC t 60= .bool (decide (i≤j∧¬(atI ys j<atI ys a)))) ?_ ?_
 ·refine WX.regionU2 0 rfl rfl ?_;have srX:SlI (inC (zB 0 h1)) v ys:=(s1.own).sl;refine goU ?_;refine WO.sp (fun hd=> ?_) (fun hd=> ?_)<;>simp only[DB]at hd<;>refine goU ?_
  ·refine WO.con (ZA _ (atI ys j) (atI ys a)) ?_;rintro _ _ ⟨rfl,rfl⟩;refine WO.nil ?_;refine yO ?_;refine goU ?_;exact zG ⟨rfl,by rw[show decide (i≤j∧¬(atI ys j<atI ys a))= !decide (atI ys j<atI ys a) from zBw hd];exact sl_⟩
  ·exact zG ⟨rfl,by rw[show decide (i≤j∧¬(atI ys j<atI ys a))=false from decide_eq_false (fun hh=>absurd hh.1 (by omega))];exact sl_⟩
 rintro t3 _ hs3 ⟨rfl,q3⟩;refine go ?_;refine WX.br (fun hf=> ?_) (fun hf=> ?_)<;>simp only[DB]at hf
 ·refine go ?_;refine zA (j - 1) (by omega) ⟨rfl,sl_,by omega,fun k h1 h2=> ?_⟩;by_cases e:k=j
  ·rw[e];omega
  ·exact hhigh k (by omega) h2
 refine go ?_;refine WX.br (fun hg=> ?_) (fun hg=> ?_)<;>simp only[DB]at hg
 ·refine go ?_;refine WX.regionU2 0 rfl rfl ?_;have srX:SlI (inC (zB 0 h1)) v ys:=(s1.own).sl;refine goU ?_;refine WU2.swA (j) (a) (s1).own (s1).ext (by rw[(s1).ext.mark];exact hmB) ?_;intro h3 e3 o3 u3;have s3:=s1.swp e3 o3 u3 h0 hb (by omega) (by omega);refine go ?_;refine rt ?_;refine⟨_,_,_,rfl,s3,by omega,fun k h1 h2=> ?_,fun k h1 h2=> ?_⟩
  ·rw[yL (by omega) (by omega) (by omega),yL (by omega) (by omega) (by omega)];by_cases e:k=a
   ·rw[if_pos e,if_neg (by omega),if_pos rfl];have:=hlow j (by omega) (by omega);omega
   ·rw[if_neg e,if_neg (by omega),if_neg (by omega),if_pos rfl];have:=hlow k (by omega) (by omega);omega
  ·rw[yL (by omega) (by omega) (by omega),yL (by omega) (by omega) (by omega)];rw[if_neg (by omega:¬k=a),if_neg (by omega:¬k=j)];have:=hhigh k (by omega) (by omega);by_cases e:j=a
   ·rw[if_pos e,e];exact this
   ·rw[if_neg e,if_pos rfl];exact this
 refine go ?_;refine WX.regionU2 0 rfl rfl ?_;have srX:SlI (inC (zB 0 h1)) v ys:=(s1.own).sl;refine goU ?_;refine WU2.swA (i) (j) (s1).own (s1).ext (by rw[(s1).ext.mark];exact hmB) ?_;intro h3 e3 o3 u3;have s3:=s1.swp e3 o3 u3 h0 hb (by omega) (by omega);have hi2:¬atI ys i<atI ys a:=fun hh=>he ⟨by omega,hh⟩;have hj2:atI ys j<atI ys a:=Int.not_le.1 fun hh=>hf ⟨by omega,hh⟩;have hij:i≠j:=fun e=>by subst e;exact hi2 hj2
 have hP:(a+1≤i+1∧i+1≤j - 1+1∧j - 1≤b - 1)∧(∀ k,a<k→k<i+1→atI (swp ys i j) k<atI (swp ys i j) a)∧∀ k,j - 1<k→k<b→atI (swp ys i j) a≤atI (swp ys i j) k:=by
  have ea:atI (swp ys i j) a=atI ys a:=by rw[yL (by omega) (by omega) (by omega),if_neg (by omega),if_neg (by omega)]
  rw[ea];refine⟨by omega,fun k h1 h2=> ?_,fun k h1 h2=> ?_⟩
  ·rw[yL (by omega) (by omega) (by omega),if_neg (by omega)];by_cases e:k=i
   ·rw[if_pos e];exact hj2
   ·rw[if_neg e];exact hlow k h1 (by omega)
  ·rw[yL (by omega) (by omega) (by omega)];by_cases e:k=j
   ·rw[if_pos e];omega
   ·rw[if_neg e,if_neg (by omega)];exact hhigh k (by omega) h2
 clear o3 e3 u3 hlow hhigh;generalize swp ys i j=zs at s3 hP;refine go ?_;refine WX.loopA [99,100,101,102,103,104,105,106,107,108,109,110,111,112,113,114,10,115,116,117,118,119,120,121,122,123,124,125,126,127,128,129,130,131,11,132,133,134,135,136,137,138,139,140,141,142,143,144,145,146,147,148,149,150,10,151,152,11] (by kernel_rfl) (fun x=>(x.2.2+1 - x.2.1).toNat) (fun (x:List Int×Int×Int) t h4=>SS hB h v a b xs x.1 h4∧zC t 10=I x.2.1∧zC t 11=I x.2.2∧(a+1≤x.2.1∧x.2.1≤x.2.2+1∧x.2.2≤b - 1)∧(∀ k,a<k→k<x.2.1→atI x.1 k<atI x.1 a)∧∀ k,x.2.2<k→k<b→atI x.1 a≤atI x.1 k) (zs,i+1,j - 1) ?_ ?_
 ·exact⟨s3,sl_,sl_,hP.1,hP.2.1,hP.2.2⟩
 clear hP s3 s10 s11 he hf hg hi2 hj2 hij q2 q3 hi hj;rintro⟨ws,p,q⟩ t h4 hsame ⟨s4,s10,s11,hpq,hlow,hhigh⟩;simp only at s4 s10 s11 hpq hlow hhigh;have hl4:=s4.len;refine go ?_;refine WX.loopA [99,100,101,102,103,104,105,106,107,108,109,110,111,112,113,114,10] (by kernel_rfl) (fun i=>(b - i).toNat) (fun (i:Int) t h2=>h4=h2∧zC t 10=I i∧(p≤i∧i≤q+1)∧∀ k,a<k→k<i→atI ws k<atI ws a) p ?_ ?_
 ·exact⟨rfl,sl_,by omega,hlow⟩
 rintro i2 t _ hsame ⟨rfl,s10,hi,hlow2⟩;refine go ?_;refine WX.cutA [99,100,101,102,103,104,105,106,107,108,109,110,111,112] (by kernel_rfl) (fun t h'=>h4=h'∧zC t 112= .bool (decide (i2≤q∧(atI ws i2<atI ws a)))) ?_ ?_
 ·refine WX.regionU2 0 rfl rfl ?_;have srX:SlI (inC (zB 0 h4)) v ws:=(s4.own).sl;refine goU ?_;refine WO.sp (fun hd=> ?_) (fun hd=> ?_)<;>simp only[DB]at hd<;>refine goU ?_
  ·refine WO.con (ZA _ (atI ws i2) (atI ws a)) ?_;rintro _ _ ⟨rfl,rfl⟩;refine WO.nil ?_;refine yO ?_;refine goU ?_;exact zG ⟨rfl,by rw[show decide (i2≤q∧(atI ws i2<atI ws a))=decide (atI ws i2<atI ws a) from zC0 hd];exact sl_⟩
  ·exact zG ⟨rfl,by rw[show decide (i2≤q∧(atI ws i2<atI ws a))=false from decide_eq_false (fun hh=>absurd hh.1 (by omega))];exact sl_⟩
 rintro t5 _ hs5 ⟨rfl,q5⟩;refine go ?_;refine WX.br (fun he=> ?_) (fun he=> ?_)<;>simp only[DB]at he
 ·refine go ?_;refine zA (i2+1) (by omega) ⟨rfl,sl_,by omega,fun k h1 h2=> ?_⟩;by_cases e:k=i2
  ·rw[e];exact he.2
  ·exact hlow2 k h1 (by omega)
 refine go ?_;refine WX.loopA [115,116,117,118,119,120,121,122,123,124,125,126,127,128,129,130,131,11] (by kernel_rfl) (fun j=>(j+1 - a).toNat) (fun (j:Int) t h2=>h4=h2∧zC t 11=I j∧(i2 - 1≤j∧j≤q)∧∀ k,j<k→k<b→atI ws a≤atI ws k) q ?_ ?_
 ·exact⟨rfl,sl_,by omega,hhigh⟩
 rintro j2 t _ hsame ⟨rfl,s11,hj,hhigh2⟩;refine go ?_;refine WX.cutA [115,116,117,118,119,120,121,122,123,124,125,126,127,128,129] (by kernel_rfl) (fun t h'=>h4=h'∧zC t 129= .bool (decide (i2≤j2∧¬(atI ws j2<atI ws a)))) ?_ ?_
 ·refine WX.regionU2 0 rfl rfl ?_;have srX:SlI (inC (zB 0 h4)) v ws:=(s4.own).sl;refine goU ?_;refine WO.sp (fun hd=> ?_) (fun hd=> ?_)<;>simp only[DB]at hd<;>refine goU ?_
  ·refine WO.con (ZA _ (atI ws j2) (atI ws a)) ?_;rintro _ _ ⟨rfl,rfl⟩;refine WO.nil ?_;refine yO ?_;refine goU ?_;exact zG ⟨rfl,by rw[show decide (i2≤j2∧¬(atI ws j2<atI ws a))= !decide (atI ws j2<atI ws a) from zBw hd];exact sl_⟩
  ·exact zG ⟨rfl,by rw[show decide (i2≤j2∧¬(atI ws j2<atI ws a))=false from decide_eq_false (fun hh=>absurd hh.1 (by omega))];exact sl_⟩
 rintro t6 _ hs6 ⟨rfl,q6⟩;refine go ?_;refine WX.br (fun hf=> ?_) (fun hf=> ?_)<;>simp only[DB]at hf
 ·refine go ?_;refine zA (j2 - 1) (by omega) ⟨rfl,sl_,by omega,fun k h1 h2=> ?_⟩;by_cases e:k=j2
  ·rw[e];omega
  ·exact hhigh2 k (by omega) h2
 refine go ?_;refine WX.br (fun hg=> ?_) (fun hg=> ?_)<;>simp only[DB]at hg
 ·refine go ?_;refine WX.regionU2 0 rfl rfl ?_;have srX:SlI (inC (zB 0 h4)) v ws:=(s4.own).sl;refine goU ?_;refine WU2.swA (j2) (a) (s4).own (s4).ext (by rw[(s4).ext.mark];exact hmB) ?_;intro h3 e3 o3 u3;have s3:=s4.swp e3 o3 u3 h0 hb (by omega) (by omega);refine go ?_;refine rt ?_;refine⟨_,_,_,rfl,s3,by omega,fun k h1 h2=> ?_,fun k h1 h2=> ?_⟩
  ·rw[yL (by omega) (by omega) (by omega),yL (by omega) (by omega) (by omega)];by_cases e:k=a
   ·rw[if_pos e,if_neg (by omega),if_pos rfl];have:=hlow2 j2 (by omega) (by omega);omega
   ·rw[if_neg e,if_neg (by omega),if_neg (by omega),if_pos rfl];have:=hlow2 k (by omega) (by omega);omega
  ·rw[yL (by omega) (by omega) (by omega),yL (by omega) (by omega) (by omega)];rw[if_neg (by omega:¬k=a),if_neg (by omega:¬k=j2)];have:=hhigh2 k (by omega) (by omega);by_cases e:j2=a
   ·rw[if_pos e,e];exact this
   ·rw[if_neg e,if_pos rfl];exact this
 refine go ?_;refine WX.regionU2 0 rfl rfl ?_;have srX:SlI (inC (zB 0 h4)) v ws:=(s4.own).sl;refine goU ?_;refine WU2.swA (i2) (j2) (s4).own (s4).ext (by rw[(s4).ext.mark];exact hmB) ?_;intro h3 e3 o3 u3;have s3:=s4.swp e3 o3 u3 h0 hb (by omega) (by omega);have hi2:¬atI ws i2<atI ws a:=fun hh=>he ⟨by omega,hh⟩;have hj2:atI ws j2<atI ws a:=Int.not_le.1 fun hh=>hf ⟨by omega,hh⟩;have hij:i2≠j2:=fun e=>by subst e;exact hi2 hj2
 have ea:atI (swp ws i2 j2) a=atI ws a:=by rw[yL (by omega) (by omega) (by omega),if_neg (by omega),if_neg (by omega)]
 refine go ?_;refine zA (swp ws i2 j2,i2+1,j2 - 1) (by simp only;omega) ⟨s3,sl_,sl_,by simp only;omega,fun k h1 h2=> ?_,fun k h1 h2=> ?_⟩
 ·simp only at h2 ⊢;rw[ea,yL (by omega) (by omega) (by omega),if_neg (by omega)];by_cases e:k=i2
  ·rw[if_pos e];exact hj2
  ·rw[if_neg e];exact hlow2 k h1 (by omega)
 ·simp only at h1 ⊢;rw[ea,yL (by omega) (by omega) (by omega)];by_cases e:k=j2
  ·rw[if_pos e];omega
  ·rw[if_neg e,if_neg (by omega)];exact hhigh2 k (by omega) h2
def body93_0:ACode:=(.seq (.seq (.regionC [oU (oM 29 9),oU (oM 30 10),oU (oB .leq 31 29 30),oU (oM 32 31),oU (oG 32 (oM 33 0)),oU (oG 32 (oM 34 1)),oU (oG 32 (oI 1 35 33 34)),oU (oG 32 (oL 36 35)),oU (oG 32 (oM 37 0)),oU (oG 32 (oM 38 9)),oU (oG 32 (oI 1 39 37 38)),oU (oG 32 (oL 40 39)),oU (oG 32 (o2 41 92 36 40)),oU (oG 32 (oW 42 41)),oU (oP 43 32 42)]) (oT 43 2)) (.block 3 (oR [oM 44 9,oC .add 45 44 1,oM 9 45])))
def body93_1:ACode:=(.seq (.seq (.regionC [oU (oM 46 9),oU (oM 47 10),oU (oB .leq 48 46 47),oU (oM 49 48),oU (oG 49 (oM 50 0)),oU (oG 49 (oM 51 1)),oU (oG 49 (oI 1 52 50 51)),oU (oG 49 (oL 53 52)),oU (oG 49 (oM 54 0)),oU (oG 49 (oM 55 10)),oU (oG 49 (oI 1 56 54 55)),oU (oG 49 (oL 57 56)),oU (oG 49 (o2 58 92 53 57)),oU (oP 59 49 58)]) (oT 59 4)) (.block 5 (oR [oM 60 10,oC .sub 61 60 1,oM 10 61])))
def body93_2:ACode:=(.block 1 (.seq (.block 2 (.loop body93_0)) (.seq (.block 4 (.loop body93_1)) (.seq (.seq (oR [oM 62 9,oM 63 10,oB .gtr 64 62 63]) (.cond (.tmp 64) (.exit 0) .skip)) (.seq (.regionC [oU (oM 65 0),oU (oM 66 9),oU (oM 67 0),oU (oM 68 10),oU (oM 69 0),oU (oM 70 10),oU (oI 1 71 69 70),oU (oL 72 71),oU (oM 73 0),oU (oM 74 9),oU (oI 1 75 73 74),oU (oL 76 75),oU (oI 1 77 65 66),oU (oS 1 77 72),oU (oI 1 78 67 68),oU (oS 1 78 76)]) (.seq (oR [oM 79 9,oC .add 80 79 1,oM 9 80]) (oR [oM 81 10,oC .sub 82 81 1,oM 10 82])))))))
def body93:ACode:=(.seq (oR [oN 8 0]) (.seq (.regionC [oU (oM 11 0),oU (oM 12 1),oU (oM 13 0),oU (oM 14 3),oU (oM 15 0),oU (oM 16 3),oU (oI 1 17 15 16),oU (oL 18 17),oU (oM 19 0),oU (oM 20 1),oU (oI 1 21 19 20),oU (oL 22 21),oU (oI 1 23 11 12),oU (oS 1 23 18),oU (oI 1 24 13 14),oU (oS 1 24 22)]) (.seq (oR [oM 25 1,oC .add 26 25 1,oM 27 2,oC .sub 28 27 1,oM 9 26,oM 10 28]) (.seq (.block 0 (.loop body93_2)) (.seq (oR [oM 83 9,oM 8 83]) .ret)))))
theorem tab93:tb.code 93=some ⟨84,[(8,none)],body93⟩:=by kernel_rfl
theorem zFB (hB h:AHeap) (v:Value) (xs:List Int) (a b pv:Int) (e0:Ext hB h) (hmB:hB.mark≤hB.n) (o:OwnI hB h v xs) (h0:0≤a) (hp:a≤pv∧pv<b) (hb:b≤xs.length) (hlen:xs.length≤1000000000):
  WC Tryz.prog tb 93 [v,I a,I b,I pv] h fun r h'=>∃ ys m,r=I m∧SS hB h v a b xs ys h'∧(a+1≤m∧m≤b)∧(∀ k,a≤k→k<m→atI ys k≤atI xs pv)∧(∀ k,m≤k→k<b→atI xs pv<atI ys k):=by
 have s0:=SS.start a b o e0;refine WC.of (zE 93) tab93 ?_;simp only[zK,Nat.zero_add,Nat.reduceAdd];refine go ?_;refine WX.regionU2 0 rfl rfl ?_;have srX:SlI (inC (zB 0 h)) v xs:=(o).sl;refine goU ?_;refine WU2.swA (a) (pv) (s0).own (s0).ext (by rw[(s0).ext.mark];exact hmB) ?_;intro h1 e1 o1 u1;have s1:=s0.swp e1 o1 u1 h0 hb (by omega) (by omega);clear o1 e1 u1;have ha:atI (swp xs a pv) a=atI xs pv:=by
  rw[yL (by omega) (by omega) (by omega)];by_cases e:a=pv
  ·rw[if_pos e,e]
  ·rw[if_neg e,if_pos rfl]
 generalize swp xs a pv=ys at s1 ha;generalize atI xs pv=P at ha ⊢;have hl1:=s1.len;refine go ?_;refine WX.loopA [29,30,31,32,33,34,35,36,37,38,39,40,41,42,43,44,45,9,46,47,48,49,50,51,52,53,54,55,56,57,58,59,60,61,10,62,63,64,65,66,67,68,69,70,71,72,73,74,75,76,77,78,79,80,9,81,82,10] (by kernel_rfl) (fun x=>(x.2.2+1 - x.2.1).toNat) (fun (x:List Int×Int×Int) t h4=>SS hB h v a b xs x.1 h4∧zC t 9=I x.2.1∧zC t 10=I x.2.2∧(a+1≤x.2.1∧x.2.1≤x.2.2+1∧x.2.2≤b - 1)∧atI x.1 a=P∧(∀ k,a<k→k<x.2.1→atI x.1 k≤P)∧∀ k,x.2.2<k→k<b→P<atI x.1 k) (ys,a+1,b - 1) ?_ ?_
 ·exact⟨s1,sl_,sl_,by simp only;omega,ha,fun k h1 h2=>by simp only at h2;omega,fun k h1 h2=>by simp only at h1;omega⟩
 clear s1 ha hl1;rintro⟨ws,p,q⟩ t h4 hsame ⟨s4,s9,s10,hpq,ha,hlow,hhigh⟩;simp only at s4 s9 s10 hpq ha hlow hhigh;have hl4:=s4.len;refine go ?_;refine WX.loopA [29,30,31,32,33,34,35,36,37,38,39,40,41,42,43,44,45,9] (by kernel_rfl) (fun i=>(b - i).toNat) (fun (i:Int) t h2=>h4=h2∧zC t 9=I i∧(p≤i∧i≤q+1)∧∀ k,a<k→k<i→atI ws k≤P) p ?_ ?_
 ·exact⟨rfl,sl_,by omega,hlow⟩
 rintro i2 t _ hsame ⟨rfl,s9,hi,hlow2⟩;refine go ?_;refine WX.cutA [29,30,31,32,33,34,35,36,37,38,39,40,41,42,43] (by kernel_rfl) (fun t h'=>h4=h'∧zC t 43= .bool (decide (i2≤q∧¬(atI ws a<atI ws i2)))) ?_ ?_
 ·refine WX.regionU2 0 rfl rfl ?_;have srX:SlI (inC (zB 0 h4)) v ws:=(s4.own).sl;refine goU ?_;refine WO.sp (fun hd=> ?_) (fun hd=> ?_)<;>simp only[DB]at hd<;>refine goU ?_
  ·refine WO.con (ZA _ (atI ws a) (atI ws i2)) ?_;rintro _ _ ⟨rfl,rfl⟩;refine WO.nil ?_;refine yO ?_;refine goU ?_;exact zG ⟨rfl,by rw[show decide (i2≤q∧¬(atI ws a<atI ws i2))= !decide (atI ws a<atI ws i2) from zBw hd];exact sl_⟩
  ·exact zG ⟨rfl,by rw[show decide (i2≤q∧¬(atI ws a<atI ws i2))=false from decide_eq_false (fun hh=>absurd hh.1 (by omega))];exact sl_⟩
 rintro t5 _ hs5 ⟨rfl,q5⟩;refine go ?_;refine WX.br (fun he=> ?_) (fun he=> ?_)<;>simp only[DB]at he
 ·refine go ?_;refine zA (i2+1) (by omega) ⟨rfl,sl_,by omega,fun k h1 h2=> ?_⟩;by_cases e:k=i2
  ·rw[e];omega
  ·exact hlow2 k h1 (by omega)
 refine go ?_;refine WX.loopA [46,47,48,49,50,51,52,53,54,55,56,57,58,59,60,61,10] (by kernel_rfl) (fun j=>(j+1 - a).toNat) (fun (j:Int) t h2=>h4=h2∧zC t 10=I j∧(i2 - 1≤j∧j≤q)∧∀ k,j<k→k<b→P<atI ws k) q ?_ ?_
 ·exact⟨rfl,sl_,by omega,hhigh⟩
 rintro j2 t _ hsame ⟨rfl,s10,hj,hhigh2⟩;refine go ?_;refine WX.cutA [46,47,48,49,50,51,52,53,54,55,56,57,58,59] (by kernel_rfl) (fun t h'=>h4=h'∧zC t 59= .bool (decide (i2≤j2∧(atI ws a<atI ws j2)))) ?_ ?_
 ·refine WX.regionU2 0 rfl rfl ?_;have srX:SlI (inC (zB 0 h4)) v ws:=(s4.own).sl;refine goU ?_;refine WO.sp (fun hd=> ?_) (fun hd=> ?_)<;>simp only[DB]at hd<;>refine goU ?_
  ·refine WO.con (ZA _ (atI ws a) (atI ws j2)) ?_;rintro _ _ ⟨rfl,rfl⟩;refine WO.nil ?_;refine yO ?_;refine goU ?_;exact zG ⟨rfl,by rw[show decide (i2≤j2∧(atI ws a<atI ws j2))=decide (atI ws a<atI ws j2) from zC0 hd];exact sl_⟩
  ·exact zG ⟨rfl,by rw[show decide (i2≤j2∧(atI ws a<atI ws j2))=false from decide_eq_false (fun hh=>absurd hh.1 (by omega))];exact sl_⟩
 rintro t6 _ hs6 ⟨rfl,q6⟩;refine go ?_;refine WX.br (fun hf=> ?_) (fun hf=> ?_)<;>simp only[DB]at hf
 ·refine go ?_;refine zA (j2 - 1) (by omega) ⟨rfl,sl_,by omega,fun k h1 h2=> ?_⟩;by_cases e:k=j2
  ·rw[e];omega
  ·exact hhigh2 k (by omega) h2
 refine go ?_;refine WX.br (fun hg=> ?_) (fun hg=> ?_)<;>simp only[DB]at hg
 ·refine go ?_;refine rt ?_;refine⟨_,_,rfl,s4,by omega,fun k h1 h2=> ?_,fun k h1 h2=> ?_⟩
  ·by_cases e:k=a
   ·rw[e,ha];exact Int.le_refl _
   ·exact hlow2 k (by omega) h2
  ·exact hhigh2 k (by omega) h2
 have hi2:P<atI ws i2:=by
  rw[←ha];exact Int.not_le.1 fun hh=>he ⟨by omega,hh⟩
 have hj2:atI ws j2≤P:=by
  rw[←ha];exact Int.not_lt.1 fun hh=>hf ⟨by omega,hh⟩
 have hij:i2≠j2:=fun e=>by subst e;omega
 refine go ?_;refine WX.regionU2 0 rfl rfl ?_;have srX:SlI (inC (zB 0 h4)) v ws:=(s4.own).sl;refine goU ?_;refine WU2.swA (i2) (j2) (s4).own (s4).ext (by rw[(s4).ext.mark];exact hmB) ?_;intro h3 e3 o3 u3;have s3:=s4.swp e3 o3 u3 h0 hb (by omega) (by omega);refine go ?_;refine zA (swp ws i2 j2,i2+1,j2 - 1) (by simp only;omega) ⟨s3,sl_,sl_,by simp only;omega,?_,fun k h1 h2=> ?_,fun k h1 h2=> ?_⟩
 ·simp only;rw[yL (by omega) (by omega) (by omega),if_neg (by omega),if_neg (by omega)];exact ha
 ·simp only at h2 ⊢;rw[yL (by omega) (by omega) (by omega),if_neg (by omega)];by_cases e:k=i2
  ·rw[if_pos e];exact hj2
  ·rw[if_neg e];exact hlow2 k h1 (by omega)
 ·simp only at h1 ⊢;rw[yL (by omega) (by omega) (by omega)];by_cases e:k=j2
  ·rw[if_pos e];omega
  ·rw[if_neg e,if_neg (by omega)];exact hhigh2 k (by omega) h2
def body90_0:ACode:=(.seq (.seq (oR [oM 11 6,oM 12 7,oB .lss 13 11 12]) (oT 13 0)) (.block 1 (.seq (.regionC [oU (oM 14 0),oU (oM 15 6),oU (oM 16 0),oU (oM 17 7),oU (oM 18 0),oU (oM 19 7),oU (oI 1 20 18 19),oU (oL 21 20),oU (oM 22 0),oU (oM 23 6),oU (oI 1 24 22 23),oU (oL 25 24),oU (oI 1 26 14 15),oU (oS 1 26 21),oU (oI 1 27 16 17),oU (oS 1 27 25)]) (.seq (oR [oM 28 6,oC .add 29 28 1,oM 6 29]) (oR [oM 30 7,oC .sub 31 30 1,oM 7 31])))))
def body90:ACode:=(.seq (oR [oM 8 1,oM 6 8]) (.seq (oR [oM 9 2,oC .sub 10 9 1,oM 7 10]) (.block 0 (.loop body90_0))))
theorem tab90:tb.code 90=some ⟨32,[],body90⟩:=by kernel_rfl
theorem zHm (hB h:AHeap) (v:Value) (xs:List Int) (a b:Int) (e0:Ext hB h) (hmB:hB.mark≤hB.n) (o:OwnI hB h v xs) (h0:0≤a) (hab:a≤b) (hb:b≤xs.length) (hlen:xs.length≤1000000000):
  WC Tryz.prog tb 90 [v,I a,I b] h fun r h'=>∃ ys,SS hB h v a b xs ys h':=by
 have s0:=SS.start a b o e0;refine WC.of (zE 90) tab90 ?_;simp only[zK,Nat.zero_add,Nat.reduceAdd];refine go ?_;refine WX.loopA [11,12,13,14,15,16,17,18,19,20,21,22,23,24,25,26,27,28,29,6,30,31,7] (by kernel_rfl) (fun x=>(x.2.2+1 - x.2.1).toNat) (fun (x:List Int×Int×Int) t h4=>SS hB h v a b xs x.1 h4∧zC t 6=I x.2.1∧zC t 7=I x.2.2∧(a≤x.2.1∧x.2.2≤b - 1)∧(x.2.1≤b∧a - 1≤x.2.2)) (xs,a,b - 1) ?_ ?_
 ·exact⟨s0,sl_,sl_,by simp only;omega,by simp only;omega⟩
 rintro⟨ws,p,q⟩ t h4 hsame ⟨s4,s6,s7,hpq,hpq2⟩;simp only at s4 s6 s7 hpq hpq2;have hl4:=s4.len;refine go ?_;refine WX.br (fun he=> ?_) (fun he=> ?_)<;>simp only[DB]at he
 ·refine go ?_;refine WX.regionU2 0 rfl rfl ?_;have srX:SlI (inC (zB 0 h4)) v ws:=(s4.own).sl;refine goU ?_;refine WU2.swA (p) (q) (s4).own (s4).ext (by rw[(s4).ext.mark];exact hmB) ?_;intro h3 e3 o3 u3;have s3:=s4.swp e3 o3 u3 h0 hb (by omega) (by omega);refine go ?_;exact zA (swp ws p q,p+1,q - 1) (by simp only;omega) ⟨s3,sl_,sl_,by simp only;omega,by simp only;omega⟩
 ·refine go ?_;refine rtN ?_;exact⟨ws,s4⟩
def Edge (lo hi k c:Int):Prop:=lo≤k∧(c=2 * k+1∨c=2 * k+2)∧c<hi
def zEL (first lo hi:Int) (xs:List Int):Prop:=∀ k c,Edge lo hi k c→atI xs (first+c)≤atI xs (first+k)
theorem heap_max {first hi:Int} {xs:List Int} (h:zEL first 0 hi xs):∀ (n:Nat) (k:Int),k=n→k<hi→atI xs (first+k)≤atI xs (first+0):=by
 intro n;induction n using Nat.strongRecOn with
 |_ n ih=>
  intro k hk hlt;by_cases e:k=0
  ·rw[e];exact Int.le_refl _
  ·have h1:=h ((k - 1) / 2) k ⟨by omega,by omega,hlt⟩;have h2:=ih ((k - 1) / 2).toNat (by omega) ((k - 1) / 2) (by omega) (by omega);omega
def zI2:ACode:=(.block 1 (.seq (oR [oM 11 8,⟨some 12,none,(.bin .mul (.const (.int .i64 2)) (.tmp 11))⟩,oC .add 13 12 1,oM 9 13]) (.seq (.seq (oR [oM 14 9,oM 15 2,oB .geq 16 14 15]) (.cond (.tmp 16) (.exit 0) .skip)) (.seq (.seq (.regionC [oU (oM 17 9),oU (oC .add 18 17 1),oU (oM 19 2),oU (oB .lss 20 18 19),oU (oM 21 20),oU (oG 21 (oM 22 0)),oU (oG 21 (oM 23 3)),oU (oG 21 (oM 24 9)),oU (oG 21 (oB .add 25 23 24)),oU (oG 21 (oI 1 26 22 25)),oU (oG 21 (oL 27 26)),oU (oG 21 (oM 28 0)),oU (oG 21 (oM 29 3)),oU (oG 21 (oM 30 9)),oU (oG 21 (oB .add 31 29 30)),oU (oG 21 (oC .add 32 31 1)),oU (oG 21 (oI 1 33 28 32)),oU (oG 21 (oL 34 33)),oU (oG 21 (o2 35 92 27 34)),oU (oP 36 21 35)]) (.cond (.tmp 36) (oR [oM 37 9,oC .add 38 37 1,oM 9 38]) .skip)) (.seq (.seq (.regionC [oU (oM 39 0),oU (oM 40 3),oU (oM 41 8),oU (oB .add 42 40 41),oU (oI 1 43 39 42),oU (oL 44 43),oU (oM 45 0),oU (oM 46 3),oU (oM 47 9),oU (oB .add 48 46 47),oU (oI 1 49 45 48),oU (oL 50 49),oU (o2 51 92 44 50),oU (oW 52 51)]) (.cond (.tmp 52) .ret .skip)) (.seq (.regionC [oU (oM 53 0),oU (oM 54 3),oU (oM 55 8),oU (oB .add 56 54 55),oU (oM 57 0),oU (oM 58 3),oU (oM 59 9),oU (oB .add 60 58 59),oU (oM 61 0),oU (oM 62 3),oU (oM 63 9),oU (oB .add 64 62 63),oU (oI 1 65 61 64),oU (oL 66 65),oU (oM 67 0),oU (oM 68 3),oU (oM 69 8),oU (oB .add 70 68 69),oU (oI 1 71 67 70),oU (oL 72 71),oU (oI 1 73 53 56),oU (oS 1 73 66),oU (oI 1 74 57 60),oU (oS 1 74 72)]) (oR [oM 75 9,oM 8 75])))))))
def body106:ACode:=(.seq (oR [oM 10 1,oM 8 10]) (.block 0 (.loop zI2)))
theorem tab106:tb.code 106=some ⟨76,[],body106⟩:=by kernel_rfl
theorem zHw (hB h:AHeap) (v:Value) (xs:List Int) (lo hi first:Int) (e0:Ext hB h) (hmB:hB.mark≤hB.n) (o:OwnI hB h v xs) (h0:0≤lo) (hlo:lo≤1000000000) (hf:0≤first) (hb:first+hi≤xs.length) (hlen:xs.length≤1000000000) (hh:zEL first (lo+1) hi xs):
  WC Tryz.prog tb 106 [v,I lo,I hi,I first] h fun r h'=>∃ ys,SS hB h v (first+lo) (first+hi) xs ys h'∧zEL first lo hi ys:=by
 have s0:=SS.start (first+lo) (first+hi) o e0;refine WC.of (zE 106) tab106 ?_;simp only[zK,Nat.zero_add,Nat.reduceAdd];refine go ?_;refine WX.loopA [11,12,13,9,14,15,16,17,18,19,20,21,22,23,24,25,26,27,28,29,30,31,32,33,34,35,36,37,38,9,39,40,41,42,43,44,45,46,47,48,49,50,51,52,53,54,55,56,57,58,59,60,61,62,63,64,65,66,67,68,69,70,71,72,73,74,75,8] (by kernel_rfl) (fun x=>(hi+1 - x.2).toNat) (fun (x:List Int×Int) t h4=>SS hB h v (first+lo) (first+hi) xs x.1 h4∧zC t 8=I x.2∧(lo≤x.2∧(x.2=lo∨x.2<hi))∧(∀ k c,Edge lo hi k c→k≠x.2→atI x.1 (first+c)≤atI x.1 (first+k))∧∀ k c,Edge lo hi k x.2→Edge lo hi x.2 c→atI x.1 (first+c)≤atI x.1 (first+k)) (xs,lo) ?_ ?_
 ·refine⟨s0,sl_,⟨Int.le_refl _,.inl rfl⟩,fun k c hk hne=>hh k c ⟨by have:=hk.1;simp only at hne;omega,hk.2⟩,fun k c h1 h2=> ?_⟩;obtain⟨a1,a2,a3⟩:=h1;simp only at a2;omega
 rintro⟨ws,r⟩ t h4 hsame ⟨s4,s8,hr,i1,i2⟩;simp only at s4 s8 hr i1 i2;have hl4:=s4.len;refine go ?_;refine WX.br (fun he=> ?_) (fun he=> ?_)<;>simp only[DB]at he
 ·refine go ?_;refine rtN ?_;refine⟨ws,s4,fun k c hk=> ?_⟩;by_cases e:k=r
  ·obtain⟨a1,a2,a3⟩:=hk;subst e;omega
  ·exact i1 k c hk e
 refine go ?_;refine WX.cutA [17,18,19,20,21,22,23,24,25,26,27,28,29,30,31,32,33,34,35,36] (by kernel_rfl) (fun t h'=>h4=h'∧zC t 36= .bool (decide (2 * r+1+1<hi∧(atI ws (first+(2 * r+1))<atI ws (first+(2 * r+1)+1))))) ?_ ?_
 ·refine WX.regionU2 0 rfl rfl ?_;have srX:SlI (inC (zB 0 h4)) v ws:=(s4.own).sl;refine goU ?_;refine WO.sp (fun hd=> ?_) (fun hd=> ?_)<;>simp only[DB]at hd<;>refine goU ?_
  ·refine WO.con (ZA _ (atI ws (first+(2 * r+1))) (atI ws (first+(2 * r+1)+1))) ?_;rintro _ _ ⟨rfl,rfl⟩;refine WO.nil ?_;refine yO ?_;refine goU ?_;exact zG ⟨rfl,by rw[show decide (2 * r+1+1<hi∧(atI ws (first+(2 * r+1))<atI ws (first+(2 * r+1)+1)))=decide (atI ws (first+(2 * r+1))<atI ws (first+(2 * r+1)+1)) from zC0 hd];exact sl_⟩
  ·exact zG ⟨rfl,by rw[show decide (2 * r+1+1<hi∧(atI ws (first+(2 * r+1))<atI ws (first+(2 * r+1)+1)))=false from decide_eq_false (fun hh=>absurd hh.1 (by omega))];exact sl_⟩
 rintro t5 _ hs5 ⟨rfl,q5⟩;have hcut:∀ c:Int,(c=2 * r+1∨c=2 * r+2)→c<hi→(∀ d,Edge lo hi r d→atI ws (first+d)≤atI ws (first+c))→∀ (t:Trie Value) (K:AExit→AFr→AHeap→Prop),True:=fun _ _ _ _ _ _=>trivial;refine go ?_;refine WX.cutA [37,38,9] (by kernel_rfl) (fun t h'=>h4=h'∧∃ c:Int,zC t 9=I c∧(c=2 * r+1∨c=2 * r+2)∧c<hi∧∀ d,Edge lo hi r d→atI ws (first+d)≤atI ws (first+c)) ?_ ?_
 ·refine WX.br (fun hg=> ?_) (fun hg=> ?_)<;>simp only[DB]at hg<;>refine go ?_
  ·refine zG ⟨rfl,2 * r+1+1,sl_,by omega,by omega,fun d hd=> ?_⟩;obtain⟨_,a2,_⟩:=hd;have e1:first+(2 * r+1)+1=first+(2 * r+1+1):=by omega
   rw[e1]at hg;rcases a2 with rfl|rfl
   ·omega
   ·have:first+(2 * r+2)=first+(2 * r+1+1):=by omega
    rw[this];exact Int.le_refl _
  ·refine zG ⟨rfl,2 * r+1,sl_,by omega,by omega,fun d hd=> ?_⟩;obtain⟨_,a2,a3⟩:=hd;rcases a2 with rfl|rfl
   ·exact Int.le_refl _
   ·have e1:first+(2 * r+1)+1=first+(2 * r+2):=by omega
    rw[e1]at hg;exact Int.not_lt.1 fun hh=>hg ⟨by omega,hh⟩
 clear hcut;rintro t7 _ hs7 ⟨rfl,c,q7,hc,hc2,hmax⟩;refine go ?_;refine WX.regionU2 0 rfl rfl ?_;have srX:SlI (inC (zB 0 h4)) v ws:=(s4.own).sl;refine goU ?_;refine WO.con (ZA _ (atI ws (first+r)) (atI ws (first+c))) ?_;rintro _ _ ⟨rfl,rfl⟩;refine WO.nil ?_;refine yO ?_;refine goU ?_;rw[Y8];refine WX.br (fun hg=> ?_) (fun hg=> ?_)<;>simp only[DB]at hg
 ·refine go ?_;refine rt ?_;refine⟨ws,s4,fun k d hk=> ?_⟩;by_cases e:k=r
  ·subst e;have:=hmax d hk;omega
  ·exact i1 k d hk e
 refine go ?_;refine WX.regionU2 0 rfl rfl ?_;have srX:SlI (inC (zB 0 h4)) v ws:=(s4.own).sl;refine goU ?_;refine WU2.swA (first+r) (first+c) (s4).own (s4).ext (by rw[(s4).ext.mark];exact hmB) ?_;intro h3 e3 o3 u3;have s3:=s4.swp e3 o3 u3 (by omega) hb (by omega) (by omega);refine go ?_;have hat:∀ k,0≤k→atI (swp ws (first+r) (first+c)) (first+k)=if k=c then atI ws (first+r) else if k=r then atI ws (first+c) else atI ws (first+k):=by
  intro k hk;rw[yL (by omega) (by omega) (by omega)];have e1:(first+k=first+c)↔k=c:=by omega
  have e2:(first+k=first+r)↔k=r:=by omega
  simp only[e1,e2]
 refine zA (swp ws (first+r) (first+c),c) (by simp only;omega) ⟨s3,sl_,by simp only;omega,fun k d hk hne=> ?_,fun k d hk hd=> ?_⟩
 ·simp only at hne ⊢;have hk':=hk;obtain⟨a1,a2,a3⟩:=hk';rw[hat d (by omega),hat k (by omega),if_neg hne];by_cases e:k=r
  ·rw[if_pos e];subst e;by_cases e2:d=c
   ·rw[if_pos e2];omega
   ·rw[if_neg e2,if_neg (by omega)];exact hmax d hk
  ·rw[if_neg e,if_neg (by omega:¬d=c)];by_cases e2:d=r
   ·rw[if_pos e2];subst e2;exact i2 k c hk ⟨hr.1,hc,hc2⟩
   ·rw[if_neg e2];exact i1 k d hk e
 ·simp only at hk hd ⊢;obtain⟨a1,a2,a3⟩:=hk;have ek:k=r:=by omega
  have hd':=hd;obtain⟨b1,b2,b3⟩:=hd';rw[hat d (by omega),hat k (by omega),if_neg (by omega),if_neg (by omega),if_neg (by omega),if_pos ek];exact i1 c d hd (by omega)
def body87_0:ACode:=(.seq (.seq (oR [oM 18 9,oC .geq 19 18 0]) (oT 19 0)) (.seq (.block 1 (oR [oM 22 0,oM 23 9,oM 24 8,oM 25 6,o4 26 106 22 23 24 25])) (oR [oM 20 9,oC .sub 21 20 1,oM 9 21])))
def body87_1:ACode:=(.seq (.seq (oR [oM 29 10,oC .geq 30 29 0]) (oT 30 2)) (.seq (.block 3 (.seq (.regionC [oU (oM 33 0),oU (oM 34 6),oU (oM 35 0),oU (oM 36 6),oU (oM 37 10),oU (oB .add 38 36 37),oU (oM 39 0),oU (oM 40 6),oU (oM 41 10),oU (oB .add 42 40 41),oU (oI 1 43 39 42),oU (oL 44 43),oU (oM 45 0),oU (oM 46 6),oU (oI 1 47 45 46),oU (oL 48 47),oU (oI 1 49 33 34),oU (oS 1 49 44),oU (oI 1 50 35 38),oU (oS 1 50 48)]) (oR [oM 51 0,oM 52 7,oM 53 10,oM 54 6,o4 55 106 51 52 53 54]))) (oR [oM 31 10,oC .sub 32 31 1,oM 10 32])))
def body87:ACode:=(.seq (oR [oM 11 1,oM 6 11]) (.seq (oR [oN 7 0]) (.seq (oR [oM 12 2,oM 13 1,oB .sub 14 12 13,oM 8 14]) (.seq (.seq (oR [oM 15 8,oC .sub 16 15 1,oC .quo 17 16 2,oM 9 17]) (.block 0 (.loop body87_0))) (.seq (oR [oM 27 8,oC .sub 28 27 1,oM 10 28]) (.block 2 (.loop body87_1)))))))
theorem tab87:tb.code 87=some ⟨56,[],body87⟩:=by kernel_rfl
theorem heap_ok (hB h:AHeap) (v:Value) (xs:List Int) (a b:Int) (e0:Ext hB h) (hmB:hB.mark≤hB.n) (o:OwnI hB h v xs) (h0:0≤a) (hab:a≤b) (hb:b≤xs.length) (hlen:xs.length≤1000000000):
  WC Tryz.prog tb 87 [v,I a,I b] h fun r h'=>∃ ys,SS hB h v a b xs ys h'∧Srt a b ys:=by
 have s0:=SS.start a b o e0;refine WC.of (zE 87) tab87 ?_;simp only[zK,Nat.zero_add,Nat.reduceAdd];have hq:(b - a - 1).tdiv 2≤b - a∧0≤(b - a - 1).tdiv 2∧b - a - 2≤2 * (b - a - 1).tdiv 2:=by
  by_cases e:b - a=0
  ·rw[e];decide
  ·rw[Int.tdiv_eq_ediv_of_nonneg (by omega)];omega
 refine go ?_;refine WO.quo (a:=b - a - 1) (c:=2) (by decide) (by omega) (by omega) ?_;refine go ?_;refine WX.loopA [18,19,22,23,24,25,26,20,21,9] (by kernel_rfl) (fun x=>(x.2+1).toNat) (fun (x:List Int×Int) t h4=>SS hB h v a b xs x.1 h4∧zC t 9=I x.2∧(-1≤x.2∧x.2≤b - a)∧zEL a (x.2+1) (b - a) x.1) (xs,(b - a - 1).tdiv 2) ?_ ?_
 ·refine⟨s0,sl_,by simp only;omega,fun k c hk=> ?_⟩;obtain⟨a1,a2,a3⟩:=hk;simp only at a1;omega
 rintro⟨ws,i⟩ t h4 hsame ⟨s4,s9,hi,hh⟩;simp only at s4 s9 hi hh;have hl4:=s4.len;refine go ?_;refine WX.br (fun he=> ?_) (fun he=> ?_)<;>simp only[DB]at he
 ·refine go ?_;refine WO.con (zHw hB h4 v ws i (b - a) a s4.ext hmB s4.own (by omega) (by omega) h0 (by omega) (by omega) hh) ?_;rintro _ h5 ⟨ys,s5,hh5⟩;refine go ?_;exact zA (ys,i - 1) (by simp only;omega) ⟨s4.call s5 (by omega) (by omega),sl_,by simp only;omega,by simp only;rw[show i - 1+1=i by omega];exact hh5⟩
 have hi1:i= -1:=by omega
 subst hi1;refine go ?_;have hh0:zEL a 0 (b - a - 1+1) ws:=by rw[show b - a - 1+1=b - a by omega];exact hh
 clear hh s9 he hi;refine WX.loopA [29,30,33,34,35,36,37,38,39,40,41,42,43,44,45,46,47,48,49,50,51,52,53,54,55,31,32,10] (by kernel_rfl) (fun x=>(x.2+1).toNat) (fun (x:List Int×Int) t h5=>SS hB h v a b xs x.1 h5∧zC t 10=I x.2∧(-1≤x.2∧x.2≤b - a - 1)∧zEL a 0 (x.2+1) x.1∧Srt (a+x.2+1) b x.1∧∀ p q,a≤p→p≤a+x.2→a+x.2<q→q<b→atI x.1 p≤atI x.1 q) (ws,b - a - 1) ?_ ?_
 ·exact⟨s4,sl_,by simp only;omega,hh0,Srt.small (by simp only;omega),fun p q h1 h2 h3 h4=>by simp only at h3;omega⟩
 clear hh0 s4 hl4;rintro⟨zs,i⟩ t h4 hsame ⟨s4,s10,hi,hh,hs,hl⟩;simp only at s4 s10 hi hh hs hl;have hl4:=s4.len;refine go ?_;refine WX.br (fun he=> ?_) (fun he=> ?_)<;>simp only[DB]at he
 ·refine go ?_;refine WX.regionU2 0 rfl rfl ?_;have srX:SlI (inC (zB 0 h4)) v zs:=(s4.own).sl;refine goU ?_;refine WU2.swA (a) (a+i) (s4).own (s4).ext (by rw[(s4).ext.mark];exact hmB) ?_;intro h3 e3 o3 u3;have s3:=s4.swp e3 o3 u3 (by omega) hb (by omega) (by omega);have hat:∀ k,0≤k→atI (swp zs a (a+i)) (a+k)=if k=i then atI zs (a+0) else if k=0 then atI zs (a+i) else atI zs (a+k):=by
   intro k hk;rw[yL (by omega) (by omega) (by omega)];have e1:(a+k=a+i)↔k=i:=by omega
   have e2:(a+k=a)↔k=0:=by omega
   have e3:a+0=a:=by omega
   simp only[e1,e2,e3]
  have hmax:∀ k,0≤k→k≤i→atI zs (a+k)≤atI zs (a+0):=fun k h1 h2=>heap_max hh k.toNat k (by omega) (by omega);refine go ?_;refine WO.con (zHw hB h3 v _ 0 i a s3.ext hmB s3.own (by omega) (by omega) h0 (by rw[s3.len];omega) (by rw[s3.len];omega) (fun k c hk=> ?_)) ?_
  ·obtain⟨a1,a2,a3⟩:=hk;rw[hat c (by omega),hat k (by omega),if_neg (by omega),if_neg (by omega),if_neg (by omega),if_neg (by omega)];exact hh k c ⟨by omega,a2,by omega⟩
  rintro _ h5 ⟨ys,s5,hh5⟩;have p5:=s5.pi;have out:∀ k,i≤k→atI ys (a+k)=atI (swp zs a (a+i)) (a+k):=fun k hk=>p5.out _ (by omega) (.inr (by omega));have low:∀ k,a+0≤k→k<a+i→atI ys k≤atI zs (a+0):=p5.all (p:=fun x=>x≤atI zs (a+0)) (by omega) (by rw[s3.len];omega) (fun k h1 h2=>by
   have:=hat (k - a) (by omega);rw[show a+(k - a)=k by omega]at this;rw[this,if_neg (by omega)];by_cases e:k - a=0
   ·rw[if_pos e];exact hmax i (by omega) (by omega)
   ·rw[if_neg e];have:=hmax (k - a) (by omega) (by omega);rw[show a+(k - a)=k by omega]at this;exact this)
  have top:atI ys (a+i)=atI zs (a+0):=by rw[out i (Int.le_refl _),hat i (by omega),if_pos rfl]
  have rest:∀ k,a+i<k→atI ys k=atI zs k:=fun k hk=>by
   have h1:=out (k - a) (by omega);rw[hat (k - a) (by omega),if_neg (by omega),if_neg (by omega),show a+(k - a)=k by omega]at h1;exact h1
  refine go ?_;refine zA (ys,i - 1) (by simp only;omega) ⟨s3.call s5 (by omega) (by omega),sl_,by simp only;omega,by simp only;rw[show i - 1+1=i by omega];exact hh5,fun p q h1 h2 h3=> ?_,fun p q h1 h2 h3 h4=> ?_⟩
  ·simp only at h1 ⊢;by_cases ep:p=a+i
   ·by_cases eq:q=a+i
    ·rw[ep,eq];exact Int.le_refl _
    ·rw[ep,top,rest q (by omega)];exact hl (a+0) q (by omega) (by omega) (by omega) h3
   ·rw[rest p (by omega),rest q (by omega)];exact hs p q (by omega) h2 h3
  ·simp only at h2 h3 ⊢;have hp:=low p (by omega) (by omega);by_cases eq:q=a+i
   ·rw[eq,top];exact hp
   ·rw[rest q (by omega)];have:=hl (a+0) q (by omega) (by omega) (by omega) h4;omega
 ·refine go ?_;refine rtN ?_;have hi1:i= -1:=by omega
  subst hi1;exact⟨zs,s4,fun p q h1 h2 h3=>hs p q (by omega) h2 h3⟩
end
end Go.Proofs.YtemggiegiejopaaGreatDoor
