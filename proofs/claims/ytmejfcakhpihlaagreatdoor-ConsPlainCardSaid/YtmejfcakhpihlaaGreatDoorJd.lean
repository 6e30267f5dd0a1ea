/- Walks of functions, plain laws; proves no statement. -/
import Derived.Test.YtmejfcakhpihlaaGreatDoorJc
set_option linter.unusedVariables false
set_option linter.unusedSimpArgs false
set_option maxHeartbeats 400000
namespace Go.Proofs.YtmejfcakhpihlaaGreatDoor
noncomputable section
open Go.Am
set_option maxRecDepth 100000
def zMa:U3:=(oV (oV (o6 [oM 30 10,oM 31 11,oB .leq 32 30 31,oM 33 32,oG 33 (oM 34 0),oG 33 (oM 35 10),oG 33 (oI 1 36 34 35),oG 33 (oL 37 36),oG 33 (oM 38 0),oG 33 (oM 39 1),oG 33 (oI 1 40 38 39),oG 33 (oL 41 40),oG 33 (o2 42 242 37 41),oP 43 33 42]) (oT 43 0)) (o5 1 (oR [oM 44 10,oC .add 45 44 1,oM 10 45])))
def zLZ:U3:=(oV (oV (o6 [oM 46 10,oM 47 11,oB .leq 48 46 47,oM 49 48,oG 49 (oM 50 0),oG 49 (oM 51 11),oG 49 (oI 1 52 50 51),oG 49 (oL 53 52),oG 49 (oM 54 0),oG 49 (oM 55 1),oG 49 (oI 1 56 54 55),oG 49 (oL 57 56),oG 49 (o2 58 242 53 57),oG 49 (oW 59 58),oP 60 49 59]) (oT 60 2)) (o5 3 (oR [oM 61 11,oC .sub 62 61 1,oM 11 62])))
def zMf:U3:=(oV (oV (o6 [oM 99 10,oM 100 11,oB .leq 101 99 100,oM 102 101,oG 102 (oM 103 0),oG 102 (oM 104 10),oG 102 (oI 1 105 103 104),oG 102 (oL 106 105),oG 102 (oM 107 0),oG 102 (oM 108 1),oG 102 (oI 1 109 107 108),oG 102 (oL 110 109),oG 102 (o2 111 242 106 110),oP 112 102 111]) (oT 112 6)) (o5 7 (oR [oM 113 10,oC .add 114 113 1,oM 10 114])))
def zMO:U3:=(oV (oV (o6 [oM 115 10,oM 116 11,oB .leq 117 115 116,oM 118 117,oG 118 (oM 119 0),oG 118 (oM 120 11),oG 118 (oI 1 121 119 120),oG 118 (oL 122 121),oG 118 (oM 123 0),oG 118 (oM 124 1),oG 118 (oI 1 125 123 124),oG 118 (oL 126 125),oG 118 (o2 127 242 122 126),oG 118 (oW 128 127),oP 129 118 128]) (oT 129 8)) (o5 9 (oR [oM 130 11,oC .sub 131 130 1,oM 11 131])))
def zMZ:U3:=(o5 5 (oV (o5 6 (.loop zMf)) (oV (o5 8 (.loop zMO)) (oV (oV (oR [oM 132 10,oM 133 11,oB .gtr 134 132 133]) (oJ 134 (.exit 4) .skip)) (oV (o6 [oM 135 0,oM 136 10,oM 137 0,oM 138 11,oM 139 0,oM 140 11,oI 1 141 139 140,oL 142 141,oM 143 0,oM 144 10,oI 1 145 143 144,oL 146 145,oI 1 147 135 136,oS 1 147 142,oI 1 148 137 138,oS 1 148 146]) (oV (oR [oM 149 10,oC .add 150 149 1,oM 10 150]) (oR [oM 151 11,oC .sub 152 151 1,oM 11 152])))))))
def zQH:U3:=(oV (oR [oN 8 0,oZ 9]) (oV (o6 [oM 12 0,oM 13 1,oM 14 0,oM 15 3,oM 16 0,oM 17 3,oI 1 18 16 17,oL 19 18,oM 20 0,oM 21 1,oI 1 22 20 21,oL 23 22,oI 1 24 12 13,oS 1 24 19,oI 1 25 14 15,oS 1 25 23]) (oV (oR [oM 26 1,oC .add 27 26 1,oM 28 2,oC .sub 29 28 1,oM 10 27,oM 11 29]) (oV (o5 0 (.loop zMa)) (oV (o5 2 (.loop zLZ)) (oV (oV (oR [oM 63 10,oM 64 11,oB .gtr 65 63 64]) (oJ 65 (oV (o6 [oM 66 0,oM 67 11,oM 68 0,oM 69 1,oM 70 0,oM 71 1,oI 1 72 70 71,oL 73 72,oM 74 0,oM 75 11,oI 1 76 74 75,oL 77 76,oI 1 78 66 67,oS 1 78 73,oI 1 79 68 69,oS 1 79 77]) (oV (oR [oM 80 11,oM 8 80,oK 9 (.bool true)]) .ret)) .skip)) (oV (o6 [oM 81 0,oM 82 10,oM 83 0,oM 84 11,oM 85 0,oM 86 11,oI 1 87 85 86,oL 88 87,oM 89 0,oM 90 10,oI 1 91 89 90,oL 92 91,oI 1 93 81 82,oS 1 93 88,oI 1 94 83 84,oS 1 94 92]) (oV (oR [oM 95 10,oC .add 96 95 1,oM 10 96]) (oV (oR [oM 97 11,oC .sub 98 97 1,oM 11 98]) (oV (o5 4 (.loop zMZ)) (oV (o6 [oM 153 0,oM 154 11,oM 155 0,oM 156 1,oM 157 0,oM 158 1,oI 1 159 157 158,oL 160 159,oM 161 0,oM 162 11,oI 1 163 161 162,oL 164 163,oI 1 165 153 154,oS 1 165 160,oI 1 166 155 156,oS 1 166 164]) (oV (oR [oM 167 11,oM 8 167,oZ 9]) .ret))))))))))))
theorem zHM(hB h:U2)(v:Value)(xs:List Int)(a b pv:Int)(e0:U8 hB h)(hmB:hB.mark<=hB.n)(o:We hB h v xs)(h0:0<=a)(hp:a<=pv/\pv<b)(hb:b<=xs.length)(hlen:xs.length<=1000000000):
  WC Tryz.prog tb 244 [v,I a,I b,I pv] h fun r h'=>∃ ys m w,r=.tuple #[I m,.bool w]/\SS hB h v a b xs ys h'/\(a<=m/\m<b)/\(∀ k,a<=k->k<m->WH ys k<=WH ys m)/\(∀ k,m<k->k<b->WH ys m<=WH ys k):=by
 have s0:=VT a b o e0;refine en 168 [(8,none),(9,none)] zQH ?_;refine VC 0 rfl rfl ?_;have srX:WM (inC (zC 0 h)) v xs:=(o).sl;refine WT ?_;refine VM (a) (pv) (s0).own (s0).ext (by rw[(s0).ext.mark];exact hmB) ?_;intro h1 e1 o1 u1;have s1:=s0.swp e1 o1 u1 h0 hb (by omega) (by omega);clear o1 e1 u1;generalize swp xs a pv=ys at s1;have hl1:=s1.len;refine go ?_;refine VD [30,31,32,33,34,35,36,37,38,39,40,41,42,43,44,45,10] (by kernel_rfl) (fun i=>(b-i).toNat) (fun(i:Int) t h2=>h1=h2/\zB t 10=I i/\(a+1<=i/\i<=b)/\∀ k,a<k->k<i->WH ys k<WH ys a) (a+1) ?_ ?_
 ·exact⟨rfl,WA,by omega,fun k h1 h2=>by omega⟩
 rintro i t _ hsame ⟨rfl,s10,hi,hlow⟩;refine go ?_;refine VJ [30,31,32,33,34,35,36,37,38,39,40,41,42,43] (by kernel_rfl) (fun t h'=>h1=h'/\zB t 43=.bool (decide (i<=b-1/\(WH ys i<WH ys a)))) ?_ ?_
 ·refine VC 0 rfl rfl ?_;have srX:WM (inC (zC 0 h1)) v ys:=(s1.own).sl;refine WT ?_;refine VI (fun hd=> ?_) (fun hd=> ?_)<;>simp only[DB]at hd<;>refine WT ?_
  ·refine VA (Zb _ (WH ys i) (WH ys a)) ?_;rintro _ _ ⟨rfl,rfl⟩;refine nQ ?_;refine WT ?_;exact zG ⟨rfl,by rw[show decide (i<=b-1/\(WH ys i<WH ys a))=decide (WH ys i<WH ys a)from zDu hd];exact WA⟩
  ·exact zG ⟨rfl,by rw[show decide (i<=b-1/\(WH ys i<WH ys a))=false from Qb (fun hh=>absurd hh.1 (by omega))];exact WA⟩
 rintro t2 _ hs2 ⟨rfl,q2⟩;refine go ?_;refine VE (fun he=> ?_) (fun he=> ?_)<;>simp only[DB]at he
 ·refine go ?_;refine zA (i+1) (by omega) ⟨rfl,WA,by omega,fun k h1 h2=> ?_⟩;by_cases e:k=i
  ·rw[e];exact he.2
  ·exact hlow k h1 (by omega)
 refine go ?_;refine VD [46,47,48,49,50,51,52,53,54,55,56,57,58,59,60,61,62,11] (by kernel_rfl) (fun j=>(j+1-a).toNat) (fun(j:Int) t h2=>h1=h2/\zB t 11=I j/\(i-1<=j/\j<=b-1)/\∀ k,j<k->k<b->WH ys a<=WH ys k) (b-1) ?_ ?_
 ·exact⟨rfl,WA,by omega,fun k h1 h2=>by omega⟩
 rintro j t _ hsame ⟨rfl,s11,hj,hhigh⟩;refine go ?_;refine VJ [46,47,48,49,50,51,52,53,54,55,56,57,58,59,60] (by kernel_rfl) (fun t h'=>h1=h'/\zB t 60=.bool (decide (i<=j/\¬(WH ys j<WH ys a)))) ?_ ?_
 ·refine VC 0 rfl rfl ?_;have srX:WM (inC (zC 0 h1)) v ys:=(s1.own).sl;refine WT ?_;refine VI (fun hd=> ?_) (fun hd=> ?_)<;>simp only[DB]at hd<;>refine WT ?_
  ·refine VA (Zb _ (WH ys j) (WH ys a)) ?_;rintro _ _ ⟨rfl,rfl⟩;refine nQ ?_;refine WT ?_;exact zG ⟨rfl,by rw[show decide (i<=j/\¬(WH ys j<WH ys a))= !decide (WH ys j<WH ys a)from zCa hd];exact WA⟩
  ·exact zG ⟨rfl,by rw[show decide (i<=j/\¬(WH ys j<WH ys a))=false from Qb (fun hh=>absurd hh.1 (by omega))];exact WA⟩
 rintro t3 _ hs3 ⟨rfl,q3⟩;refine go ?_;refine VE (fun hf=> ?_) (fun hf=> ?_)<;>simp only[DB]at hf
 ·refine go ?_;refine zA (j-1) (by omega) ⟨rfl,WA,by omega,fun k h1 h2=> ?_⟩;by_cases e:k=j
  ·rw[e];omega
  ·exact hhigh k (by omega) h2
 refine go ?_;refine VE (fun hg=> ?_) (fun hg=> ?_)<;>simp only[DB]at hg
 ·refine go ?_;refine VC 0 rfl rfl ?_;have srX:WM (inC (zC 0 h1)) v ys:=(s1.own).sl;refine WT ?_;refine VM (j) (a) (s1).own (s1).ext (by rw[(s1).ext.mark];exact hmB) ?_;intro h3 e3 o3 u3;have s3:=s1.swp e3 o3 u3 h0 hb (by omega) (by omega);refine gr ?_;refine⟨_,_,_,rfl,s3,by omega,fun k h1 h2=> ?_,fun k h1 h2=> ?_⟩
  ·rw[yY (by omega) (by omega) (by omega),yY (by omega) (by omega) (by omega)];by_cases e:k=a
   ·rw[QI e,QC (by omega),QI rfl];have:=hlow j (by omega) (by omega);omega
   ·rw[QC e,QC (by omega),QC (by omega),QI rfl];have:=hlow k (by omega) (by omega);omega
  ·rw[yY (by omega) (by omega) (by omega),yY (by omega) (by omega) (by omega)];rw[QC (by omega:¬k=a),QC (by omega:¬k=j)];have:=hhigh k (by omega) (by omega);by_cases e:j=a
   ·rw[QI e,e];exact this
   ·rw[QC e,QI rfl];exact this
 refine go ?_;refine VC 0 rfl rfl ?_;have srX:WM (inC (zC 0 h1)) v ys:=(s1.own).sl;refine WT ?_;refine VM (i) (j) (s1).own (s1).ext (by rw[(s1).ext.mark];exact hmB) ?_;intro h3 e3 o3 u3;have s3:=s1.swp e3 o3 u3 h0 hb (by omega) (by omega);have hi2:¬WH ys i<WH ys a:=fun hh=>he ⟨by omega,hh⟩;have hj2:WH ys j<WH ys a:=Int.not_le.1 fun hh=>hf ⟨by omega,hh⟩;have hij:i≠j:=fun e=>by subst e;exact hi2 hj2
 have hP:(a+1<=i+1/\i+1<=j-1+1/\j-1<=b-1)/\(∀ k,a<k->k<i+1->WH (swp ys i j) k<WH (swp ys i j) a)/\∀ k,j-1<k->k<b->WH (swp ys i j) a<=WH (swp ys i j) k:=by
  have ea:WH (swp ys i j) a=WH ys a:=by rw[yY (by omega) (by omega) (by omega),QC (by omega),QC (by omega)]
  rw[ea];refine⟨by omega,fun k h1 h2=> ?_,fun k h1 h2=> ?_⟩
  ·rw[yY (by omega) (by omega) (by omega),QC (by omega)];by_cases e:k=i
   ·rw[QI e];exact hj2
   ·rw[QC e];exact hlow k h1 (by omega)
  ·rw[yY (by omega) (by omega) (by omega)];by_cases e:k=j
   ·rw[QI e];omega
   ·rw[QC e,QC (by omega)];exact hhigh k (by omega) h2
 clear o3 e3 u3 hlow hhigh;generalize swp ys i j=zs at s3 hP;refine go ?_;refine VD [99,100,101,102,103,104,105,106,107,108,109,110,111,112,113,114,10,115,116,117,118,119,120,121,122,123,124,125,126,127,128,129,130,131,11,132,133,134,135,136,137,138,139,140,141,142,143,144,145,146,147,148,149,150,10,151,152,11] (by kernel_rfl) (fun x=>(x.2.2+1-x.2.1).toNat) (fun(x:List Int×Int×Int) t h4=>SS hB h v a b xs x.1 h4/\zB t 10=I x.2.1/\zB t 11=I x.2.2/\(a+1<=x.2.1/\x.2.1<=x.2.2+1/\x.2.2<=b-1)/\(∀ k,a<k->k<x.2.1->WH x.1 k<WH x.1 a)/\∀ k,x.2.2<k->k<b->WH x.1 a<=WH x.1 k) (zs,i+1,j-1) ?_ ?_
 ·exact⟨s3,WA,WA,hP.1,hP.2.1,hP.2.2⟩
 clear hP s3 s10 s11 he hf hg hi2 hj2 hij q2 q3 hi hj;rintro⟨ws,p,q⟩ t h4 hsame ⟨s4,s10,s11,hpq,hlow,hhigh⟩;simp only at s4 s10 s11 hpq hlow hhigh;have hl4:=s4.len;refine go ?_;refine VD [99,100,101,102,103,104,105,106,107,108,109,110,111,112,113,114,10] (by kernel_rfl) (fun i=>(b-i).toNat) (fun(i:Int) t h2=>h4=h2/\zB t 10=I i/\(p<=i/\i<=q+1)/\∀ k,a<k->k<i->WH ws k<WH ws a) p ?_ ?_
 ·exact⟨rfl,WA,by omega,hlow⟩
 rintro i2 t _ hsame ⟨rfl,s10,hi,hlow2⟩;refine go ?_;refine VJ [99,100,101,102,103,104,105,106,107,108,109,110,111,112] (by kernel_rfl) (fun t h'=>h4=h'/\zB t 112=.bool (decide (i2<=q/\(WH ws i2<WH ws a)))) ?_ ?_
 ·refine VC 0 rfl rfl ?_;have srX:WM (inC (zC 0 h4)) v ws:=(s4.own).sl;refine WT ?_;refine VI (fun hd=> ?_) (fun hd=> ?_)<;>simp only[DB]at hd<;>refine WT ?_
  ·refine VA (Zb _ (WH ws i2) (WH ws a)) ?_;rintro _ _ ⟨rfl,rfl⟩;refine nQ ?_;refine WT ?_;exact zG ⟨rfl,by rw[show decide (i2<=q/\(WH ws i2<WH ws a))=decide (WH ws i2<WH ws a)from zDu hd];exact WA⟩
  ·exact zG ⟨rfl,by rw[show decide (i2<=q/\(WH ws i2<WH ws a))=false from Qb (fun hh=>absurd hh.1 (by omega))];exact WA⟩
 rintro t5 _ hs5 ⟨rfl,q5⟩;refine go ?_;refine VE (fun he=> ?_) (fun he=> ?_)<;>simp only[DB]at he
 ·refine go ?_;refine zA (i2+1) (by omega) ⟨rfl,WA,by omega,fun k h1 h2=> ?_⟩;by_cases e:k=i2
  ·rw[e];exact he.2
  ·exact hlow2 k h1 (by omega)
 refine go ?_;refine VD [115,116,117,118,119,120,121,122,123,124,125,126,127,128,129,130,131,11] (by kernel_rfl) (fun j=>(j+1-a).toNat) (fun(j:Int) t h2=>h4=h2/\zB t 11=I j/\(i2-1<=j/\j<=q)/\∀ k,j<k->k<b->WH ws a<=WH ws k) q ?_ ?_
 ·exact⟨rfl,WA,by omega,hhigh⟩
 rintro j2 t _ hsame ⟨rfl,s11,hj,hhigh2⟩;refine go ?_;refine VJ [115,116,117,118,119,120,121,122,123,124,125,126,127,128,129] (by kernel_rfl) (fun t h'=>h4=h'/\zB t 129=.bool (decide (i2<=j2/\¬(WH ws j2<WH ws a)))) ?_ ?_
 ·refine VC 0 rfl rfl ?_;have srX:WM (inC (zC 0 h4)) v ws:=(s4.own).sl;refine WT ?_;refine VI (fun hd=> ?_) (fun hd=> ?_)<;>simp only[DB]at hd<;>refine WT ?_
  ·refine VA (Zb _ (WH ws j2) (WH ws a)) ?_;rintro _ _ ⟨rfl,rfl⟩;refine nQ ?_;refine WT ?_;exact zG ⟨rfl,by rw[show decide (i2<=j2/\¬(WH ws j2<WH ws a))= !decide (WH ws j2<WH ws a)from zCa hd];exact WA⟩
  ·exact zG ⟨rfl,by rw[show decide (i2<=j2/\¬(WH ws j2<WH ws a))=false from Qb (fun hh=>absurd hh.1 (by omega))];exact WA⟩
 rintro t6 _ hs6 ⟨rfl,q6⟩;refine go ?_;refine VE (fun hf=> ?_) (fun hf=> ?_)<;>simp only[DB]at hf
 ·refine go ?_;refine zA (j2-1) (by omega) ⟨rfl,WA,by omega,fun k h1 h2=> ?_⟩;by_cases e:k=j2
  ·rw[e];omega
  ·exact hhigh2 k (by omega) h2
 refine go ?_;refine VE (fun hg=> ?_) (fun hg=> ?_)<;>simp only[DB]at hg
 ·refine go ?_;refine VC 0 rfl rfl ?_;have srX:WM (inC (zC 0 h4)) v ws:=(s4.own).sl;refine WT ?_;refine VM (j2) (a) (s4).own (s4).ext (by rw[(s4).ext.mark];exact hmB) ?_;intro h3 e3 o3 u3;have s3:=s4.swp e3 o3 u3 h0 hb (by omega) (by omega);refine gr ?_;refine⟨_,_,_,rfl,s3,by omega,fun k h1 h2=> ?_,fun k h1 h2=> ?_⟩
  ·rw[yY (by omega) (by omega) (by omega),yY (by omega) (by omega) (by omega)];by_cases e:k=a
   ·rw[QI e,QC (by omega),QI rfl];have:=hlow2 j2 (by omega) (by omega);omega
   ·rw[QC e,QC (by omega),QC (by omega),QI rfl];have:=hlow2 k (by omega) (by omega);omega
  ·rw[yY (by omega) (by omega) (by omega),yY (by omega) (by omega) (by omega)];rw[QC (by omega:¬k=a),QC (by omega:¬k=j2)];have:=hhigh2 k (by omega) (by omega);by_cases e:j2=a
   ·rw[QI e,e];exact this
   ·rw[QC e,QI rfl];exact this
 refine go ?_;refine VC 0 rfl rfl ?_;have srX:WM (inC (zC 0 h4)) v ws:=(s4.own).sl;refine WT ?_;refine VM (i2) (j2) (s4).own (s4).ext (by rw[(s4).ext.mark];exact hmB) ?_;intro h3 e3 o3 u3;have s3:=s4.swp e3 o3 u3 h0 hb (by omega) (by omega);have hi2:¬WH ws i2<WH ws a:=fun hh=>he ⟨by omega,hh⟩;have hj2:WH ws j2<WH ws a:=Int.not_le.1 fun hh=>hf ⟨by omega,hh⟩;have hij:i2≠j2:=fun e=>by subst e;exact hi2 hj2
 have ea:WH (swp ws i2 j2) a=WH ws a:=by rw[yY (by omega) (by omega) (by omega),QC (by omega),QC (by omega)]
 refine go ?_;refine zA (swp ws i2 j2,i2+1,j2-1) (by simp only;omega) ⟨s3,WA,WA,by simp only;omega,fun k h1 h2=> ?_,fun k h1 h2=> ?_⟩
 ·simp only at h2 |-;rw[ea,yY (by omega) (by omega) (by omega),QC (by omega)];by_cases e:k=i2
  ·rw[QI e];exact hj2
  ·rw[QC e];exact hlow2 k h1 (by omega)
 ·simp only at h1 |-;rw[ea,yY (by omega) (by omega) (by omega)];by_cases e:k=j2
  ·rw[QI e];omega
  ·rw[QC e,QC (by omega)];exact hhigh2 k (by omega) h2
set_option maxRecDepth 100000
def zMP:U3:=(oV (oV (o6 [oM 29 9,oM 30 10,oB .leq 31 29 30,oM 32 31,oG 32 (oM 33 0),oG 32 (oM 34 1),oG 32 (oI 1 35 33 34),oG 32 (oL 36 35),oG 32 (oM 37 0),oG 32 (oM 38 9),oG 32 (oI 1 39 37 38),oG 32 (oL 40 39),oG 32 (o2 41 242 36 40),oG 32 (oW 42 41),oP 43 32 42]) (oT 43 2)) (o5 3 (oR [oM 44 9,oC .add 45 44 1,oM 9 45])))
def zMw:U3:=(oV (oV (o6 [oM 46 9,oM 47 10,oB .leq 48 46 47,oM 49 48,oG 49 (oM 50 0),oG 49 (oM 51 1),oG 49 (oI 1 52 50 51),oG 49 (oL 53 52),oG 49 (oM 54 0),oG 49 (oM 55 10),oG 49 (oI 1 56 54 55),oG 49 (oL 57 56),oG 49 (o2 58 242 53 57),oP 59 49 58]) (oT 59 4)) (o5 5 (oR [oM 60 10,oC .sub 61 60 1,oM 10 61])))
def zLl:U3:=(o5 1 (oV (o5 2 (.loop zMP)) (oV (o5 4 (.loop zMw)) (oV (oV (oR [oM 62 9,oM 63 10,oB .gtr 64 62 63]) (oJ 64 (.exit 0) .skip)) (oV (o6 [oM 65 0,oM 66 9,oM 67 0,oM 68 10,oM 69 0,oM 70 10,oI 1 71 69 70,oL 72 71,oM 73 0,oM 74 9,oI 1 75 73 74,oL 76 75,oI 1 77 65 66,oS 1 77 72,oI 1 78 67 68,oS 1 78 76]) (oV (oR [oM 79 9,oC .add 80 79 1,oM 9 80]) (oR [oM 81 10,oC .sub 82 81 1,oM 10 82])))))))
def zQM:U3:=(oV (oR [oN 8 0]) (oV (o6 [oM 11 0,oM 12 1,oM 13 0,oM 14 3,oM 15 0,oM 16 3,oI 1 17 15 16,oL 18 17,oM 19 0,oM 20 1,oI 1 21 19 20,oL 22 21,oI 1 23 11 12,oS 1 23 18,oI 1 24 13 14,oS 1 24 22]) (oV (oR [oM 25 1,oC .add 26 25 1,oM 27 2,oC .sub 28 27 1,oM 9 26,oM 10 28]) (oV (o5 0 (.loop zLl)) (oV (oR [oM 83 9,oM 8 83]) .ret)))))
theorem zHV(hB h:U2)(v:Value)(xs:List Int)(a b pv:Int)(e0:U8 hB h)(hmB:hB.mark<=hB.n)(o:We hB h v xs)(h0:0<=a)(hp:a<=pv/\pv<b)(hb:b<=xs.length)(hlen:xs.length<=1000000000):
  WC Tryz.prog tb 243 [v,I a,I b,I pv] h fun r h'=>∃ ys m,r=I m/\SS hB h v a b xs ys h'/\(a+1<=m/\m<=b)/\(∀ k,a<=k->k<m->WH ys k<=WH xs pv)/\(∀ k,m<=k->k<b->WH xs pv<WH ys k):=by
 have s0:=VT a b o e0;refine en 84 [(8,none)] zQM ?_;refine VC 0 rfl rfl ?_;have srX:WM (inC (zC 0 h)) v xs:=(o).sl;refine WT ?_;refine VM (a) (pv) (s0).own (s0).ext (by rw[(s0).ext.mark];exact hmB) ?_;intro h1 e1 o1 u1;have s1:=s0.swp e1 o1 u1 h0 hb (by omega) (by omega);clear o1 e1 u1;have ha:WH (swp xs a pv) a=WH xs pv:=by
  rw[yY (by omega) (by omega) (by omega)];by_cases e:a=pv
  ·rw[QI e,e]
  ·rw[QC e,QI rfl]
 generalize swp xs a pv=ys at s1 ha;generalize WH xs pv=P at ha |-;have hl1:=s1.len;refine go ?_;refine VD [29,30,31,32,33,34,35,36,37,38,39,40,41,42,43,44,45,9,46,47,48,49,50,51,52,53,54,55,56,57,58,59,60,61,10,62,63,64,65,66,67,68,69,70,71,72,73,74,75,76,77,78,79,80,9,81,82,10] (by kernel_rfl) (fun x=>(x.2.2+1-x.2.1).toNat) (fun(x:List Int×Int×Int) t h4=>SS hB h v a b xs x.1 h4/\zB t 9=I x.2.1/\zB t 10=I x.2.2/\(a+1<=x.2.1/\x.2.1<=x.2.2+1/\x.2.2<=b-1)/\WH x.1 a=P/\(∀ k,a<k->k<x.2.1->WH x.1 k<=P)/\∀ k,x.2.2<k->k<b->P<WH x.1 k) (ys,a+1,b-1) ?_ ?_
 ·exact⟨s1,WA,WA,by simp only;omega,ha,fun k h1 h2=>by simp only at h2;omega,fun k h1 h2=>by simp only at h1;omega⟩
 clear s1 ha hl1;rintro⟨ws,p,q⟩ t h4 hsame ⟨s4,s9,s10,hpq,ha,hlow,hhigh⟩;simp only at s4 s9 s10 hpq ha hlow hhigh;have hl4:=s4.len;refine go ?_;refine VD [29,30,31,32,33,34,35,36,37,38,39,40,41,42,43,44,45,9] (by kernel_rfl) (fun i=>(b-i).toNat) (fun(i:Int) t h2=>h4=h2/\zB t 9=I i/\(p<=i/\i<=q+1)/\∀ k,a<k->k<i->WH ws k<=P) p ?_ ?_
 ·exact⟨rfl,WA,by omega,hlow⟩
 rintro i2 t _ hsame ⟨rfl,s9,hi,hlow2⟩;refine go ?_;refine VJ [29,30,31,32,33,34,35,36,37,38,39,40,41,42,43] (by kernel_rfl) (fun t h'=>h4=h'/\zB t 43=.bool (decide (i2<=q/\¬(WH ws a<WH ws i2)))) ?_ ?_
 ·refine VC 0 rfl rfl ?_;have srX:WM (inC (zC 0 h4)) v ws:=(s4.own).sl;refine WT ?_;refine VI (fun hd=> ?_) (fun hd=> ?_)<;>simp only[DB]at hd<;>refine WT ?_
  ·refine VA (Zb _ (WH ws a) (WH ws i2)) ?_;rintro _ _ ⟨rfl,rfl⟩;refine nQ ?_;refine WT ?_;exact zG ⟨rfl,by rw[show decide (i2<=q/\¬(WH ws a<WH ws i2))= !decide (WH ws a<WH ws i2)from zCa hd];exact WA⟩
  ·exact zG ⟨rfl,by rw[show decide (i2<=q/\¬(WH ws a<WH ws i2))=false from Qb (fun hh=>absurd hh.1 (by omega))];exact WA⟩
 rintro t5 _ hs5 ⟨rfl,q5⟩;refine go ?_;refine VE (fun he=> ?_) (fun he=> ?_)<;>simp only[DB]at he
 ·refine go ?_;refine zA (i2+1) (by omega) ⟨rfl,WA,by omega,fun k h1 h2=> ?_⟩;by_cases e:k=i2
  ·rw[e];omega
  ·exact hlow2 k h1 (by omega)
 refine go ?_;refine VD [46,47,48,49,50,51,52,53,54,55,56,57,58,59,60,61,10] (by kernel_rfl) (fun j=>(j+1-a).toNat) (fun(j:Int) t h2=>h4=h2/\zB t 10=I j/\(i2-1<=j/\j<=q)/\∀ k,j<k->k<b->P<WH ws k) q ?_ ?_
 ·exact⟨rfl,WA,by omega,hhigh⟩
 rintro j2 t _ hsame ⟨rfl,s10,hj,hhigh2⟩;refine go ?_;refine VJ [46,47,48,49,50,51,52,53,54,55,56,57,58,59] (by kernel_rfl) (fun t h'=>h4=h'/\zB t 59=.bool (decide (i2<=j2/\(WH ws a<WH ws j2)))) ?_ ?_
 ·refine VC 0 rfl rfl ?_;have srX:WM (inC (zC 0 h4)) v ws:=(s4.own).sl;refine WT ?_;refine VI (fun hd=> ?_) (fun hd=> ?_)<;>simp only[DB]at hd<;>refine WT ?_
  ·refine VA (Zb _ (WH ws a) (WH ws j2)) ?_;rintro _ _ ⟨rfl,rfl⟩;refine nQ ?_;refine WT ?_;exact zG ⟨rfl,by rw[show decide (i2<=j2/\(WH ws a<WH ws j2))=decide (WH ws a<WH ws j2)from zDu hd];exact WA⟩
  ·exact zG ⟨rfl,by rw[show decide (i2<=j2/\(WH ws a<WH ws j2))=false from Qb (fun hh=>absurd hh.1 (by omega))];exact WA⟩
 rintro t6 _ hs6 ⟨rfl,q6⟩;refine go ?_;refine VE (fun hf=> ?_) (fun hf=> ?_)<;>simp only[DB]at hf
 ·refine go ?_;refine zA (j2-1) (by omega) ⟨rfl,WA,by omega,fun k h1 h2=> ?_⟩;by_cases e:k=j2
  ·rw[e];omega
  ·exact hhigh2 k (by omega) h2
 refine go ?_;refine VE (fun hg=> ?_) (fun hg=> ?_)<;>simp only[DB]at hg
 ·refine gr ?_;refine⟨_,_,rfl,s4,by omega,fun k h1 h2=> ?_,fun k h1 h2=> ?_⟩
  ·by_cases e:k=a
   ·rw[e,ha];exact Qk _
   ·exact hlow2 k (by omega) h2
  ·exact hhigh2 k (by omega) h2
 have hi2:P<WH ws i2:=by
  rw[<-ha];exact Int.not_le.1 fun hh=>he ⟨by omega,hh⟩
 have hj2:WH ws j2<=P:=by
  rw[<-ha];exact Int.not_lt.1 fun hh=>hf ⟨by omega,hh⟩
 have hij:i2≠j2:=fun e=>by subst e;omega
 refine go ?_;refine VC 0 rfl rfl ?_;have srX:WM (inC (zC 0 h4)) v ws:=(s4.own).sl;refine WT ?_;refine VM (i2) (j2) (s4).own (s4).ext (by rw[(s4).ext.mark];exact hmB) ?_;intro h3 e3 o3 u3;have s3:=s4.swp e3 o3 u3 h0 hb (by omega) (by omega);refine go ?_;refine zA (swp ws i2 j2,i2+1,j2-1) (by simp only;omega) ⟨s3,WA,WA,by simp only;omega,?_,fun k h1 h2=> ?_,fun k h1 h2=> ?_⟩
 ·simp only;rw[yY (by omega) (by omega) (by omega),QC (by omega),QC (by omega)];exact ha
 ·simp only at h2 |-;rw[yY (by omega) (by omega) (by omega),QC (by omega)];by_cases e:k=i2
  ·rw[QI e];exact hj2
  ·rw[QC e];exact hlow2 k h1 (by omega)
 ·simp only at h1 |-;rw[yY (by omega) (by omega) (by omega)];by_cases e:k=j2
  ·rw[QI e];omega
  ·rw[QC e,QC (by omega)];exact hhigh2 k (by omega) h2
def zMg:U3:=(oV (oV (oR [oM 11 6,oM 12 7,oB .lss 13 11 12]) (oT 13 0)) (o5 1 (oV (o6 [oM 14 0,oM 15 6,oM 16 0,oM 17 7,oM 18 0,oM 19 7,oI 1 20 18 19,oL 21 20,oM 22 0,oM 23 6,oI 1 24 22 23,oL 25 24,oI 1 26 14 15,oS 1 26 21,oI 1 27 16 17,oS 1 27 25]) (oV (oR [oM 28 6,oC .add 29 28 1,oM 6 29]) (oR [oM 30 7,oC .sub 31 30 1,oM 7 31])))))
def zSi:U3:=(oV (oR [oM 8 1,oM 6 8]) (oV (oR [oM 9 2,oC .sub 10 9 1,oM 7 10]) (o5 0 (.loop zMg))))
theorem zJv(hB h:U2)(v:Value)(xs:List Int)(a b:Int)(e0:U8 hB h)(hmB:hB.mark<=hB.n)(o:We hB h v xs)(h0:0<=a)(hab:a<=b)(hb:b<=xs.length)(hlen:xs.length<=1000000000):
  WC Tryz.prog tb 240 [v,I a,I b] h fun r h'=>∃ ys,SS hB h v a b xs ys h':=by
 have s0:=VT a b o e0;refine en 32 [] zSi ?_;refine VD [11,12,13,14,15,16,17,18,19,20,21,22,23,24,25,26,27,28,29,6,30,31,7] (by kernel_rfl) (fun x=>(x.2.2+1-x.2.1).toNat) (fun(x:List Int×Int×Int) t h4=>SS hB h v a b xs x.1 h4/\zB t 6=I x.2.1/\zB t 7=I x.2.2/\(a<=x.2.1/\x.2.2<=b-1)/\(x.2.1<=b/\a-1<=x.2.2)) (xs,a,b-1) ?_ ?_
 ·exact⟨s0,WA,WA,by simp only;omega,by simp only;omega⟩
 rintro⟨ws,p,q⟩ t h4 hsame ⟨s4,s6,s7,hpq,hpq2⟩;simp only at s4 s6 s7 hpq hpq2;have hl4:=s4.len;refine go ?_;refine VE (fun he=> ?_) (fun he=> ?_)<;>simp only[DB]at he
 ·refine go ?_;refine VC 0 rfl rfl ?_;have srX:WM (inC (zC 0 h4)) v ws:=(s4.own).sl;refine WT ?_;refine VM (p) (q) (s4).own (s4).ext (by rw[(s4).ext.mark];exact hmB) ?_;intro h3 e3 o3 u3;have s3:=s4.swp e3 o3 u3 h0 hb (by omega) (by omega);refine go ?_;exact zA (swp ws p q,p+1,q-1) (by simp only;omega) ⟨s3,WA,WA,by simp only;omega,by simp only;omega⟩
 ·refine go ?_;refine BB ?_;exact⟨ws,s4⟩
def zGK(lo hi k c:Int):Prop:=lo<=k/\(c=2*k+1\/c=2*k+2)/\c<hi
def zF8(first lo hi:Int)(xs:List Int):Prop:=∀ k c,zGK lo hi k c->WH xs (first+c)<=WH xs (first+k)
theorem zNt{first hi:Int}{xs:List Int}(h:zF8 first 0 hi xs):∀ (n:Nat) (k:Int),k=n->k<hi->WH xs (first+k)<=WH xs (first+0):=by
 intro n;induction n using Nat.strongRecOn with
 |_ n ih=>
  intro k hk hlt;by_cases e:k=0
  ·rw[e];exact Qk _
  ·have h1:=h ((k-1) / 2) k ⟨by omega,by omega,hlt⟩;have h2:=ih ((k-1) / 2).toNat (by omega) ((k-1) / 2) (by omega) (by omega);omega
def zLi:U3:=(o5 1 (oV (oR [oM 11 8,⟨some 12,none,(.bin .mul (.const (.int .i64 2)) (.tmp 11))⟩,oC .add 13 12 1,oM 9 13]) (oV (oV (oR [oM 14 9,oM 15 2,oB .geq 16 14 15]) (oJ 16 (.exit 0) .skip)) (oV (oV (o6 [oM 17 9,oC .add 18 17 1,oM 19 2,oB .lss 20 18 19,oM 21 20,oG 21 (oM 22 0),oG 21 (oM 23 3),oG 21 (oM 24 9),oG 21 (oB .add 25 23 24),oG 21 (oI 1 26 22 25),oG 21 (oL 27 26),oG 21 (oM 28 0),oG 21 (oM 29 3),oG 21 (oM 30 9),oG 21 (oB .add 31 29 30),oG 21 (oC .add 32 31 1),oG 21 (oI 1 33 28 32),oG 21 (oL 34 33),oG 21 (o2 35 242 27 34),oP 36 21 35]) (oJ 36 (oR [oM 37 9,oC .add 38 37 1,oM 9 38]) .skip)) (oV (oV (o6 [oM 39 0,oM 40 3,oM 41 8,oB .add 42 40 41,oI 1 43 39 42,oL 44 43,oM 45 0,oM 46 3,oM 47 9,oB .add 48 46 47,oI 1 49 45 48,oL 50 49,o2 51 242 44 50,oW 52 51]) (oJ 52 .ret .skip)) (oV (o6 [oM 53 0,oM 54 3,oM 55 8,oB .add 56 54 55,oM 57 0,oM 58 3,oM 59 9,oB .add 60 58 59,oM 61 0,oM 62 3,oM 63 9,oB .add 64 62 63,oI 1 65 61 64,oL 66 65,oM 67 0,oM 68 3,oM 69 8,oB .add 70 68 69,oI 1 71 67 70,oL 72 71,oI 1 73 53 56,oS 1 73 66,oI 1 74 57 60,oS 1 74 72]) (oR [oM 75 9,oM 8 75])))))))
def zRE:U3:=(oV (oR [oM 10 1,oM 8 10]) (o5 0 (.loop zLi)))
theorem zKh(hB h:U2)(v:Value)(xs:List Int)(lo hi first:Int)(e0:U8 hB h)(hmB:hB.mark<=hB.n)(o:We hB h v xs)(h0:0<=lo)(hlo:lo<=1000000000)(hf:0<=first)(hb:first+hi<=xs.length)(hlen:xs.length<=1000000000)(hh:zF8 first (lo+1) hi xs):
  WC Tryz.prog tb 251 [v,I lo,I hi,I first] h fun r h'=>∃ ys,SS hB h v (first+lo) (first+hi) xs ys h'/\zF8 first lo hi ys:=by
 have s0:=VT (first+lo) (first+hi) o e0;refine en 76 [] zRE ?_;refine VD [11,12,13,9,14,15,16,17,18,19,20,21,22,23,24,25,26,27,28,29,30,31,32,33,34,35,36,37,38,9,39,40,41,42,43,44,45,46,47,48,49,50,51,52,53,54,55,56,57,58,59,60,61,62,63,64,65,66,67,68,69,70,71,72,73,74,75,8] (by kernel_rfl) (fun x=>(hi+1-x.2).toNat) (fun(x:List Int×Int) t h4=>SS hB h v (first+lo) (first+hi) xs x.1 h4/\zB t 8=I x.2/\(lo<=x.2/\(x.2=lo\/x.2<hi))/\(∀ k c,zGK lo hi k c->k≠x.2->WH x.1 (first+c)<=WH x.1 (first+k))/\∀ k c,zGK lo hi k x.2->zGK lo hi x.2 c->WH x.1 (first+c)<=WH x.1 (first+k)) (xs,lo) ?_ ?_
 ·refine⟨s0,WA,⟨Qk _,.inl rfl⟩,fun k c hk hne=>hh k c ⟨by have:=hk.1;simp only at hne;omega,hk.2⟩,fun k c h1 h2=> ?_⟩;obtain⟨a1,a2,a3⟩:=h1;simp only at a2;omega
 rintro⟨ws,r⟩ t h4 hsame ⟨s4,s8,hr,i1,i2⟩;simp only at s4 s8 hr i1 i2;have hl4:=s4.len;refine go ?_;refine VE (fun he=> ?_) (fun he=> ?_)<;>simp only[DB]at he
 ·refine go ?_;refine BB ?_;refine⟨ws,s4,fun k c hk=> ?_⟩;by_cases e:k=r
  ·obtain⟨a1,a2,a3⟩:=hk;subst e;omega
  ·exact i1 k c hk e
 refine go ?_;refine VJ [17,18,19,20,21,22,23,24,25,26,27,28,29,30,31,32,33,34,35,36] (by kernel_rfl) (fun t h'=>h4=h'/\zB t 36=.bool (decide (2*r+1+1<hi/\(WH ws (first+(2*r+1))<WH ws (first+(2*r+1)+1))))) ?_ ?_
 ·refine VC 0 rfl rfl ?_;have srX:WM (inC (zC 0 h4)) v ws:=(s4.own).sl;refine WT ?_;refine VI (fun hd=> ?_) (fun hd=> ?_)<;>simp only[DB]at hd<;>refine WT ?_
  ·refine VA (Zb _ (WH ws (first+(2*r+1))) (WH ws (first+(2*r+1)+1))) ?_;rintro _ _ ⟨rfl,rfl⟩;refine nQ ?_;refine WT ?_;exact zG ⟨rfl,by rw[show decide (2*r+1+1<hi/\(WH ws (first+(2*r+1))<WH ws (first+(2*r+1)+1)))=decide (WH ws (first+(2*r+1))<WH ws (first+(2*r+1)+1))from zDu hd];exact WA⟩
  ·exact zG ⟨rfl,by rw[show decide (2*r+1+1<hi/\(WH ws (first+(2*r+1))<WH ws (first+(2*r+1)+1)))=false from Qb (fun hh=>absurd hh.1 (by omega))];exact WA⟩
 rintro t5 _ hs5 ⟨rfl,q5⟩;have hcut:∀ c:Int,(c=2*r+1\/c=2*r+2)->c<hi->(∀ d,zGK lo hi r d->WH ws (first+d)<=WH ws (first+c))->∀ (t:U7 Value) (K:WB->WF->U2->Prop),True:=fun _ _ _ _ _ _=>trivial;refine go ?_;refine VJ [37,38,9] (by kernel_rfl) (fun t h'=>h4=h'/\∃ c:Int,zB t 9=I c/\(c=2*r+1\/c=2*r+2)/\c<hi/\∀ d,zGK lo hi r d->WH ws (first+d)<=WH ws (first+c)) ?_ ?_
 ·refine VE (fun hg=> ?_) (fun hg=> ?_)<;>simp only[DB]at hg<;>refine go ?_
  ·refine zG ⟨rfl,2*r+1+1,WA,by omega,by omega,fun d hd=> ?_⟩;obtain⟨_,a2,_⟩:=hd;have e1:first+(2*r+1)+1=first+(2*r+1+1):=by omega
   rw[e1]at hg;rcases a2 with rfl|rfl
   ·omega
   ·have:first+(2*r+2)=first+(2*r+1+1):=by omega
    rw[this];exact Qk _
  ·refine zG ⟨rfl,2*r+1,WA,by omega,by omega,fun d hd=> ?_⟩;obtain⟨_,a2,a3⟩:=hd;rcases a2 with rfl|rfl
   ·exact Qk _
   ·have e1:first+(2*r+1)+1=first+(2*r+2):=by omega
    rw[e1]at hg;exact Int.not_lt.1 fun hh=>hg ⟨by omega,hh⟩
 clear hcut;rintro t7 _ hs7 ⟨rfl,c,q7,hc,hc2,hmax⟩;refine go ?_;refine VC 0 rfl rfl ?_;have srX:WM (inC (zC 0 h4)) v ws:=(s4.own).sl;refine WT ?_;refine VA (Zb _ (WH ws (first+r)) (WH ws (first+c))) ?_;rintro _ _ ⟨rfl,rfl⟩;refine nQ ?_;refine WT ?_;rw[zAp];refine VE (fun hg=> ?_) (fun hg=> ?_)<;>simp only[DB]at hg
 ·refine gr ?_;refine⟨ws,s4,fun k d hk=> ?_⟩;by_cases e:k=r
  ·subst e;have:=hmax d hk;omega
  ·exact i1 k d hk e
 refine go ?_;refine VC 0 rfl rfl ?_;have srX:WM (inC (zC 0 h4)) v ws:=(s4.own).sl;refine WT ?_;refine VM (first+r) (first+c) (s4).own (s4).ext (by rw[(s4).ext.mark];exact hmB) ?_;intro h3 e3 o3 u3;have s3:=s4.swp e3 o3 u3 (by omega) hb (by omega) (by omega);refine go ?_;have hat:∀ k,0<=k->WH (swp ws (first+r) (first+c)) (first+k)=if k=c then WH ws (first+r)else if k=r then WH ws (first+c)else WH ws (first+k):=by
  intro k hk;rw[yY (by omega) (by omega) (by omega)];have e1:(first+k=first+c)↔k=c:=by omega
  have e2:(first+k=first+r)↔k=r:=by omega
  simp only[e1,e2]
 refine zA (swp ws (first+r) (first+c),c) (by simp only;omega) ⟨s3,WA,by simp only;omega,fun k d hk hne=> ?_,fun k d hk hd=> ?_⟩
 ·simp only at hne |-;have hk':=hk;obtain⟨a1,a2,a3⟩:=hk';rw[hat d (by omega),hat k (by omega),QC hne];by_cases e:k=r
  ·rw[QI e];subst e;by_cases e2:d=c
   ·rw[QI e2];omega
   ·rw[QC e2,QC (by omega)];exact hmax d hk
  ·rw[QC e,QC (by omega:¬d=c)];by_cases e2:d=r
   ·rw[QI e2];subst e2;exact i2 k c hk ⟨hr.1,hc,hc2⟩
   ·rw[QC e2];exact i1 k d hk e
 ·simp only at hk hd |-;obtain⟨a1,a2,a3⟩:=hk;have ek:k=r:=by omega
  have hd':=hd;obtain⟨b1,b2,b3⟩:=hd';rw[hat d (by omega),hat k (by omega),QC (by omega),QC (by omega),QC (by omega),QI ek];exact i1 c d hd (by omega)
def zMF:U3:=(oV (oV (oR [oM 18 9,oC .geq 19 18 0]) (oT 19 0)) (oV (o5 1 (oR [oM 22 0,oM 23 9,oM 24 8,oM 25 6,o4 26 251 22 23 24 25])) (oR [oM 20 9,oC .sub 21 20 1,oM 9 21])))
def zLC:U3:=(oV (oV (oR [oM 29 10,oC .geq 30 29 0]) (oT 30 2)) (oV (o5 3 (oV (o6 [oM 33 0,oM 34 6,oM 35 0,oM 36 6,oM 37 10,oB .add 38 36 37,oM 39 0,oM 40 6,oM 41 10,oB .add 42 40 41,oI 1 43 39 42,oL 44 43,oM 45 0,oM 46 6,oI 1 47 45 46,oL 48 47,oI 1 49 33 34,oS 1 49 44,oI 1 50 35 38,oS 1 50 48]) (oR [oM 51 0,oM 52 7,oM 53 10,oM 54 6,o4 55 251 51 52 53 54]))) (oR [oM 31 10,oC .sub 32 31 1,oM 10 32])))
def zRC:U3:=(oV (oR [oM 11 1,oM 6 11]) (oV (oR [oN 7 0]) (oV (oR [oM 12 2,oM 13 1,oB .sub 14 12 13,oM 8 14]) (oV (oV (oR [oM 15 8,oC .sub 16 15 1,oC .quo 17 16 2,oM 9 17]) (o5 0 (.loop zMF))) (oV (oR [oM 27 8,oC .sub 28 27 1,oM 10 28]) (o5 2 (.loop zLC)))))))
theorem zSe(hB h:U2)(v:Value)(xs:List Int)(a b:Int)(e0:U8 hB h)(hmB:hB.mark<=hB.n)(o:We hB h v xs)(h0:0<=a)(hab:a<=b)(hb:b<=xs.length)(hlen:xs.length<=1000000000):
  WC Tryz.prog tb 237 [v,I a,I b] h fun r h'=>∃ ys,SS hB h v a b xs ys h'/\BU a b ys:=by
 have s0:=VT a b o e0;refine en 56 [] zRC ?_;have hq:(b-a-1).tdiv 2<=b-a/\0<=(b-a-1).tdiv 2/\b-a-2<=2*(b-a-1).tdiv 2:=by
  by_cases e:b-a=0
  ·rw[e];decide
  ·rw[G5 (by omega)];omega
 refine go ?_;refine WO.quo (a:=b-a-1) (c:=2) (by decide) (by omega) (by omega) ?_;refine go ?_;refine VD [18,19,22,23,24,25,26,20,21,9] (by kernel_rfl) (fun x=>(x.2+1).toNat) (fun(x:List Int×Int) t h4=>SS hB h v a b xs x.1 h4/\zB t 9=I x.2/\(-1<=x.2/\x.2<=b-a)/\zF8 a (x.2+1) (b-a) x.1) (xs,(b-a-1).tdiv 2) ?_ ?_
 ·refine⟨s0,WA,by simp only;omega,fun k c hk=> ?_⟩;obtain⟨a1,a2,a3⟩:=hk;simp only at a1;omega
 rintro⟨ws,i⟩ t h4 hsame ⟨s4,s9,hi,hh⟩;simp only at s4 s9 hi hh;have hl4:=s4.len;refine go ?_;refine VE (fun he=> ?_) (fun he=> ?_)<;>simp only[DB]at he
 ·refine go ?_;refine VA (zKh hB h4 v ws i (b-a) a s4.ext hmB s4.own (by omega) (by omega) h0 (by omega) (by omega) hh) ?_;rintro _ h5 ⟨ys,s5,hh5⟩;refine go ?_;exact zA (ys,i-1) (by simp only;omega) ⟨s4.call s5 (by omega) (by omega),WA,by simp only;omega,by simp only;rw[show i-1+1=i by omega];exact hh5⟩
 have hi1:i= -1:=by omega
 subst hi1;refine go ?_;have hh0:zF8 a 0 (b-a-1+1) ws:=by rw[show b-a-1+1=b-a by omega];exact hh
 clear hh s9 he hi;refine VD [29,30,33,34,35,36,37,38,39,40,41,42,43,44,45,46,47,48,49,50,51,52,53,54,55,31,32,10] (by kernel_rfl) (fun x=>(x.2+1).toNat) (fun(x:List Int×Int) t h5=>SS hB h v a b xs x.1 h5/\zB t 10=I x.2/\(-1<=x.2/\x.2<=b-a-1)/\zF8 a 0 (x.2+1) x.1/\BU (a+x.2+1) b x.1/\∀ p q,a<=p->p<=a+x.2->a+x.2<q->q<b->WH x.1 p<=WH x.1 q) (ws,b-a-1) ?_ ?_
 ·exact⟨s4,WA,by simp only;omega,hh0,VX (by simp only;omega),fun p q h1 h2 h3 h4=>by simp only at h3;omega⟩
 clear hh0 s4 hl4;rintro⟨zs,i⟩ t h4 hsame ⟨s4,s10,hi,hh,hs,hl⟩;simp only at s4 s10 hi hh hs hl;have hl4:=s4.len;refine go ?_;refine VE (fun he=> ?_) (fun he=> ?_)<;>simp only[DB]at he
 ·refine go ?_;refine VC 0 rfl rfl ?_;have srX:WM (inC (zC 0 h4)) v zs:=(s4.own).sl;refine WT ?_;refine VM (a) (a+i) (s4).own (s4).ext (by rw[(s4).ext.mark];exact hmB) ?_;intro h3 e3 o3 u3;have s3:=s4.swp e3 o3 u3 (by omega) hb (by omega) (by omega);have hat:∀ k,0<=k->WH (swp zs a (a+i)) (a+k)=if k=i then WH zs (a+0)else if k=0 then WH zs (a+i)else WH zs (a+k):=by
   intro k hk;rw[yY (by omega) (by omega) (by omega)];have e1:(a+k=a+i)↔k=i:=by omega
   have e2:(a+k=a)↔k=0:=by omega
   have e3:a+0=a:=by omega
   simp only[e1,e2,e3]
  have hmax:∀ k,0<=k->k<=i->WH zs (a+k)<=WH zs (a+0):=fun k h1 h2=>zNt hh k.toNat k (by omega) (by omega);refine go ?_;refine VA (zKh hB h3 v _ 0 i a s3.ext hmB s3.own (by omega) (by omega) h0 (by rw[s3.len];omega) (by rw[s3.len];omega) (fun k c hk=> ?_)) ?_
  ·obtain⟨a1,a2,a3⟩:=hk;rw[hat c (by omega),hat k (by omega),QC (by omega),QC (by omega),QC (by omega),QC (by omega)];exact hh k c ⟨by omega,a2,by omega⟩
  rintro _ h5 ⟨ys,s5,hh5⟩;have p5:=s5.pi;have out:∀ k,i<=k->WH ys (a+k)=WH (swp zs a (a+i)) (a+k):=fun k hk=>p5.out _ (by omega) (.inr (by omega));have low:∀ k,a+0<=k->k<a+i->WH ys k<=WH zs (a+0):=p5.all (p:=fun x=>x<=WH zs (a+0)) (by omega) (by rw[s3.len];omega) (fun k h1 h2=>by
   have:=hat (k-a) (by omega);rw[show a+(k-a)=k by omega]at this;rw[this,QC (by omega)];by_cases e:k-a=0
   ·rw[QI e];exact hmax i (by omega) (by omega)
   ·rw[QC e];have:=hmax (k-a) (by omega) (by omega);rw[show a+(k-a)=k by omega]at this;exact this)
  have top:WH ys (a+i)=WH zs (a+0):=by rw[out i (Qk _),hat i (by omega),QI rfl]
  have rest:∀ k,a+i<k->WH ys k=WH zs k:=fun k hk=>by
   have h1:=out (k-a) (by omega);rw[hat (k-a) (by omega),QC (by omega),QC (by omega),show a+(k-a)=k by omega]at h1;exact h1
  refine go ?_;refine zA (ys,i-1) (by simp only;omega) ⟨s3.call s5 (by omega) (by omega),WA,by simp only;omega,by simp only;rw[show i-1+1=i by omega];exact hh5,fun p q h1 h2 h3=> ?_,fun p q h1 h2 h3 h4=> ?_⟩
  ·simp only at h1 |-;by_cases ep:p=a+i
   ·by_cases eq:q=a+i
    ·rw[ep,eq];exact Qk _
    ·rw[ep,top,rest q (by omega)];exact hl (a+0) q (by omega) (by omega) (by omega) h3
   ·rw[rest p (by omega),rest q (by omega)];exact hs p q (by omega) h2 h3
  ·simp only at h2 h3 |-;have hp:=low p (by omega) (by omega);by_cases eq:q=a+i
   ·rw[eq,top];exact hp
   ·rw[rest q (by omega)];have:=hl (a+0) q (by omega) (by omega) (by omega) h4;omega
 ·refine go ?_;refine BB ?_;have hi1:i= -1:=by omega
  subst hi1;exact⟨zs,s4,fun p q h1 h2 h3=>hs p q (by omega) h2 h3⟩
set_option maxRecDepth 100000 in
theorem zOK:∀ i:Nat,i<256->(match(⟨#[0,1,2,2,3,3,3,3,4,4,4,4,4,4,4,4,5,5,5,5,5,5,5,5,5,5,5,5,5,5,5,5,6,6,6,6,6,6,6,6,6,6,6,6,6,6,6,6,6,6,6,6,6,6,6,6,6,6,6,6,6,6,6,6,7,7,7,7,7,7,7,7,7,7,7,7,7,7,7,7,7,7,7,7,7,7,7,7,7,7,7,7,7,7,7,7,7,7,7,7,7,7,7,7,7,7,7,7,7,7,7,7,7,7,7,7,7,7,7,7,7,7,7,7,7,7,7,7,8,8,8,8,8,8,8,8,8,8,8,8,8,8,8,8,8,8,8,8,8,8,8,8,8,8,8,8,8,8,8,8,8,8,8,8,8,8,8,8,8,8,8,8,8,8,8,8,8,8,8,8,8,8,8,8,8,8,8,8,8,8,8,8,8,8,8,8,8,8,8,8,8,8,8,8,8,8,8,8,8,8,8,8,8,8,8,8,8,8,8,8,8,8,8,8,8,8,8,8,8,8,8,8,8,8,8,8,8,8,8,8,8,8,8,8,8,8,8,8,8,8,8,8,8,8,8,8]⟩:ByteArray)[i]? with|some b=>Nat.ble b.toNat 8&&(Nat.beq i 0||Nat.ble (2 ^ b.toNat) (2*i))|none=>false)=true:=by decide+kernel
theorem zQD{i:Nat}(h:i<256):∃ b:UInt8,(⟨#[0,1,2,2,3,3,3,3,4,4,4,4,4,4,4,4,5,5,5,5,5,5,5,5,5,5,5,5,5,5,5,5,6,6,6,6,6,6,6,6,6,6,6,6,6,6,6,6,6,6,6,6,6,6,6,6,6,6,6,6,6,6,6,6,7,7,7,7,7,7,7,7,7,7,7,7,7,7,7,7,7,7,7,7,7,7,7,7,7,7,7,7,7,7,7,7,7,7,7,7,7,7,7,7,7,7,7,7,7,7,7,7,7,7,7,7,7,7,7,7,7,7,7,7,7,7,7,7,8,8,8,8,8,8,8,8,8,8,8,8,8,8,8,8,8,8,8,8,8,8,8,8,8,8,8,8,8,8,8,8,8,8,8,8,8,8,8,8,8,8,8,8,8,8,8,8,8,8,8,8,8,8,8,8,8,8,8,8,8,8,8,8,8,8,8,8,8,8,8,8,8,8,8,8,8,8,8,8,8,8,8,8,8,8,8,8,8,8,8,8,8,8,8,8,8,8,8,8,8,8,8,8,8,8,8,8,8,8,8,8,8,8,8,8,8,8,8,8,8,8,8,8,8,8,8,8]⟩:ByteArray)[i]?=some b/\b.toNat<=8/\(i≠0->2 ^ b.toNat<=2*i):=by
 have:=zOK i h;split at this
 ·rename_i b hb;rw[QF,GB]at this;refine⟨b,hb,QN this.1,fun hi=> ?_⟩;rcases this.2 with h2|h2
  ·exact absurd (QJ h2) hi
  ·exact QN h2
 ·cases this
def zP4:U3:=(oV (oR [oN 2 0]) (oV (oV (oR [oM 3 0,⟨some 4,none,(.bin .geq (.tmp 3) (.const (.int .u64 4294967296)))⟩]) (oJ 4 (oV (oR [oM 5 0,⟨some 6,none,(.bin .shr (.tmp 5) (.const (.int .u64 32)))⟩,oM 0 6]) (oR [oN 2 32])) .skip)) (oV (oV (oR [oM 7 0,⟨some 8,none,(.bin .geq (.tmp 7) (.const (.int .u64 65536)))⟩]) (oJ 8 (oV (oR [oM 9 0,⟨some 10,none,(.bin .shr (.tmp 9) (.const (.int .u64 16)))⟩,oM 0 10]) (oR [oM 11 2,oC .add 12 11 16,oM 2 12])) .skip)) (oV (oV (oR [oM 13 0,⟨some 14,none,(.bin .geq (.tmp 13) (.const (.int .u64 256)))⟩]) (oJ 14 (oV (oR [oM 15 0,⟨some 16,none,(.bin .shr (.tmp 15) (.const (.int .u64 8)))⟩,oM 0 16]) (oR [oM 17 2,oC .add 18 17 8,oM 2 18])) .skip)) (oV (oR [oM 19 2,oM 20 0,⟨some 21,none,(.conv .u8 (.tmp 20))⟩,⟨some 22,none,(.elemStr (.const (.string ⟨#[0,1,2,2,3,3,3,3,4,4,4,4,4,4,4,4,5,5,5,5,5,5,5,5,5,5,5,5,5,5,5,5,6,6,6,6,6,6,6,6,6,6,6,6,6,6,6,6,6,6,6,6,6,6,6,6,6,6,6,6,6,6,6,6,7,7,7,7,7,7,7,7,7,7,7,7,7,7,7,7,7,7,7,7,7,7,7,7,7,7,7,7,7,7,7,7,7,7,7,7,7,7,7,7,7,7,7,7,7,7,7,7,7,7,7,7,7,7,7,7,7,7,7,7,7,7,7,7,8,8,8,8,8,8,8,8,8,8,8,8,8,8,8,8,8,8,8,8,8,8,8,8,8,8,8,8,8,8,8,8,8,8,8,8,8,8,8,8,8,8,8,8,8,8,8,8,8,8,8,8,8,8,8,8,8,8,8,8,8,8,8,8,8,8,8,8,8,8,8,8,8,8,8,8,8,8,8,8,8,8,8,8,8,8,8,8,8,8,8,8,8,8,8,8,8,8,8,8,8,8,8,8,8,8,8,8,8,8,8,8,8,8,8,8,8,8,8,8,8,8,8,8,8,8,8,8]⟩)) (.tmp 21))⟩,⟨some 23,none,(.conv .i64 (.tmp 22))⟩,oB .add 24 19 23,oM 2 24]) .ret)))))
theorem zPB(h:U2)(n:Int)(h0:0<=n)(h1:n<=2000000000):
  WC Tryz.prog tb 246 [.int .u64 n] h fun r h'=>(∃ k:Nat,r=I k/\k<=40/\(n≠0->2 ^ k<=2*n))/\h=h':=by
 refine en 25 [(2,none)] zP4 ?_;refine VJ [9,10,0,11,12,2] (by kernel_rfl) (fun t h'=>h=h'/\∃ (m:Int) (k:Nat),zB t 0=.int .u64 m/\zB t 2=I k/\(0<=m/\m<=65535/\k<=16)/\(n≠0->m≠0)/\(n≠0->∀ j:Nat,2 ^ j<=2*m->2 ^ (k+j)<=2*n)) ?_ ?_
 ·refine VE (fun hb=> ?_) (fun hb=> ?_)<;>simp only[DB]at hb<;>refine go ?_
  ·refine WO.bin (vx:= .int .u64 n) (vy:= .int .u64 16) zr rfl (zU9 h0) ?_;refine go ?_;refine zG ⟨rfl,n / 65536,16,WA,WA,by omega,by omega,fun _ j hj=> ?_⟩;rw[Int.pow_add];have e:(2:Int) ^ 16=65536:=rfl;rw[e];generalize(2:Int) ^ j=z at hj |-;omega
  ·exact zG ⟨rfl,n,0,WA,WA,by omega,id,fun _ j hj=>by rw[Q6];exact hj⟩
 rintro t1 _ hs1 ⟨rfl,m,k,s0,s2,hm,hz,hj⟩;refine go ?_;refine VJ [15,16,0,17,18,2] (by kernel_rfl) (fun t h'=>h=h'/\∃ (m:Int) (k:Nat),zB t 0=.int .u64 m/\zB t 2=I k/\(0<=m/\m<=255/\k<=24)/\(n≠0->m≠0)/\(n≠0->∀ j:Nat,2 ^ j<=2*m->2 ^ (k+j)<=2*n)) ?_ ?_
 ·refine VE (fun hb=> ?_) (fun hb=> ?_)<;>simp only[DB]at hb<;>refine go ?_
  ·refine WO.bin (vx:= .int .u64 m) (vy:= .int .u64 8) zr rfl (zVv hm.1) ?_;refine go ?_;refine zG ⟨rfl,m / 256,k+8,WA,WA,by omega,by omega,fun hn j hj2=> ?_⟩;have:=hj hn (8+j) (by
    rw[Int.pow_add];have e:(2:Int) ^ 8=256:=rfl;rw[e];generalize(2:Int) ^ j=z at hj2 |-;omega)
   rw[JH];exact this
  ·exact zG ⟨rfl,m,k,WA,WA,by omega,hz,hj⟩
 clear hj hz hm s0 s2;rintro t2 _ hs2 ⟨rfl,m,k,s0,s2,hm,hz,hj⟩;obtain⟨b,hb1,hb2,hb3⟩:=zQD (i:=m.toNat) (by omega);refine go ?_;have e2:W9 (.int .u8 m)=some m.toNat:=by
  obtain⟨q,rfl⟩:∃ q:Nat,m=q:=⟨m.toNat,by omega⟩;rfl
 rw[zTi (by omega) (by omega)];refine UC hb1 e2 ?_;refine gr ?_;refine⟨⟨k+b.toNat,by simp[one],by omega,fun hn=>hj hn _ ?_⟩,rfl⟩;have:=hb3 (by have:=hz hn;omega);have h2:((2 ^ b.toNat:Nat):Int)<=((2*m.toNat:Nat):Int):=by exact_mod_cast this
 rw[Int.natCast_pow]at h2;have h3:((2*m.toNat:Nat):Int)=2*m:=by omega
 rw[h3]at h2;exact h2
def zQX:U3:=(oV (oR [oN 2 0]) (oV (.cond (.const (.bool false)) (oV (oR [oM 3 0,⟨some 4,none,(.conv .u32 (.tmp 3))⟩,o1 5 245 4,oM 2 5]) .ret) .skip) (oV (oR [oM 6 0,o1 7 246 6,oM 2 7]) .ret)))
theorem zO9(h:U2)(n:Int)(h0:0<=n)(h1:n<=2000000000):
  WC Tryz.prog tb 217 [.int .u64 n] h fun r h'=>(∃ k:Nat,r=I k/\k<=40/\(n≠0->2 ^ k<=2*n))/\h=h':=by
 refine en 8 [(2,none)] zQX ?_;refine VA (zPB h n h0 h1) ?_;rintro _ _ ⟨⟨k,rfl,hk⟩,rfl⟩;refine gr ?_;exact⟨⟨k,rfl,hk⟩,rfl⟩
def zQu:U3:=(oV (oR [oK 2 (.int .u64 0)]) (oV (oR [oM 3 0,⟨some 4,none,(.conv .u64 (.tmp 3))⟩,o1 5 217 4,⟨some 6,none,(.bin .shl (.const (.int .u64 1)) (.tmp 5))⟩,oM 2 6]) .ret))
theorem zPs(h:U2)(n:Int)(h0:1<=n)(h1:n<=2000000000):
  WC Tryz.prog tb 252 [I n] h fun r h'=>(∃ m:Int,r=.int .u64 m/\1<=m/\m<=2*n)/\h=h':=by
 refine en 7 [(2,none)] zQu ?_;rw[Yp (by omega) (by omega)];refine VA (zO9 h n (by omega) h1) ?_;rintro _ _ ⟨⟨k,rfl,hk,hk2⟩,rfl⟩;have hk3:=hk2 (by omega);have hpos:(0:Int)<2 ^ k:=Int.pow_pos (by decide);refine go ?_;refine WO.bin (vx:= .int .u64 1) (vy:=I k) (v:= .int .u64 (2 ^ k)) rfl zr (by
  simp only[yK,IntKind.bits];rw[QC (by omega),QU,Gj (by omega),Int.one_mul,Yp (by omega) (by omega)]) ?_
 refine gr ?_;exact⟨⟨_,rfl,by omega,hk3⟩,rfl⟩
def zP1:U3:=(oV (oR [oK 2 (.int .u64 0)]) (oV (o6 [oM 3 0,(⟨some 4,none,(.nilCheck (.tmp 3))⟩,[]),oL 5 4,oM 6 0,(⟨some 7,none,(.nilCheck (.tmp 6))⟩,[]),oL 8 7,(⟨some 9,none,(.bin .shl (.tmp 8) (.const (.int .u64 13)))⟩,[]),oB .xor 10 5 9,(⟨some 11,none,(.nilCheck (.tmp 3))⟩,[]),oS 1 11 10]) (oV (o6 [oM 12 0,(⟨some 13,none,(.nilCheck (.tmp 12))⟩,[]),oL 14 13,oM 15 0,(⟨some 16,none,(.nilCheck (.tmp 15))⟩,[]),oL 17 16,(⟨some 18,none,(.bin .shr (.tmp 17) (.const (.int .u64 7)))⟩,[]),oB .xor 19 14 18,(⟨some 20,none,(.nilCheck (.tmp 12))⟩,[]),oS 1 20 19]) (oV (o6 [oM 21 0,(⟨some 22,none,(.nilCheck (.tmp 21))⟩,[]),oL 23 22,oM 24 0,(⟨some 25,none,(.nilCheck (.tmp 24))⟩,[]),oL 26 25,(⟨some 27,none,(.bin .shl (.tmp 26) (.const (.int .u64 17)))⟩,[]),oB .xor 28 23 27,(⟨some 29,none,(.nilCheck (.tmp 21))⟩,[]),oS 1 29 28]) (oV (oR [oM 30 0,⟨some 31,none,(.nilCheck (.tmp 30))⟩,oL 32 31,oM 2 32]) .ret)))))
theorem zPg(h0 h:U2)(p:Value)(n:Int)(e0:U8 h0 h)(hm:h0.mark<=h0.n)(o:U6 h0 h p [.int .u64 n]):
  WC Tryz.prog tb 253 [p] h fun r h'=>(∃ m:Int,r=.int .u64 m/\U6 h0 h' p [.int .u64 m])/\U8 h0 h'/\Wc p h h':=by
 obtain⟨g,rfl⟩:∃ g,p=.pointer (some ⟨g,0,none⟩):=let⟨g,_,_,e,_⟩:=o;⟨g,e⟩;have shl:∀ (a:Int) (b:Int),0<=b->∃ r,yK .shl (.int .u64 a) (.int .u64 b)=some (.int .u64 r):=fun a b hb=>⟨_,by simp only[yK];rw[QC (by omega)]⟩;have shr:∀ (a:Int) (b:Int),0<=b->∃ r,yK .shr (.int .u64 a) (.int .u64 b)=some (.int .u64 r):=fun a b hb=>⟨_,by simp only[yK];rw[QC (by omega)]⟩;have xor:∀ (a b:Int),∃ r,yK .xor (.int .u64 a) (.int .u64 b)=some (.int .u64 r):=fun a b=>⟨_,by simp only[yK,Q2];rfl⟩;refine en 33 [(2,none)] zP1 ?_;refine VC 0 rfl rfl ?_;have oX:U6 h0 (inC (zC 0 h)) (.pointer (some ⟨g,0,none⟩)) [.int .u64 n]:=o;refine WT ?_;obtain⟨r1,hr1⟩:=shl n 13 (by decide);refine WO.bin zr rfl hr1 ?_;refine nQ ?_;refine WT ?_;obtain⟨x1,hx1⟩:=xor n r1;refine WO.bin zr zr hx1 ?_;refine nQ ?_;refine WT ?_;refine V5 [.int .u64 x1] o e0 (by rw[e0.mark];exact hm) ?_;intro h1 e1 o1 u1;refine go ?_;refine VC 0 rfl rfl ?_;have oX1:U6 h0 (inC (zC 0 h1)) (.pointer (some ⟨g,0,none⟩)) [.int .u64 x1]:=o1;refine WT ?_;obtain⟨r2,hr2⟩:=shr x1 7 (by decide);refine WO.bin zr rfl hr2 ?_;refine nQ ?_;refine WT ?_;obtain⟨x2,hx2⟩:=xor x1 r2;refine WO.bin zr zr hx2 ?_;refine nQ ?_;refine WT ?_;refine V5 [.int .u64 x2] o1 e1 (by rw[e1.mark];exact hm) ?_;intro h2 e2 o2 u2;refine go ?_;refine VC 0 rfl rfl ?_;have oX2:U6 h0 (inC (zC 0 h2)) (.pointer (some ⟨g,0,none⟩)) [.int .u64 x2]:=o2;refine WT ?_;obtain⟨r3,hr3⟩:=shl x2 17 (by decide);refine WO.bin zr rfl hr3 ?_;refine nQ ?_;refine WT ?_;obtain⟨x3,hx3⟩:=xor x2 r3;refine WO.bin zr zr hx3 ?_;refine nQ ?_;refine WT ?_;refine V5 [.int .u64 x3] o2 e2 (by rw[e2.mark];exact hm) ?_;intro h3 e3 o3 u3;refine gr ?_;exact⟨⟨x3,rfl,o3⟩,e3,(u1.trans u2).trans u3⟩
def zRS:U3:=(oV (oR [oN 8 0,oN 9 0]) (oV (oV (o6 [oM 10 0,oM 11 2,oI 1 12 10 11,oL 13 12,oM 14 0,oM 15 1,oI 1 16 14 15,oL 17 16,o2 18 242 13 17]) (oJ 18 (oV (oR [oM 19 3,⟨some 20,none,(.nilCheck (.tmp 19))⟩,oL 21 20,oC .add 22 21 1,⟨some 23,none,(.nilCheck (.tmp 19))⟩,oS 1 23 22]) (oV (oR [oM 24 2,oM 25 1,oM 8 24,oM 9 25]) .ret)) .skip)) (oV (oR [oM 26 1,oM 27 2,oM 8 26,oM 9 27]) .ret)))
theorem zC7(h0 h:U2)(v p:Value)(xs:List Int)(a b n:Int)(e0:U8 h0 h)(s:WM h0 v xs)(o:U6 h0 h p [I n])(hn:0<=n/\n<=1000)(ha:0<=a/\a<xs.length)(hb:0<=b/\b<xs.length):
  WC Tryz.prog tb 259 [v,I a,I b,p] h fun r h'=>(∃ c d m:Int,r=.tuple #[I c,I d]/\((c=a/\d=b)\/(c=b/\d=a))/\(0<=m/\m<=n+1)/\U6 h0 h' p [I m])/\U8 h0 h':=by
 obtain⟨g,rfl⟩:∃ g,p=.pointer (some ⟨g,0,none⟩):=let⟨g,_,_,e,_⟩:=o;⟨g,e⟩;refine en 28 [(8,none),(9,none)] zRS ?_;refine VC 0 rfl rfl ?_;have srX:WM (inC (zC 0 h)) v xs:=by have:=s.ext e0;exact this
 refine WT ?_;refine VA (Zb _ (WH xs b) (WH xs a)) ?_;rintro _ _ ⟨rfl,rfl⟩;refine nQ ?_;refine WT ?_;rw[zAp];refine VE (fun he=> ?_) (fun he=> ?_)<;>simp only[DB]at he<;>refine go ?_
 ·refine VG o e0 ?_;intro h1 e1 o1 _;refine gr ?_;exact⟨⟨b,a,n+1,rfl,.inr ⟨rfl,rfl⟩,by omega,o1⟩,e1⟩
 ·refine rt ?_;exact⟨⟨a,b,n,rfl,.inl ⟨rfl,rfl⟩,by omega,o⟩,e0⟩
def zQQ:U3:=(oV (oR [oN 10 0]) (oV (oR [oM 12 0,oM 13 1,oM 14 2,oM 15 4,o4 16 259 12 13 14 15,oM 11 16,oE 17 11 0,oE 18 11 1,oM 1 17,oM 2 18]) (oV (oR [oM 20 0,oM 21 2,oM 22 3,oM 23 4,o4 24 259 20 21 22 23,oM 19 24,oE 25 19 0,oE 26 19 1,oM 2 25,oM 3 26]) (oV (oR [oM 28 0,oM 29 1,oM 30 2,oM 31 4,o4 32 259 28 29 30 31,oM 27 32,oE 33 27 0,oE 34 27 1,oM 1 33,oM 2 34]) (oV (oR [oM 35 2,oM 10 35]) .ret)))))
theorem zFe(h0 h:U2)(v p:Value)(xs:List Int)(a b c n:Int)(e0:U8 h0 h)(s:WM h0 v xs)(o:U6 h0 h p [I n])(hn:0<=n/\n<=900)(ha:0<=a/\a<xs.length)(hb:0<=b/\b<xs.length)(hc:0<=c/\c<xs.length):
  WC Tryz.prog tb 255 [v,I a,I b,I c,p] h fun r h'=>(∃ d m:Int,r=I d/\(d=a\/d=b\/d=c)/\(0<=m/\m<=n+3)/\U6 h0 h' p [I m])/\U8 h0 h':=by
 refine en 36 [(10,none)] zQQ ?_;refine VA (zC7 h0 h v p xs a b n e0 s o (by omega) ha hb) ?_;rintro _ h1 ⟨⟨a1,b1,n1,rfl,q1,m1,o1⟩,e1⟩;refine go ?_;refine VA (zC7 h0 h1 v p xs b1 c n1 e1 s o1 (by omega) (by omega) hc) ?_;rintro _ h2 ⟨⟨b2,c2,n2,rfl,q2,m2,o2⟩,e2⟩;refine go ?_;refine VA (zC7 h0 h2 v p xs a1 b2 n2 e2 s o2 (by omega) (by omega) (by omega)) ?_;rintro _ h3 ⟨⟨a3,b3,n3,rfl,q3,m3,o3⟩,e3⟩;refine gr ?_;exact⟨⟨b3,n3,rfl,by omega,by omega,o3⟩,e3⟩
def zQm:U3:=(oV (oR [oN 6 0]) (oV (oR [oM 7 0,oM 8 1,oC .sub 9 8 1,oM 10 1,oM 11 1,oC .add 12 11 1,oM 13 2,⟨some 14,none,(.call (.func 255) [(.tmp 7),(.tmp 9),(.tmp 10),(.tmp 12),(.tmp 13)])⟩,oM 6 14]) .ret))
theorem zA3(h0 h:U2)(v p:Value)(xs:List Int)(a n:Int)(e0:U8 h0 h)(s:WM h0 v xs)(o:U6 h0 h p [I n])(hn:0<=n/\n<=900)(ha:1<=a/\a+1<xs.length)(hl:xs.length<=1000000000):
  WC Tryz.prog tb 254 [v,I a,p] h fun r h'=>(∃ d m:Int,r=I d/\(a-1<=d/\d<=a+1)/\(0<=m/\m<=n+3)/\U6 h0 h' p [I m])/\U8 h0 h':=by
 refine en 15 [(6,none)] zQm ?_;refine VA (zFe h0 h v p xs (a-1) a (a+1) n e0 s o hn (by omega) (by omega) (by omega)) ?_;rintro _ h1 ⟨⟨d,m,rfl,q1,m1,o1⟩,e1⟩;refine gr ?_;exact⟨⟨d,m,rfl,by omega,m1,o1⟩,e1⟩
def zQg:U3:=(oV (oR [oN 6 0,oN 7 0]) (oV (oR [oM 13 2,oM 14 1,oB .sub 15 13 14,oM 8 15]) (oV (oR [⟨some 9,none,(.alloc [(.int .i64 0)])⟩]) (oV (oR [oM 16 1,oM 17 8,oC .quo 18 17 4,oC .mul 19 18 1,oB .add 20 16 19,oM 10 20]) (oV (oR [oM 21 1,oM 22 8,oC .quo 23 22 4,oC .mul 24 23 2,oB .add 25 21 24,oM 11 25]) (oV (oR [oM 26 1,oM 27 8,oC .quo 28 27 4,oC .mul 29 28 3,oB .add 30 26 29,oM 12 30]) (oV (oV (oR [oM 31 8,oC .geq 32 31 8]) (oJ 32 (oV (oV (oR [oM 33 8,oC .geq 34 33 50]) (oJ 34 (oV (oR [oM 35 0,oM 36 10,o3 37 254 35 36 9,oM 10 37]) (oV (oR [oM 38 0,oM 39 11,o3 40 254 38 39 9,oM 11 40]) (oR [oM 41 0,oM 42 12,o3 43 254 41 42 9,oM 12 43]))) .skip)) (oR [oM 44 0,oM 45 10,oM 46 11,oM 47 12,⟨some 48,none,(.call (.func 255) [(.tmp 44),(.tmp 45),(.tmp 46),(.tmp 47),(.tmp 9)])⟩,oM 11 48])) .skip)) (oV (oR [oL 49 9]) (o5 0 (oV (oR [oC .eql 52 49 0,oM 51 52]) (oJ 51 (oV (oR [oM 53 11,oM 6 53,oN 7 1]) .ret) (oV (oR [oC .eql 55 49 12,oM 54 55]) (oJ 54 (oV (oR [oM 56 11,oM 6 56,oN 7 2]) .ret) (oV (oR [oM 50 11,oM 6 50,oN 7 0]) .ret))))))))))))))
theorem zPZ(h:U2)(v:Value)(xs:List Int)(a b:Int)(s:WM h v xs)(h0:0<=a)(hab:a+12<b)(hb:b<=xs.length)(hlen:xs.length<=1000000000):
  WC Tryz.prog tb 239 [v,I a,I b] h fun r h'=>(∃ d hint:Int,r=.tuple #[I d,I hint]/\(a<=d/\d<b))/\U8 h h':=by
 have e4:(b-a).tdiv 4=(b-a) / 4:=G5 (by omega);refine en 57 [(6,none),(7,none)] zQg ?_;refine WO.al ?_;intro p h1 e1 o1;refine go ?_;refine WO.quo (a:=b-a) (c:=4) (by decide) (by omega) (by omega) ?_;rw[e4];refine go ?_;refine WO.quo (a:=b-a) (c:=4) (by decide) (by omega) (by omega) ?_;rw[e4];refine go ?_;refine WO.quo (a:=b-a) (c:=4) (by decide) (by omega) (by omega) ?_;rw[e4];refine go ?_;refine VJ [35,36,37,10,38,39,40,11,41,42,43,12] (by kernel_rfl) (fun t h'=>U8 h h'/\∃ i j k n:Int,zB t 10=I i/\zB t 11=I j/\zB t 12=I k/\(a<=i/\i<b)/\(a<=j/\j<b)/\(a<=k/\k<b)/\(0<=n/\n<=9)/\U6 h h' p [I n]) ?_ ?_
 ·refine VE (fun he=> ?_) (fun he=> ?_)<;>simp only[DB]at he<;>refine go ?_
  ·refine VA (zA3 h h1 v p xs (a+(b-a) / 4*1) 0 e1 s o1 (by omega) (by omega) hlen) ?_;rintro _ h2 ⟨⟨i,n1,rfl,q1,m1,o2⟩,e2⟩;refine go ?_;refine VA (zA3 h h2 v p xs (a+(b-a) / 4*2) n1 e2 s o2 (by omega) (by omega) hlen) ?_;rintro _ h3 ⟨⟨j,n2,rfl,q2,m2,o3⟩,e3⟩;refine go ?_;refine VA (zA3 h h3 v p xs (a+(b-a) / 4*3) n2 e3 s o3 (by omega) (by omega) hlen) ?_;rintro _ h4 ⟨⟨k,n3,rfl,q3,m3,o4⟩,e4⟩;refine go ?_;exact zG ⟨e4,i,j,k,n3,WA,WA,WA,by omega,by omega,by omega,by omega,o4⟩
  ·exact zG ⟨e1,a+(b-a) / 4*1,a+(b-a) / 4*2,a+(b-a) / 4*3,0,WA,WA,WA,by omega,by omega,by omega,by omega,o1⟩
 rintro t5 h5 hs5 ⟨e5,i,j,k,n,s10,s11,s12,hi,hj,hk,hn,o5⟩;refine go ?_;refine VA (zFe h h5 v p xs i j k n e5 s o5 (by omega) (by omega) (by omega) (by omega)) ?_;rintro _ h6 ⟨⟨d,m,rfl,q6,m6,o6⟩,e6⟩;obtain⟨g,rfl⟩:∃ g,p=.pointer (some ⟨g,0,none⟩):=let⟨g,_,_,e,_⟩:=o6;⟨g,e⟩;refine go ?_;refine VE (fun he=> ?_) (fun he=> ?_)<;>simp only[DB]at he<;>refine go ?_
 ·refine rt ?_;exact⟨⟨_,_,rfl,by omega⟩,e6⟩
 refine VE (fun he=> ?_) (fun he=> ?_)<;>simp only[DB]at he<;>refine go ?_<;>refine rt ?_
 ·exact⟨⟨_,_,rfl,by omega⟩,e6⟩
 ·exact⟨⟨_,_,rfl,by omega⟩,e6⟩
def zLf:U3:=(oV (oV (oR [oM 26 9,oM 27 1,oM 28 6,oC .quo 29 28 4,oC .mul 30 29 2,oB .add 31 27 30,oC .add 32 31 1,oB .leq 33 26 32]) (oT 33 0)) (oV (o5 1 (oV (oR [o1 36 253 7,oM 37 8,⟨some 38,none,(.bin .sub (.tmp 37) (.const (.int .u64 1)))⟩,oB .and 39 36 38,⟨some 40,none,(.conv .i64 (.tmp 39))⟩,oM 10 40]) (oV (oV (oR [oM 41 10,oM 42 6,oB .geq 43 41 42]) (oJ 43 (oR [oM 44 10,oM 45 6,oB .sub 46 44 45,oM 10 46]) .skip)) (o6 [oM 47 0,oM 48 9,oM 49 0,oM 50 1,oM 51 10,oB .add 52 50 51,oM 53 0,oM 54 1,oM 55 10,oB .add 56 54 55,oI 1 57 53 56,oL 58 57,oM 59 0,oM 60 9,oI 1 61 59 60,oL 62 61,oI 1 63 47 48,oS 1 63 58,oI 1 64 49 52,oS 1 64 62])))) (oR [oM 34 9,oC .add 35 34 1,oM 9 35])))
def zSV:U3:=(oV (oR [oM 11 2,oM 12 1,oB .sub 13 11 12,oM 6 13]) (oV (oR [oM 14 6,oC .geq 15 14 8]) (oJ 15 (oV (oR [oM 16 6,⟨some 17,none,(.conv .u64 (.tmp 16))⟩,⟨some 7,none,(.alloc [(.int .u64 0)])⟩,oS 1 7 17]) (oV (oR [oM 18 6,o1 19 252 18,oM 8 19]) (oV (oR [oM 20 1,oM 21 6,oC .quo 22 21 4,oC .mul 23 22 2,oB .add 24 20 23,oC .sub 25 24 1,oM 9 25]) (o5 0 (.loop zLf))))) .skip)))
theorem zOW(hB h:U2)(v:Value)(xs:List Int)(a b:Int)(e0:U8 hB h)(hmB:hB.mark<=hB.n)(o:We hB h v xs)(h0:0<=a)(hab:a+12<b)(hb:b<=xs.length)(hlen:xs.length<=1000000000):
  WC Tryz.prog tb 238 [v,I a,I b] h fun r h'=>∃ ys,SS hB h v a b xs ys h':=by
 have e4:(b-a).tdiv 4=(b-a) / 4:=G5 (by omega);have s0:=VT a b o e0;refine en 65 [] zSV ?_;refine WO.al ?_;intro p h1 e1 o1;have s1:=s0.extd e1;obtain⟨g,hg,rfl⟩:∃ g,h.n<=g/\p=.pointer (some ⟨g,0,none⟩):=let⟨g,hg,_,e,_⟩:=o1;⟨g,hg,e⟩;have o1:=o1.since e0;refine go ?_;refine VG o1 s1.ext ?_;intro h2 e2 o2 u2;have s2:=s1.updC o hg e2 u2;refine go ?_;refine VA (zPs h2 (b-a) (by omega) (by omega)) ?_;rintro _ _ ⟨⟨m,rfl,hm1,hm2⟩,rfl⟩;refine go ?_;refine WO.quo (a:=b-a) (c:=4) (by decide) (by omega) (by omega) ?_;rw[e4];refine go ?_;refine VD [26,27,28,29,30,31,32,33,36,37,38,39,40,10,41,42,43,44,45,46,10,47,48,49,50,51,52,53,54,55,56,57,58,59,60,61,62,63,64,34,35,9] (by kernel_rfl) (fun x=>(b-x.2.1).toNat) (fun(x:List Int×Int×Int) t h4=>SS hB h v a b xs x.1 h4/\zB t 9=I x.2.1/\(a<=x.2.1/\x.2.1<b)/\U6 hB h4 (.pointer (some ⟨g,0,none⟩)) [.int .u64 x.2.2]) (xs,a+(b-a) / 4*2-1,IntKind.u64.wrap (b-a)) ?_ ?_
 ·exact⟨s2,WA,by simp only;omega,o2⟩
 rintro⟨ys,i,x⟩ t h4 hsame ⟨s4,s9,hi,o4⟩;simp only at s4 s9 hi o4;have hl4:=s4.len;refine go ?_;refine WO.quo (a:=b-a) (c:=4) (by decide) (by omega) (by omega) ?_;rw[e4];refine go ?_;refine VE (fun he=> ?_) (fun he=> ?_)<;>simp only[DB]at he<;>refine go ?_
 ·refine VA (zPg hB h4 _ x s4.ext hmB o4) ?_;rintro _ h5 ⟨⟨y,rfl,o5⟩,e5,u5⟩;have s5:=s4.updC o hg e5 u5;refine go ?_;refine WO.bin (vy:= .int .u64 1) (v:= .int .u64 (m-1)) zr rfl (by simp only[yK,Q2];rw[Yp (by omega) (by omega)]) ?_;refine go ?_;obtain⟨r,hr,hr0,hr1⟩:=zRB y (m:=m-1) (by omega);refine WO.bin zr zr hr ?_;refine go ?_;refine VJ [44,45,46,10] (by kernel_rfl) (fun t h'=>h5=h'/\∃ k:Int,zB t 10=I k/\0<=k/\k<b-a) ?_ ?_
  ·refine VE (fun hf=> ?_) (fun hf=> ?_)<;>simp only[DB]at hf<;>refine go ?_
   ·exact zG ⟨rfl,_,WA,by omega,by omega⟩
   ·exact zG ⟨rfl,_,WA,by omega,by omega⟩
  rintro t6 _ hs6 ⟨rfl,k,s10,hk0,hk1⟩;refine go ?_;refine VC 0 rfl rfl ?_;have srX:WM (inC (zC 0 h5)) v ys:=(s5.own).sl;refine WT ?_;refine VM (i) (a+k) (s5).own (s5).ext (by rw[(s5).ext.mark];exact hmB) ?_;intro h7 e7 o7 u7;have s7:=s5.swp e7 o7 u7 h0 hb (by omega) (by omega);have o7':=o5.updV o hg u7;refine go ?_;exact zA (swp ys i (a+k),i+1,y) (by simp only;omega) ⟨s7,WA,by simp only;omega,o7'⟩
 ·refine BB ?_;exact⟨ys,s4⟩
end
end Go.Proofs.YtmejfcakhpihlaaGreatDoor
