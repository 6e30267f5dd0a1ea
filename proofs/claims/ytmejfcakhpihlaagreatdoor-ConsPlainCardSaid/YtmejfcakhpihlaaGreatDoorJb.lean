/- Walks of functions, plain laws; proves no statement. -/
import Derived.Test.YtmejfcakhpihlaaGreatDoorJa
set_option linter.unusedVariables false
set_option linter.unusedSimpArgs false
set_option maxHeartbeats 4000000
namespace Go.Proofs.YtmejfcakhpihlaaGreatDoor
noncomputable section
open Go.Am
set_option maxRecDepth 100000
def zSd:U3:=(oV (oR [oX 2 0,oX 3 1,oZ 4]) (oV (oV (oR [oF 0 5 2,oL 6 5]) (o5 0 (oV (oR [oD .eql 8 6 1,oM 7 8]) (oJ 7 (oV (oR [oA 4 9 2,oF 0 10 2,oL 11 10,oF 2 12 2,oL 13 12,⟨some 14,none,(.build [(.int .u8 0),(.int .i64 0),(.int .i64 0),(.int .i64 0)] [(0,1,(.tmp 11)),(2,1,(.tmp 13))])⟩,⟨some 15,none,(.binP .eql 53 (.tmp 9) (.tmp 14))⟩,oM 16 15,oG 16 (oF 2 17 2),oG 16 (oL 18 17),oG 16 (oF 3 19 3),oG 16 (oL 20 19),oG 16 (o2 21 42 18 20),oP 22 16 21,oM 4 22]) .ret) (oV (oR [oD .eql 24 6 2,oM 23 24]) (oJ 23 (oV (oR [oF 1 25 2,oL 26 25,oF 2 27 3,oL 28 27,o2 29 42 26 28,oM 30 29,oG 30 (oF 2 31 2),oG 30 (oL 32 31),oG 30 (oF 3 33 3),oG 30 (oL 34 33),oG 30 (o2 35 42 32 34),oP 36 30 35,oM 37 36,oG 37 (oF 3 38 2),oG 37 (oL 39 38),oG 37 (oF 3 40 3),oG 37 (oL 41 40),oG 37 (o2 42 42 39 41),oP 43 37 42,oM 4 43]) .ret) (oV (oR [oD .eql 45 6 3,oM 44 45]) (oJ 44 (oV (oR [oA 4 46 2,oF 0 47 2,oL 48 47,oF 1 49 2,oL 50 49,⟨some 51,none,(.build [(.int .u8 0),(.int .i64 0),(.int .i64 0),(.int .i64 0)] [(0,1,(.tmp 48)),(1,1,(.tmp 50))])⟩,⟨some 52,none,(.binP .eql 53 (.tmp 46) (.tmp 51))⟩,oM 53 52,oG 53 (oF 1 54 2),oG 53 (oL 55 54),oG 53 (oF 2 56 3),oG 53 (oL 57 56),oG 53 (o2 58 42 55 57),oP 59 53 58,oM 4 59]) .ret) .skip)))))))) (oV (oR [oZ 4]) .ret)))
theorem zTz(h:U2)(x:Bl)(s:Br):
  WC Tryz.prog tb 116 [.agg #[.int .u8 x.kind,I x.a,I x.to,I x.els],.agg #[I s.types,I s.funcs,I s.regs,I s.blocks]] h fun r h'=>r=.bool (zBN x s)/\U8 h h':=by
 refine en 60 [(4,none)] zSd ?_;refine VH ?_;intro p2 h1 e1 o1;refine VH ?_;intro p3 h2 e2 o2;have o1:=o1.ext e2;refine go ?_;refine VE (fun hb=> ?_) (fun hb=> ?_)<;>simp only[DB]at hb<;>refine go ?_
 ·refine Vu (zJ3 (xs:=#[.int .u8 x.kind,I x.a,I x.to,I x.els]) (ys:=#[.int .u8 x.kind,I 0,I x.to,I 0]) (b:=decide (x.a=0)&&decide (x.els=0)) (by kernel_rfl) (by simp[zCq,zFp,I];rw[GO];simp)) ?_;refine go ?_;refine VI (fun hc=> ?_) (fun hc=> ?_)<;>refine go ?_
  ·refine VA (y9 h2 x.to s.blocks) ?_;rintro _ _ ⟨rfl,rfl⟩;refine gr ?_;exact⟨by simp only[zBN,QI hb,hc,Qd];rfl,e1.trans e2⟩
  ·refine rt ?_;exact⟨by simp only[zBN,QI hb,hc,Qg];rfl,e1.trans e2⟩
 refine VE (fun hb2=> ?_) (fun hb2=> ?_)<;>simp only[DB]at hb2<;>refine go ?_
 ·refine VA (y9 h2 x.a s.regs) ?_;rintro _ _ ⟨rfl,rfl⟩;refine go ?_;refine VI (fun hc=> ?_) (fun hc=> ?_)<;>refine go ?_
  ·refine VA (y9 h2 x.to s.blocks) ?_;rintro _ _ ⟨rfl,rfl⟩;refine go ?_;refine VI (fun hd=> ?_) (fun hd=> ?_)<;>refine go ?_
   ·refine VA (y9 h2 x.els s.blocks) ?_;rintro _ _ ⟨rfl,rfl⟩;refine gr ?_;exact⟨by simp only[zBN,QC hb,QI hb2,hc,hd,Qd];rfl,e1.trans e2⟩
   ·refine rt ?_;exact⟨by simp only[zBN,QC hb,QI hb2,hc,hd,Qd,Qg];rfl,e1.trans e2⟩
  ·refine rt ?_;exact⟨by simp only[zBN,QC hb,QI hb2,hc,Qd,Qg];rfl,e1.trans e2⟩
 refine VE (fun hb3=> ?_) (fun hb3=> ?_)<;>simp only[DB]at hb3<;>refine go ?_
 ·refine Vu (zJ3 (xs:=#[.int .u8 x.kind,I x.a,I x.to,I x.els]) (ys:=#[.int .u8 x.kind,I x.a,I 0,I 0]) (b:=decide (x.to=0)&&decide (x.els=0)) (by kernel_rfl) (by simp[zCq,zFp,I];rw[GO];simp)) ?_;refine go ?_;refine VI (fun hc=> ?_) (fun hc=> ?_)<;>refine go ?_
  ·refine VA (y9 h2 x.a s.regs) ?_;rintro _ _ ⟨rfl,rfl⟩;refine gr ?_;exact⟨by simp only[zBN,QC hb,QC hb2,QI hb3,hc,Qd];rfl,e1.trans e2⟩
  ·refine rt ?_;exact⟨by simp only[zBN,QC hb,QC hb2,QI hb3,hc,Qg];rfl,e1.trans e2⟩
 ·refine rt ?_;exact⟨by simp only[zBN,QC hb,QC hb2,QC hb3];rfl,e1.trans e2⟩
def zRg:U3:=(oV (oR [oX 2 0,oX 3 1,oZ 4]) (oV (oR [oF 0 8 2,oL 9 8,o1 10 136 9,⟨some 5,none,(.alloc [(.bool false),(.bool false),(.bool false),(.bool false),(.bool false),(.bool false)])⟩,oS 6 5 10]) (oV (oV (oR (oA 6 11 5::⟨some 12,none,(.build [(.bool false),(.bool false),(.bool false),(.bool false),(.bool false),(.bool false)] [])⟩::⟨some 13,none,(.binP .eql 209 (.tmp 11) (.tmp 12))⟩::oM 14 13::oH 14 (oF 0 15 5)::oH 14 (oL 16 15)::oH 14 (oM 17 16)::oG 17 (oF 2 18 2)::oG 17 (oL 19 18)::oG 17 (oF 2 20 3)::oG 17 (oL 21 20)::oG 17 (o2 22 42 19 21)::oG 17 (oW 23 22)::oH 14 (oP 24 17 23)::oO 25 14 24::oM 26 25::oH 26 (oF 1 27 5)::oH 26 (oL 28 27)::oH 26 (oM 29 28)::oG 29 (oF 3 30 2)::oG 29 (oL 31 30)::oG 29 (oF 2 32 3)::oG 29 (oL 33 32)::oG 29 (o2 34 42 31 33)::oG 29 (oW 35 34)::oH 26 (oP 36 29 35)::oO 37 26 36::oM 38 37::oH 38 (oF 5 39 2)::oH 38 (oL 40 39)::oH 38 (oF 2 41 3)::oH 38 (oL 42 41)::oH 38 (o2 43 171 40 42)::oH 38 (oW 44 43)::oO 45 38 44::oM 46 45::oH 46 (oA 7 47 2)::oH 46 (oA 4 48 3)::oH 46 (o2 49 172 47 48)::oH 46 (oW 50 49)::oO 51 46 50::[])) (oJ 51 (oV (oR [oZ 4]) .ret) .skip)) (oV (oR (oF 0 52 5::oL 53 52::oW 54 53::oM 55 54::oG 55 (oF 2 56 2)::oG 55 (oL 57 56)::oG 55 (oC .neq 58 57 0)::oP 59 55 58::oM 60 59::oH 60 (oF 1 61 5)::oH 60 (oL 62 61)::oH 60 (oW 63 62)::oH 60 (oM 64 63)::oG 64 (oF 3 65 2)::oG 64 (oL 66 65)::oG 64 (oC .neq 67 66 0)::oH 60 (oP 68 64 67)::oO 69 60 68::oM 70 69::oH 70 (oF 2 71 5)::oH 70 (oL 72 71)::oH 70 (oW 73 72)::oH 70 (oM 74 73)::oG 74 (oF 4 75 2)::oG 74 (oL 76 75)::oG 74 (oC .neq 77 76 0)::oH 70 (oP 78 74 77)::oO 79 70 78::oM 80 79::oH 80 (oF 3 81 5)::oH 80 (oL 82 81)::oH 80 (oW 83 82)::oH 80 (oM 84 83)::oG 84 (oF 5 85 2)::oG 84 (oL 86 85)::oG 84 (oQ 87 86)::oG 84 (oC .gtr 88 87 0)::oH 80 (oP 89 84 88)::oO 90 80 89::oM 91 90::oH 91 (oF 4 92 5)::oH 91 (oL 93 92)::oH 91 (oW 94 93)::oH 91 (oM 95 94)::oG 95 (oF 6 96 2)::oG 95 (oL 97 96)::oG 95 (oQ 98 97)::oG 95 (oC .gtr 99 98 0)::oH 91 (oP 100 95 99)::oO 101 91 100::oM 6 101::[])) (oV (oR [oF 5 102 5,oL 103 102,oM 104 103,oG 104 (oF 1 105 2),oG 104 (oL 106 105),oG 104 (oF 0 107 3),oG 104 (oL 108 107),oG 104 (o2 109 42 106 108),oP 110 104 109,oM 111 110,oH 111 (oF 5 112 5),oH 111 (oL 113 112),oH 111 (oW 114 113),oH 111 (oM 115 114),oG 115 (oF 1 116 2),oG 115 (oL 117 116),oG 115 (oC .eql 118 117 0),oH 111 (oP 119 115 118),oO 120 111 119,oM 7 120]) (oV (oV (oR [oF 4 121 5,oL 122 121]) (oJ 122 (oV (oR (oM 123 6::oW 124 123::oM 125 124::oG 125 (oM 126 7)::oP 127 125 126::oM 128 127::oG 128 (oF 6 129 2)::oG 128 (oL 130 129)::oG 128 (oF 3 131 3)::oG 128 (oL 132 131)::oG 128 (o2 133 171 130 132)::oP 134 128 133::oM 135 134::oG 135 (oF 6 136 2)::oG 135 (oL 137 136)::oG 135 (oQ 138 137)::oG 135 (oF 5 139 2)::oG 135 (oL 140 139)::oG 135 (oQ 141 140)::oG 135 (oB .eql 142 138 141)::oP 143 135 142::oM 144 143::oG 144 (oF 6 145 2)::oG 144 (oL 146 145)::oG 144 (oQ 147 146)::oG 144 (oC .geq 148 147 1)::oP 149 144 148::oM 150 149::oG 150 (oF 6 151 2)::oG 150 (oL 152 151)::oG 150 (oQ 153 152)::oG 150 (oC .leq 154 153 16)::oP 155 150 154::oM 4 155::[])) .ret) .skip)) (oV (oR [oM 156 6,oW 157 156,oM 158 157,oG 158 (oM 159 7),oP 160 158 159,oM 161 160,oG 161 (oF 5 162 2),oG 161 (oL 163 162),oG 161 (oQ 164 163),oG 161 (oC .leq 165 164 4),oP 166 161 165,oM 4 166]) .ret)))))))
theorem zTI(h:U2)(x:Wg)(va vf:Value)(s:Br)(T:Be h)(sa:WM h va x.args)(sf:WM h vf x.frm)(hla:(x.args.length:Int)<=9223372036854775807)(hlf:(x.frm.length:Int)<=9223372036854775807)(ho:0<=x.op/\x.op<=255):
  WC Tryz.prog tb 112 [.agg #[.int .u8 x.op,I x.ty,I x.a,I x.b,I x.n,va,vf],.agg #[I s.types,I s.funcs,I s.regs,I s.blocks]] h fun r h'=>r=.bool (zCb x s)/\U8 h h':=by
 refine en 167 [(4,none)] zRg ?_;refine VH ?_;intro p2 h1 e1 o1;refine VH ?_;intro p3 h2 e2 o2;have o1:=o1.ext e2;have T2:=(T.ext e1).ext e2;refine go ?_;refine VA (zPd h2 x.op T2 ho.1 ho.2) ?_;rintro _ h3 ⟨rfl,e3⟩;refine go ?_;refine WO.al ?_;intro p5 h4 e4 o5;refine VG o5 e4 ?_;intro h5 e5 o5 _;have o1:=(o1.ext e3).ext e5;have o2:=(o2.ext e3).ext e5;have e15:=((e1.trans e2).trans e3).trans e5;have sa5:=sa.ext e15;have sf5:=sf.ext e15;have hins:zCb x s=zCb x s:=rfl;conv at hins=>rhs;unfold zCb zQp zKw zK2
 generalize hq:zW x.op=q at *;obtain⟨qa,qb,qn,qg,qf,qw⟩:=q;simp only at hins;refine go ?_;refine Vu (zJ3 (xs:=#[.bool qa,.bool qb,.bool qn,.bool qg,.bool qf,.bool qw]) (ys:=#[.bool false,.bool false,.bool false,.bool false,.bool false,.bool false]) (b:=decide ((qa,qb,qn,qg,qf,qw)=(false,false,false,false,false,false))) (by kernel_rfl) (by cases qa<;>cases qb<;>cases qn<;>cases qg<;>cases qf<;>cases qw<;>rfl)) ?_;replace o5:U6 h3 h5 p5 [.bool qa,.bool qb,.bool qn,.bool qg,.bool qf,.bool qw]:=o5;obtain⟨c0,hc0⟩:∃ c:Bool,c=decide ((qa,qb,qn,qg,qf,qw)=(false,false,false,false,false,false)):=⟨_,rfl⟩;rw[<-hc0]at hins;rw[<-hc0];refine VU 12 (fun t' h'=>h5=h'/\zB t' 25=.bool (c0||(qa&& !zS x.a s.regs))) ?_ ?_<;>simp only[Qs,GE,GN,Q0]
 ·refine go ?_;refine VI (fun hc=> ?_) (fun hc=> ?_)<;>refine go ?_
  ·exact⟨rfl,rfl,rfl,by simp only[hc,Qd,Qg,Ql,Qj,Qo,Qq,Qr,Qv,QY,Qf];exact WA⟩
  refine VI (fun hd=> ?_) (fun hd=> ?_)<;>(try simp only[DB]at hd)<;>refine go ?_
  ·refine VA (y9 h5 x.a s.regs) ?_;rintro _ _ ⟨rfl,rfl⟩;refine go ?_;exact⟨rfl,rfl,rfl,by simp only[hc,hd,Qd,Qg,Ql,Qj,Qo,Qq,Qr,Qv,QY,Qf];exact WA⟩
  ·exact⟨rfl,rfl,rfl,by simp only[hc,hd,Qd,Qg,Ql,Qj,Qo,Qq,Qr,Qv,QY,Qf];exact WA⟩
 rintro t1 _ hs1 ⟨rfl,s25⟩;obtain⟨c1,hc1⟩:∃ c:Bool,c=(c0||(qa&& !zS x.a s.regs)):=⟨_,rfl⟩;rw[<-hc1]at s25 hins;refine VU 12 (fun t' h'=>h5=h'/\zB t' 37=.bool (c1||(qb&& !zS x.b s.regs))) ?_ ?_<;>simp only[Qs,GE,GN,Q0]
 ·refine go ?_;refine VI (fun hc=> ?_) (fun hc=> ?_)<;>refine go ?_
  ·exact⟨rfl,rfl,rfl,by simp only[hc,Qd,Qg,Ql,Qj,Qo,Qq,Qr,Qv,QY,Qf];exact WA⟩
  refine VI (fun hd=> ?_) (fun hd=> ?_)<;>(try simp only[DB]at hd)<;>refine go ?_
  ·refine VA (y9 h5 x.b s.regs) ?_;rintro _ _ ⟨rfl,rfl⟩;refine go ?_;exact⟨rfl,rfl,rfl,by simp only[hc,hd,Qd,Qg,Ql,Qj,Qo,Qq,Qr,Qv,QY,Qf];exact WA⟩
  ·exact⟨rfl,rfl,rfl,by simp only[hc,hd,Qd,Qg,Ql,Qj,Qo,Qq,Qr,Qv,QY,Qf];exact WA⟩
 rintro t2 _ hs2 ⟨rfl,s37⟩;obtain⟨c2,hc2⟩:∃ c:Bool,c=(c1||(qb&& !zS x.b s.regs)):=⟨_,rfl⟩;rw[<-hc2]at s37 hins;refine VU 8 (fun t' h'=>U8 h5 h'/\zB t' 45=.bool (c2|| !zFJ x.args s.regs)) ?_ ?_<;>simp only[Qs,GE,GN,Q0]
 ·refine go ?_;refine VI (fun hc=> ?_) (fun hc=> ?_)<;>refine go ?_
  ·exact⟨rfl,rfl,U8.refl _,by simp only[hc,Qd,Qg,Ql,Qj,Qo,Qq,Qr,Qv,QY,Qf];exact WA⟩
  refine VA (zPt h5 va s.regs x.args sa5 hla) ?_;rintro _ h6 ⟨rfl,e6⟩;refine go ?_;exact⟨rfl,rfl,e6,by simp only[hc,Qd,Qg,Ql,Qj,Qo,Qq,Qr,Qv,QY,Qf];exact WA⟩
 rintro t3 h6 hs3 ⟨e6,s45⟩;obtain⟨c3,hc3⟩:∃ c:Bool,c=(c2|| !zFJ x.args s.regs):=⟨_,rfl⟩;rw[<-hc3]at s45 hins;have o1:=o1.ext e6;have o2:=o2.ext e6;have o5:=o5.ext e6;have sa6:=sa5.ext e6;have sf6:=sf5.ext e6;have e16:=e15.trans e6;refine VU 6 (fun t' h'=>U8 h6 h'/\zB t' 51=.bool (c3|| !zAJ x s)) ?_ ?_<;>simp only[Qs,GE,GN,Q0]
 ·refine go ?_;refine VI (fun hc=> ?_) (fun hc=> ?_)<;>refine go ?_
  ·exact⟨rfl,rfl,U8.refl _,by simp only[hc,Qd,Qg,Ql,Qj,Qo,Qq,Qr,Qv,QY,Qf];exact WA⟩
  refine VA (zM5 h6 x va vf s) ?_;rintro _ h7 ⟨rfl,e7⟩;refine go ?_;exact⟨rfl,rfl,e7,by simp only[hc,Qd,Qg,Ql,Qj,Qo,Qq,Qr,Qv,QY,Qf];exact WA⟩
 rintro t4 h7 hs4 ⟨e7,s51⟩;obtain⟨c4,hc4⟩:∃ c:Bool,c=(c3|| !zAJ x s):=⟨_,rfl⟩;rw[<-hc4]at s51 hins;have o1:=o1.ext e7;have o2:=o2.ext e7;have o5:=o5.ext e7;have sa7:=sa6.ext e7;have sf7:=sf6.ext e7;have e17:=e16.trans e7;refine go ?_;refine VE (fun hz=> ?_) (fun hz=> ?_)<;>rw[hz]at hins
 ·refine gr ?_;exact⟨by rw[hins];rfl,e17⟩
 refine goC ?_;refine goC ?_;refine VU 8 (fun t' h'=>h7=h'/\zB t' 59=.bool (!qa&& !decide (x.a=0))) ?_ ?_<;>simp only[Qs,GE,GN,Q0]
 ·refine go ?_;refine VI (fun hd=> ?_) (fun hd=> ?_)<;>(try simp only[DB]at hd)<;>refine go ?_
  ·exact⟨rfl,rfl,rfl,by simp only[hd,Qd,Qg,Ql,Qj,Qo,Qq,Qr,Qv,QY,Qf];exact WA⟩
  ·exact⟨rfl,rfl,rfl,by simp only[hd,Qd,Qg,Ql,Qj,Qo,Qq,Qr,Qv,QY,Qf];exact WA⟩
 rintro t5 _ hs5 ⟨rfl,s59⟩;obtain⟨d0,hd0⟩:∃ c:Bool,c=(!qa&& !decide (x.a=0)):=⟨_,rfl⟩;rw[<-hd0]at s59 hins;refine goC ?_;refine VU 10 (fun t' h'=>h7=h'/\zB t' 69=.bool (d0||(!qb&& !decide (x.b=0)))) ?_ ?_<;>simp only[Qs,GE,GN,Q0]
 ·refine go ?_;refine VI (fun hc=> ?_) (fun hc=> ?_)<;>refine go ?_
  ·exact⟨rfl,rfl,rfl,by simp only[hc,Qd,Qg,Ql,Qj,Qo,Qq,Qr,Qv,QY,Qf];exact WA⟩
  refine VI (fun hd=> ?_) (fun hd=> ?_)<;>(try simp only[DB]at hd)<;>refine go ?_
  ·exact⟨rfl,rfl,rfl,by simp only[hc,hd,Qd,Qg,Ql,Qj,Qo,Qq,Qr,Qv,QY,Qf];exact WA⟩
  ·exact⟨rfl,rfl,rfl,by simp only[hc,hd,Qd,Qg,Ql,Qj,Qo,Qq,Qr,Qv,QY,Qf];exact WA⟩
 rintro t6 _ hs6 ⟨rfl,s69⟩;obtain⟨d1,hd1⟩:∃ c:Bool,c=(d0||(!qb&& !decide (x.b=0))):=⟨_,rfl⟩;rw[<-hd1]at s69 hins;refine goC ?_;refine VU 10 (fun t' h'=>h7=h'/\zB t' 79=.bool (d1||(!qn&& !decide (x.n=0)))) ?_ ?_<;>simp only[Qs,GE,GN,Q0]
 ·refine go ?_;refine VI (fun hc=> ?_) (fun hc=> ?_)<;>refine go ?_
  ·exact⟨rfl,rfl,rfl,by simp only[hc,Qd,Qg,Ql,Qj,Qo,Qq,Qr,Qv,QY,Qf];exact WA⟩
  refine VI (fun hd=> ?_) (fun hd=> ?_)<;>(try simp only[DB]at hd)<;>refine go ?_
  ·exact⟨rfl,rfl,rfl,by simp only[hc,hd,Qd,Qg,Ql,Qj,Qo,Qq,Qr,Qv,QY,Qf];exact WA⟩
  ·exact⟨rfl,rfl,rfl,by simp only[hc,hd,Qd,Qg,Ql,Qj,Qo,Qq,Qr,Qv,QY,Qf];exact WA⟩
 rintro t7 _ hs7 ⟨rfl,s79⟩;obtain⟨d2,hd2⟩:∃ c:Bool,c=(d1||(!qn&& !decide (x.n=0))):=⟨_,rfl⟩;rw[<-hd2]at s79 hins;refine goC ?_;refine VU 11 (fun t' h'=>h7=h'/\zB t' 90=.bool (d2||(!qg&&decide (0<(x.args.length:Int))))) ?_ ?_<;>simp only[Qs,GE,GN,Q0]
 ·refine go ?_;refine VI (fun hc=> ?_) (fun hc=> ?_)<;>refine go ?_
  ·exact⟨rfl,rfl,rfl,by simp only[hc,Qd,Qg,Ql,Qj,Qo,Qq,Qr,Qv,QY,Qf];exact WA⟩
  refine VI (fun hd=> ?_) (fun hd=> ?_)<;>(try simp only[DB]at hd)<;>refine go ?_
  ·exact⟨rfl,rfl,rfl,by simp only[hc,hd,Qd,Qg,Ql,Qj,Qo,Qq,Qr,Qv,QY,Qf];exact WA⟩
  ·exact⟨rfl,rfl,rfl,by simp only[hc,hd,Qd,Qg,Ql,Qj,Qo,Qq,Qr,Qv,QY,Qf];exact WA⟩
 rintro t8 _ hs8 ⟨rfl,s90⟩;obtain⟨d3,hd3⟩:∃ c:Bool,c=(d2||(!qg&&decide (0<(x.args.length:Int)))):=⟨_,rfl⟩;rw[<-hd3]at s90 hins;refine goC ?_;refine VU 12 (fun t' h'=>h7=h'/\zB t' 6=.bool (d3||(!qf&&decide (0<(x.frm.length:Int))))) ?_ ?_<;>simp only[Qs,GE,GN,Q0]
 ·refine go ?_;refine VI (fun hc=> ?_) (fun hc=> ?_)<;>refine go ?_
  ·exact⟨rfl,rfl,rfl,by simp only[hc,Qd,Qg,Ql,Qj,Qo,Qq,Qr,Qv,QY,Qf];exact WA⟩
  refine VI (fun hd=> ?_) (fun hd=> ?_)<;>(try simp only[DB]at hd)<;>refine go ?_
  ·exact⟨rfl,rfl,rfl,by simp only[hc,hd,Qd,Qg,Ql,Qj,Qo,Qq,Qr,Qv,QY,Qf];exact WA⟩
  ·exact⟨rfl,rfl,rfl,by simp only[hc,hd,Qd,Qg,Ql,Qj,Qo,Qq,Qr,Qv,QY,Qf];exact WA⟩
 rintro t9 _ hs9 ⟨rfl,s6⟩;obtain⟨d4,hd4⟩:∃ c:Bool,c=(d3||(!qf&&decide (0<(x.frm.length:Int)))):=⟨_,rfl⟩;rw[<-hd4]at s6 hins;refine goC ?_;refine VU 9 (fun t' h'=>h7=h'/\zB t' 110=.bool (qw&&zS x.ty s.types)) ?_ ?_<;>simp only[Qs,GE,GN,Q0]
 ·refine go ?_;refine VI (fun hd=> ?_) (fun hd=> ?_)<;>(try simp only[DB]at hd)<;>refine go ?_
  ·refine VA (y9 h7 x.ty s.types) ?_;rintro _ _ ⟨rfl,rfl⟩;refine go ?_;exact⟨rfl,rfl,rfl,by simp only[hd,Qd,Qg,Ql,Qj,Qo,Qq,Qr,Qv,QY,Qf];exact WA⟩
  ·exact⟨rfl,rfl,rfl,by simp only[hd,Qd,Qg,Ql,Qj,Qo,Qq,Qr,Qv,QY,Qf];exact WA⟩
 rintro t10 _ hs10 ⟨rfl,s110⟩;obtain⟨k0,hk0⟩:∃ c:Bool,c=(qw&&zS x.ty s.types):=⟨_,rfl⟩;rw[<-hk0]at s110 hins;refine goC ?_;refine VU 11 (fun t' h'=>h7=h'/\zB t' 7=.bool (k0||(!qw&&decide (x.ty=0)))) ?_ ?_<;>simp only[Qs,GE,GN,Q0]
 ·refine go ?_;refine VI (fun hc=> ?_) (fun hc=> ?_)<;>refine go ?_
  ·exact⟨rfl,rfl,rfl,by simp only[hc,Qd,Qg,Ql,Qj,Qo,Qq,Qr,Qv,QY,Qf];exact WA⟩
  refine VI (fun hd=> ?_) (fun hd=> ?_)<;>(try simp only[DB]at hd)<;>refine go ?_
  ·exact⟨rfl,rfl,rfl,by simp only[hc,hd,Qd,Qg,Ql,Qj,Qo,Qq,Qr,Qv,QY,Qf];exact WA⟩
  ·exact⟨rfl,rfl,rfl,by simp only[hc,hd,Qd,Qg,Ql,Qj,Qo,Qq,Qr,Qv,QY,Qf];exact WA⟩
 rintro t11 _ hs11 ⟨rfl,s7⟩;obtain⟨k1,hk1⟩:∃ c:Bool,c=(k0||(!qw&&decide (x.ty=0))):=⟨_,rfl⟩;rw[<-hk1]at s7 hins;refine go ?_;refine VE (fun hf=> ?_) (fun hf=> ?_)<;>rw[hf]at hins<;>refine go ?_
 ·refine VI (fun hd=> ?_) (fun hd=> ?_)<;>(try simp only[DB]at hd)<;>refine go ?_
  ·refine VI (fun he=> ?_) (fun he=> ?_)<;>refine go ?_
   ·refine VA (zPt h7 vf s.blocks x.frm sf7 hlf) ?_;rintro _ h8 ⟨rfl,e8⟩;have o1:=o1.ext e8;have sa8:=sa7.ext e8;have sf8:=sf7.ext e8;refine go ?_;refine VI (fun hg=> ?_) (fun hg=> ?_)<;>refine go ?_
    ·refine VI (fun hh=> ?_) (fun hh=> ?_)<;>simp only[DB]at hh<;>refine go ?_
     ·refine VI (fun hi=> ?_) (fun hi=> ?_)<;>simp only[DB]at hi<;>refine go ?_
      ·refine rt ?_;refine⟨?_,e17.trans e8⟩;have hdec:decide ((x.frm.length:Int)<=16)=decide (x.frm.length<=16):=by rw[GO];simp only[QV];omega
       rw[hdec,hins,hd,he,hg,Qe (show x.frm.length=x.args.length by omega),Qe (show 1<=x.frm.length by omega)];rfl
      ·refine rt ?_;refine⟨?_,e17.trans e8⟩;rw[hins,hd,he,hg,Qe (show x.frm.length=x.args.length by omega),Qb (show ¬1<=x.frm.length by omega)];rfl
     ·refine rt ?_;refine⟨?_,e17.trans e8⟩;rw[hins,hd,he,hg,Qb (show ¬x.frm.length=x.args.length by omega)];rfl
    ·refine rt ?_;refine⟨?_,e17.trans e8⟩;rw[hins,hd,he,hg];rfl
   ·refine rt ?_;refine⟨?_,e17⟩;rw[hins,hd,he];rfl
  ·refine rt ?_;refine⟨?_,e17⟩;rw[hins,hd];rfl
 ·refine VI (fun hd=> ?_) (fun hd=> ?_)<;>(try simp only[DB]at hd)<;>refine go ?_
  ·refine VI (fun he=> ?_) (fun he=> ?_)<;>refine go ?_
   ·refine rt ?_;refine⟨?_,e17⟩;have hdec:decide ((x.args.length:Int)<=4)=decide (x.args.length<=4):=by rw[GO];simp only[QV];omega
    rw[hdec,hins,hd,he];rfl
   ·refine rt ?_;refine⟨?_,e17⟩;rw[hins,hd,he];rfl
  ·refine rt ?_;refine⟨?_,e17⟩;rw[hins,hd];rfl
set_option maxRecDepth 100000
theorem zJ{α:Type}[Inhabited α]{l:List α}{i:Nat}(h:i<l.length):l.getD i default∈l:=by
 simp[List.getD,QB h]
theorem YR{α:Type}[Inhabited α]{l:List α}{x:α}(h:x∈l):∃ i,i<l.length/\l.getD i default=x:=by
 obtain⟨i,hi,e⟩:=List.getElem_of_mem h;exact⟨i,hi,by simp[List.getD,QB hi,e]⟩
def zMV:U3:=(oV (oR [oB .lss 9 8 7]) (oV (oT 9 0) (oV (o5 1 (oV (oR [oM 10 8,oM 5 10]) (oV (oR [oM 11 1,oM 12 0,oM 13 5,oI 7 14 12 13,oA 7 15 14,⟨some 16,none,(.call (.tmp 11) [(.tmp 15)])⟩]) (oJ 16 (oV (oR [oM 17 5,oM 4 17]) .ret) .skip)))) (oR [oC .add 18 8 1,oM 8 18]))))
def zRG:U3:=(oV (oR [oN 4 0]) (oV (oV (oR [oM 6 0,oQ 7 6,oN 8 0]) (o5 0 (.loop zMV))) (oV (oR [oN 4 (-1)]) .ret)))
theorem zOm(h:U2)(v fv:Value)(l:List Wg)(p:Wg->Bool)(s:BW h v l)(hl:(l.length:Int)<=9223372036854775807)(hf:∀ x∈l,∀ h1,U8 h h1->∀ cs,BM h1 cs x->WV Tryz.prog tb fv [.agg cs.toArray] h1 fun r h'=>r=.bool (p x)/\U8 h1 h'):
  WC Tryz.prog tb 174 [v,fv] h fun r h'=>(∃ n:Int,r=I n/\(decide (0<=n))=l.any p)/\U8 h h':=by
 refine en 19 [(4,none)] zRG ?_;refine VD [9,10,5,11,12,13,14,15,16,17,4,18,8] (by kernel_rfl) (fun i=>l.length-i) (fun i t h1=>U8 h h1/\zB t 8=I i/\i<=l.length/\∀ j,j<i->p (l.getD j default)=false) 0 ?_ ?_
 ·exact⟨U8.refl h,WA,QT _,fun j hj=>absurd hj (GR _)⟩
 rintro i t h1 hsame ⟨e1,s8,hi,hm⟩;have s1:=BW.ext s e1;refine go ?_;refine VE (fun hb=> ?_) (fun hb=> ?_)<;>simp only[DB]at hb
 ·have hi':i<l.length:=by omega
  obtain⟨cs,hcs,pc,hs⟩:=yv s1 hi';have hff:=hf _ (zJ hi') h1 e1 cs hcs;obtain⟨va,vf,rfl,hR⟩:=hcs;refine go ?_;refine VN hff ?_;rintro _ h2 ⟨rfl,e2⟩;refine go ?_;refine VE (fun hb=> ?_) (fun hb=> ?_)
  ·refine gr ?_;refine⟨⟨i,rfl,?_⟩,e1.trans e2⟩;rw[JG.2 ⟨_,zJ hi',hb⟩];simp
  ·refine go ?_;refine zA (i+1) (by omega) ⟨e1.trans e2,Wx,by omega,fun j hj=> ?_⟩;by_cases e:j=i
   ·subst e;exact hb
   ·exact hm j (by omega)
 ·refine gr ?_;refine⟨⟨-1,rfl,?_⟩,e1⟩;rw[zBk fun x hx=>by obtain⟨j,hj,rfl⟩:=YR hx;exact hm j (by omega)];rfl
def zSH:U3:=(oV (oR [oZ 4]) (oV (oR [oM 5 0,oM 6 1,o2 7 174 5 6,oC .geq 8 7 0,oM 4 8]) .ret))
theorem zN7(h:U2)(v fv:Value)(l:List Wg)(p:Wg->Bool)(s:BW h v l)(hl:(l.length:Int)<=9223372036854775807)(hf:∀ x∈l,∀ h1,U8 h h1->∀ cs,BM h1 cs x->WV Tryz.prog tb fv [.agg cs.toArray] h1 fun r h'=>r=.bool (p x)/\U8 h1 h'):
  WC Tryz.prog tb 115 [v,fv] h fun r h'=>r=.bool (l.any p)/\U8 h h':=by
 refine en 9 [(4,none)] zSH ?_;refine VA (zOm h v fv l p s hl hf) ?_;rintro _ h1 ⟨⟨n,rfl,e⟩,e1⟩;refine gr ?_;exact⟨by rw[<-e];rfl,e1⟩
def zMl:U3:=(oV (oR [oB .lss 9 8 7]) (oV (oT 9 0) (oV (o5 1 (oV (oR [oM 10 8,oM 5 10]) (oV (oR [oM 11 1,oM 12 0,oM 13 5,oI 5 14 12 13,oA 5 15 14,⟨some 16,none,(.call (.tmp 11) [(.tmp 15)])⟩]) (oJ 16 (oV (oR [oM 17 5,oM 4 17]) .ret) .skip)))) (oR [oC .add 18 8 1,oM 8 18]))))
def zRP:U3:=(oV (oR [oN 4 0]) (oV (oV (oR [oM 6 0,oQ 7 6,oN 8 0]) (o5 0 (.loop zMl))) (oV (oR [oN 4 (-1)]) .ret)))
theorem zO3(h:U2)(v fv:Value)(l:List WW)(p:WW->Bool)(s:BF h v l)(hl:(l.length:Int)<=9223372036854775807)(hf:∀ x∈l,∀ h1,U8 h h1->∀ cs,Bh h1 cs x->WV Tryz.prog tb fv [.agg cs.toArray] h1 fun r h'=>r=.bool (p x)/\U8 h1 h'):
  WC Tryz.prog tb 173 [v,fv] h fun r h'=>(∃ n:Int,r=I n/\(decide (0<=n))=l.any p)/\U8 h h':=by
 refine en 19 [(4,none)] zRP ?_;refine VD [9,10,5,11,12,13,14,15,16,17,4,18,8] (by kernel_rfl) (fun i=>l.length-i) (fun i t h1=>U8 h h1/\zB t 8=I i/\i<=l.length/\∀ j,j<i->p (l.getD j default)=false) 0 ?_ ?_
 ·exact⟨U8.refl h,WA,QT _,fun j hj=>absurd hj (GR _)⟩
 rintro i t h1 hsame ⟨e1,s8,hi,hm⟩;have s1:=BF.ext s e1;refine go ?_;refine VE (fun hb=> ?_) (fun hb=> ?_)<;>simp only[DB]at hb
 ·have hi':i<l.length:=by omega
  obtain⟨cs,hcs,pc,hs⟩:=yv s1 hi';have hff:=hf _ (zJ hi') h1 e1 cs hcs;obtain⟨va,rfl,hR⟩:=hcs;refine go ?_;refine VN hff ?_;rintro _ h2 ⟨rfl,e2⟩;refine go ?_;refine VE (fun hb=> ?_) (fun hb=> ?_)
  ·refine gr ?_;refine⟨⟨i,rfl,?_⟩,e1.trans e2⟩;rw[JG.2 ⟨_,zJ hi',hb⟩];simp
  ·refine go ?_;refine zA (i+1) (by omega) ⟨e1.trans e2,Wx,by omega,fun j hj=> ?_⟩;by_cases e:j=i
   ·subst e;exact hb
   ·exact hm j (by omega)
 ·refine gr ?_;refine⟨⟨-1,rfl,?_⟩,e1⟩;rw[zBk fun x hx=>by obtain⟨j,hj,rfl⟩:=YR hx;exact hm j (by omega)];rfl
def zSF:U3:=(oV (oR [oZ 4]) (oV (oR [oM 5 0,oM 6 1,o2 7 173 5 6,oC .geq 8 7 0,oM 4 8]) .ret))
theorem zNM(h:U2)(v fv:Value)(l:List WW)(p:WW->Bool)(s:BF h v l)(hl:(l.length:Int)<=9223372036854775807)(hf:∀ x∈l,∀ h1,U8 h h1->∀ cs,Bh h1 cs x->WV Tryz.prog tb fv [.agg cs.toArray] h1 fun r h'=>r=.bool (p x)/\U8 h1 h'):
  WC Tryz.prog tb 113 [v,fv] h fun r h'=>r=.bool (l.any p)/\U8 h h':=by
 refine en 9 [(4,none)] zSF ?_;refine VA (zO3 h v fv l p s hl hf) ?_;rintro _ h1 ⟨⟨n,rfl,e⟩,e1⟩;refine gr ?_;exact⟨by rw[<-e];rfl,e1⟩
def zMU:U3:=(oV (oR [oB .lss 9 8 7]) (oV (oT 9 0) (oV (o5 1 (oV (oR [oM 10 8,oM 5 10]) (oV (oR [oM 11 1,oM 12 0,oM 13 5,oI 2 14 12 13,oA 2 15 14,⟨some 16,none,(.call (.tmp 11) [(.tmp 15)])⟩]) (oJ 16 (oV (oR [oM 17 5,oM 4 17]) .ret) .skip)))) (oR [oC .add 18 8 1,oM 8 18]))))
def zSX:U3:=(oV (oR [oN 4 0]) (oV (oV (oR [oM 6 0,oQ 7 6,oN 8 0]) (o5 0 (.loop zMU))) (oV (oR [oN 4 (-1)]) .ret)))
theorem zRX(h:U2)(v fv:Value)(l:List WP)(p:WP->Bool)(s:Wr h v l)(hl:(l.length:Int)<=9223372036854775807)(hf:∀ x∈l,∀ h1,U8 h h1->∀ cs,RFn h1 cs x->WV Tryz.prog tb fv [.agg cs.toArray] h1 fun r h'=>r=.bool (p x)/\U8 h1 h'):
  WC Tryz.prog tb 110 [v,fv] h fun r h'=>(∃ n:Int,r=I n/\(decide (0<=n))=l.any p)/\U8 h h':=by
 refine en 19 [(4,none)] zSX ?_;refine VD [9,10,5,11,12,13,14,15,16,17,4,18,8] (by kernel_rfl) (fun i=>l.length-i) (fun i t h1=>U8 h h1/\zB t 8=I i/\i<=l.length/\∀ j,j<i->p (l.getD j default)=false) 0 ?_ ?_
 ·exact⟨U8.refl h,WA,QT _,fun j hj=>absurd hj (GR _)⟩
 rintro i t h1 hsame ⟨e1,s8,hi,hm⟩;have s1:=Wr.ext s e1;refine go ?_;refine VE (fun hb=> ?_) (fun hb=> ?_)<;>simp only[DB]at hb
 ·have hi':i<l.length:=by omega
  obtain⟨cs,hcs,pc,hs⟩:=yv s1 hi';have hff:=hf _ (zJ hi') h1 e1 cs hcs;obtain⟨va,rfl,hR⟩:=hcs;refine go ?_;refine VN hff ?_;rintro _ h2 ⟨rfl,e2⟩;refine go ?_;refine VE (fun hb=> ?_) (fun hb=> ?_)
  ·refine gr ?_;refine⟨⟨i,rfl,?_⟩,e1.trans e2⟩;rw[JG.2 ⟨_,zJ hi',hb⟩];simp
  ·refine go ?_;refine zA (i+1) (by omega) ⟨e1.trans e2,Wx,by omega,fun j hj=> ?_⟩;by_cases e:j=i
   ·subst e;exact hb
   ·exact hm j (by omega)
 ·refine gr ?_;refine⟨⟨-1,rfl,?_⟩,e1⟩;rw[zBk fun x hx=>by obtain⟨j,hj,rfl⟩:=YR hx;exact hm j (by omega)];rfl
def zUt:U3:=(oV (oR [oZ 4]) (oV (oR [oM 5 0,oM 6 1,o2 7 110 5 6,oC .geq 8 7 0,oM 4 8]) .ret))
theorem zQ4(h:U2)(v fv:Value)(l:List WP)(p:WP->Bool)(s:Wr h v l)(hl:(l.length:Int)<=9223372036854775807)(hf:∀ x∈l,∀ h1,U8 h h1->∀ cs,RFn h1 cs x->WV Tryz.prog tb fv [.agg cs.toArray] h1 fun r h'=>r=.bool (p x)/\U8 h1 h'):
  WC Tryz.prog tb 72 [v,fv] h fun r h'=>r=.bool (l.any p)/\U8 h h':=by
 refine en 9 [(4,none)] zUt ?_;refine VA (zRX h v fv l p s hl hf) ?_;rintro _ h1 ⟨⟨n,rfl,e⟩,e1⟩;refine gr ?_;exact⟨by rw[<-e];rfl,e1⟩
set_option maxRecDepth 100000
abbrev szV(s:Br):List Value:=[I s.types,I s.funcs,I s.regs,I s.blocks]
def zQ1:U3:=(oV (oR [oX 2 0,oZ 3]) (oV (oR [oA 7 4 2,oA 4 5 1,o2 6 112 4 5,oW 7 6,oM 3 7]) .ret))
theorem zUv(h h0:U2)(p:Value)(x:Wg)(s:Br)(cs:List Value)(T:Be h)(hR:BM h cs x)(o:U6 h0 h p (szV s)):
  WC Tryz.prog tb 111 [.agg cs.toArray,p] h fun r h'=>r=.bool (!zCb x s)/\U8 h h':=by
 obtain⟨va,vf,rfl,sa,sf,hla,hlf,ho⟩:=hR;refine en 8 [(3,none)] zQ1 ?_;refine VH ?_;intro p2 h1 e1 o1;have o:=o.ext e1;refine go ?_;refine VA (zTI h1 x va vf s (T.ext e1) (sa.ext e1) (sf.ext e1) (by omega) (by omega) ho) ?_;rintro _ h2 ⟨rfl,e2⟩;refine gr ?_;exact⟨rfl,e1.trans e2⟩
def zRv:U3:=(oV (oR [oX 3 0,oZ 4]) (oV (oR [oF 0 5 3,oL 6 5,oL 7 1,o2 8 115 6 7,oM 9 8,oH 9 (oF 1 10 3),oH 9 (oA 4 11 10),oH 9 (oA 4 12 2),oH 9 (o2 13 116 11 12),oH 9 (oW 14 13),oO 15 9 14,oM 4 15]) .ret))
theorem zUm(h h0 h00:U2)(p1 p2:Value)(b:WW)(s:Br)(cs:List Value)(T:Be h)(hR:Bh h cs b)(o1:U6 h0 h p1 [.func (.func 111) #[] #[p2]])(o2:U6 h00 h p2 (szV s)):
  WC Tryz.prog tb 114 [.agg cs.toArray,p1,p2] h fun r h'=>r=.bool (zCc b s)/\U8 h h':=by
 obtain⟨vi,rfl,si,hl⟩:=hR;refine en 16 [(4,none)] zRv ?_;refine VH ?_;intro p3 h1 e1 o3;have o1:=o1.ext e1;have o2:=o2.ext e1;have T1:=T.ext e1;refine go ?_;refine VA (zN7 h1 vi _ b.ins (fun x=> !zCb x s) (BW.ext si e1) (by omega) ?_) ?_
 ·intro x hx h2 e2 cs hcs;exact WV.func (zUv h2 h00 p2 x s cs (T1.ext e2) hcs (o2.ext e2))
 rintro _ h2 ⟨rfl,e2⟩;have o3:=o3.ext e2;have o2:=o2.ext e2;refine go ?_;refine VI (fun hb=> ?_) (fun hb=> ?_)<;>refine go ?_
 ·refine rt ?_;exact⟨by simp only[zCc,hb,Qq];rfl,e1.trans e2⟩
 ·refine VA (zTz h2 b.fin s) ?_;rintro _ h3 ⟨rfl,e3⟩;refine gr ?_;exact⟨by simp only[zCc,hb,Qo];rfl,(e1.trans e2).trans e3⟩
theorem zAc(l:List WW):0<=zI l:=by
 unfold zI;induction l with
 |nil=>simp
 |cons b l ih=>simp only[Qm,G9];omega
def zTS:U3:=(oV (oR [oX 2 0,oX 3 1,oZ 4]) (oV (oV (oR [oF 0 7 3,oL 8 7,oF 0 9 2,oL 10 9,oQ 11 10,o2 12 42 8 11,oW 13 12,oM 14 13,oH 14 (oF 0 15 2),oH 14 (oL 16 15),oH 14 (oF 0 17 3),oH 14 (oL 18 17),oH 14 (oI 4 19 16 18),oH 14 (oF 0 20 19),oH 14 (oL 21 20),oH 14 (oD .neq 22 21 3),oO 23 14 22,oM 24 23,oH 24 (oF 1 25 3),oH 24 (oL 26 25),oH 24 (oQ 27 26),oH 24 (oC .sub 28 27 1),⟨some 29,some (24,false),(.call (.func 42) [(.tmp 28),(.const (.int .i64 16))])⟩,oH 24 (oW 30 29),oO 31 24 30,oM 32 31,oH 32 (oA 2 33 3),oH 32 (o1 34 41 33),oH 32 (oC .gtr 35 34 128),oO 36 32 35]) (oJ 36 (oV (oR [oZ 4]) .ret) .skip)) (oV (o6 [oF 0 37 2,oL 38 37,oQ 39 38,oF 1 40 2,oL 41 40,oQ 42 41,oF 0 43 2,oL 44 43,oF 0 45 3,oL 46 45,oI 4 47 44 46,oF 3 48 47,oL 49 48,oQ 50 49,oA 2 51 3,(o1 52 41 51,[1,4,7,9,12]),oB .add 53 50 52,oF 1 54 3,(oL 55 54,[15]),oQ 56 55,(⟨some 57,none,(.build [(.int .i64 0),(.int .i64 0),(.int .i64 0),(.int .i64 0)] [(0,1,(.tmp 39)),(1,1,(.tmp 42)),(2,1,(.tmp 53)),(3,1,(.tmp 56))])⟩,[]),(⟨some 5,none,(.alloc [(.int .i64 0),(.int .i64 0),(.int .i64 0),(.int .i64 0)])⟩,[]),oS 4 5 57]) (oV (oR [⟨some 58,none,(.mkFunc (.func 111) [] [(.tmp 5)])⟩,⟨some 6,none,(.alloc [.nilFunc])⟩,oS 1 6 58]) (oV (oR [oF 1 59 3,oL 60 59,⟨some 61,none,(.mkFunc (.func 114) [] [(.tmp 6),(.tmp 5)])⟩,o2 62 113 60 61,oW 63 62,oM 4 63]) .ret)))))
theorem zVc(h:U2)(vt vf vb:Value)(T:List U5)(F:List WP)(f:WP)(tt:Be h)(hm:h.mark<=h.n)(st:Wv h vt T)(sf:Wr h vf F)(sb:BF h vb f.blocks)(hT:T.length<=100)(hp:∀ x∈T,x.parts.length<=100)(hF:(F.length:Int)<=9223372036854775807)(hB:f.blocks.length<=1000)(hI:∀ b∈f.blocks,b.ins.length<=1000):
  WC Tryz.prog tb 74 [.agg #[vt,vf],.agg #[I f.sig,vb]] h fun r h'=>r=.bool (BX T F.length f)/\U8 h h':=by
 refine en 64 [(4,none)] zTS ?_;refine VH ?_;intro p2 h1 e1 o1;refine VH ?_;intro p3 h2 e2 o2;have o1:=o1.ext e2;have e12:=e1.trans e2;have st2:=st.ext e12;have sf2:=Wr.ext sf e12;have sb2:=BF.ext sb e12;have tt2:=tt.ext e12;have hm2:h2.mark<=h2.n:=by have:=e12.mark;have:=e12.n;omega
 have hbad:zBl T f=zBl T f:=rfl;conv at hbad=>rhs;unfold zBl
 refine go ?_;refine VA (y9 h2 f.sig T.length) ?_;rintro _ _ ⟨rfl,rfl⟩;refine go ?_;refine VI (fun hb=> ?_) (fun hb=> ?_)<;>simp only[DB]at hb<;>refine go ?_
 ·refine rt ?_;refine⟨?_,e12⟩;rw[BX,QI (show zBl T f=true by rw[hbad,hb];rfl)];rfl
 have hsig:0<=f.sig/\f.sig<(T.length:Int):=by
  unfold zS at hb;simpa using hb
 obtain⟨csT,⟨vp,rfl,sp,hsp⟩,pcT,hsT⟩:=ZL (i:=f.sig.toNat) st2 (by omega);have hpx:(T.getD f.sig.toNat default).parts.length<=100:=hp _ (zJ (by omega));refine go ?_;refine VI (fun hc=> ?_) (fun hc=> ?_)<;>simp only[DB]at hc<;>refine go ?_
 ·refine rt ?_;refine⟨?_,e12⟩;rw[BX,QI (show zBl T f=true by rw[hbad,hb,Qb hc];rfl)];rfl
 refine VA (y9 h2 ((f.blocks.length:Int)-1) 16) ?_;rintro _ _ ⟨rfl,rfl⟩;refine go ?_;refine VI (fun hd=> ?_) (fun hd=> ?_)<;>simp only[DB]at hd<;>refine go ?_
 ·refine rt ?_;refine⟨?_,e12⟩;rw[BX,QI (show zBl T f=true by rw[hbad,hb,Qe hc,hd];rfl)];rfl
 refine VA (zD3 h2 f.sig vb f.blocks sb2 hB hI) ?_;rintro _ h3 ⟨rfl,e3⟩;have e13:=e12.trans e3;have o1:=o1.ext e3;have o2:=o2.ext e3;have st3:=st2.ext e3;have sf3:=Wr.ext sf2 e3;have sb3:=BF.ext sb2 e3;have tt3:=tt2.ext e3;have hm3:h3.mark<=h3.n:=by have:=e3.mark;have:=e3.n;omega
 refine go ?_;refine VE (fun he=> ?_) (fun he=> ?_)<;>simp only[DB]at he<;>refine go ?_
 ·refine rt ?_;refine⟨?_,e13⟩;rw[BX,QI (show zBl T f=true by rw[hbad,hb,Qe hc,hd,Qe he];rfl)];rfl
 refine goC ?_;have hbadF:zBl T f=false:=by rw[hbad,hb,Qe hc,hd,Qb (by omega)];rfl
 obtain⟨a',n',k',rfl⟩:=zF st3;clear hbad hb hd pcT;refine VC 1 rfl rfl ?_;have e4:=za 1 h3;generalize hqq:zC 1 h3=h4 at *;have hn4:h4.n=h3.n+1:=by rw[<-hqq];rfl
 have o1r:U6 h (inC h4) p2 [.slice a' n' k',vf]:=by have:=o1.ext e4;exact this
 have o2r:U6 h1 (inC h4) p3 [I f.sig,vb]:=by have:=o2.ext e4;exact this
 have str:Wv (inC h4) (.slice a' n' k') T:=by have:=st3.ext e4;exact this
 have sfr:Wr (inC h4) vf F:=by have:=Wr.ext sf3 e4;exact this
 have sbr:BF (inC h4) vb f.blocks:=by have:=BF.ext sb3 e4;exact this
 obtain⟨csr,⟨vpr,rfl,spr,hspr⟩,pcr,hsr⟩:=ZL (i:=f.sig.toNat) str (by omega);refine WT ?_;refine VA (zD3 (inC h4) f.sig vb f.blocks sbr hB hI) ?_;rintro _ h5 ⟨rfl,e5⟩;refine WO.nil ?_;refine zS0 e5 rfl ?_;have o1s:U6 h (inC h5) p2 [.slice a' n' k',vf]:=by have:=o1r.ext e5;exact this
 have o2s:U6 h1 (inC h5) p3 [I f.sig,vb]:=by have:=o2r.ext e5;exact this
 have sbs:BF (inC h5) vb f.blocks:=by have:=BF.ext sbr e5;exact this
 have hmp:=zAc f.blocks;refine WT ?_;refine zP7 o2 (by omega) ?_;refine WT ?_;have hn5:h3.n<h5.n:=by have:h4.n<=h5.n:=e5.n;omega
 refine XD hm3 hn5 ?_;rw[<-hqq]at e5;have e6:=zIt (o:= .row [I 0,I 0,I 0,I 0] true 0) (o':= .row [I (T.length:Int),I (F.length:Int),I (((T.getD f.sig.toNat default).parts.length:Int)+zI f.blocks),I (f.blocks.length:Int)] true 0) (k:=0) e5;have o5:=zIb (cs:=[I (T.length:Int),I (F.length:Int),I (((T.getD f.sig.toNat default).parts.length:Int)+zI f.blocks),I (f.blocks.length:Int)]) (o:= .row [I 0,I 0,I 0,I 0] true 0) e5;unfold Bq;refine(?_:∀ h6,U8 h3 h6->U6 h3 h6 (.pointer (some ⟨h3.n,0,none⟩)) (szV (szL T F.length f))->zFC _ _ _ _ _ _ h6) _ e6 o5;clear e6 o5;intro h6 e6 o5;generalize Value.pointer (some ⟨h3.n,0,none⟩)=p5 at *;have o2:=o2.ext e6;have sb6:=BF.ext sb3 e6;have tt6:=tt3.ext e6;have e16:=e13.trans e6;refine go ?_;refine WO.al ?_;intro p6 h7 e7 o6;refine VG o6 e7 ?_;intro h8 e8 o6 _;have o2:=o2.ext e8;have o5:=o5.ext e8;have sb8:=BF.ext sb6 e8;have tt8:=tt6.ext e8;refine go ?_;refine VA (zNM h8 vb _ f.blocks (fun b=>zCc b (szL T F.length f)) sb8 (by omega) ?_) ?_
 ·intro b hb h9 e9 cs hcs;exact WV.func (zUm h9 h6 h3 p6 p5 b (szL T F.length f) cs (tt8.ext e9) hcs (o6.ext e9) (o5.ext e9))
 rintro _ h9 ⟨rfl,e9⟩;refine gr ?_;exact⟨by rw[BX,QC (by rw[hbadF];exact Bool.noConfusion)];rfl,(e16.trans e8).trans e9⟩
set_option maxRecDepth 100000
theorem yO{h h':U2}(e:U8 h h')(hm:h.mark<=h.n):h'.mark<=h'.n:=by have:=e.mark;have:=e.n;omega
def zTv:U3:=(oV (oR [oX 2 0,oZ 3]) (oV (oR [oA 2 4 1,oA 2 5 2,o2 6 74 4 5,oW 7 6,oM 3 7]) .ret))
theorem zQE(h h0:U2)(p vt vf:Value)(T:List U5)(F:List WP)(f:WP)(cs:List Value)(tt:Be h)(hm:h.mark<=h.n)(sm:BG T F)(hf:f∈F)(st:Wv h vt T)(sf:Wr h vf F)(hR:RFn h cs f)(o:U6 h0 h p [vt,vf]):
  WC Tryz.prog tb 73 [.agg cs.toArray,p] h fun r h'=>r=.bool (!BX T F.length f)/\U8 h h':=by
 obtain⟨vb,rfl,sb,hl⟩:=hR;refine en 8 [(3,none)] zTv ?_;refine VH ?_;intro p2 h1 e1 o1;have o:=o.ext e1;refine go ?_;refine VA (zVc h1 vt vf vb T F f (tt.ext e1) (yO e1 hm) (st.ext e1) (Wr.ext sf e1) (BF.ext sb e1) sm.types sm.parts (by have:=sm.funcs;omega) (sm.blocks f hf) (sm.ins f hf)) ?_;rintro _ h2 ⟨rfl,e2⟩;refine gr ?_;exact⟨rfl,e1.trans e2⟩
def zTO:U3:=(oV (oR [oX 1 0,oN 2 0]) (oV (oV (oR [oF 0 4 1,oL 5 4,o1 6 71 5,oM 3 6]) (oV (oR [oM 7 3,oC .neq 8 7 0]) (oJ 8 (oV (oR [oM 9 3,oM 2 9]) .ret) .skip))) (oV (oV (oR [oF 1 10 1,oL 11 10,oQ 12 11,oC .sub 13 12 1,⟨some 14,none,(.call (.func 42) [(.tmp 13),(.const (.int .i64 8))])⟩,oW 15 14,oM 16 15,oH 16 (oF 1 17 1),oH 16 (oL 18 17),⟨some 19,some (16,false),(.mkFunc (.func 73) [] [(.tmp 1)])⟩,oH 16 (o2 20 72 18 19),oO 21 16 20]) (oJ 21 (oV (oR [oN 2 60]) .ret) .skip)) (oV (oR [oN 2 0]) .ret))))
theorem zKv(h:U2)(vt vf:Value)(T:List U5)(F:List WP)(tt:Be h)(hm:h.mark<=h.n)(sm:BG T F)(st:Wv h vt T)(sf:Wr h vf F):
  WC Tryz.prog tb 37 [.agg #[vt,vf]] h fun r h'=>r=I (Zq T F)/\U8 h h':=by
 refine en 22 [(2,none)] zTO ?_;refine VH ?_;intro p h1 e1 o1;have st1:=st.ext e1;refine go ?_;refine VA (zHm h1 vt T st1 sm.types sm.parts) ?_;rintro _ h2 ⟨rfl,e2⟩;have e12:=e1.trans e2;have o1:=o1.ext e2;have st2:=st1.ext e2;have sf2:=Wr.ext sf e12;have tt2:=tt.ext e12;have hF:=sm.funcs;refine go ?_;refine VE (fun hb=> ?_) (fun hb=> ?_)<;>simp only[DB]at hb<;>refine go ?_
 ·refine rt ?_;exact⟨by rw[Zq,QI hb];rfl,e12⟩
 refine VA (y9 h2 ((F.length:Int)-1) 8) ?_;rintro _ _ ⟨rfl,rfl⟩;refine go ?_;refine VI (fun hc=> ?_) (fun hc=> ?_)<;>simp only[DB]at hc<;>refine go ?_
 ·refine rt ?_;exact⟨by rw[Zq,QC (by omega),hc];simp[one],e12⟩
 refine VA (zQ4 h2 vf _ F (fun f=> !BX T F.length f) sf2 (by omega) ?_) ?_
 ·intro f hf h3 e3 cs hcs;exact WV.func (zQE h3 h p vt vf T F f cs (tt2.ext e3) (yO (e12.trans e3) hm) sm hf (st2.ext e3) (Wr.ext sf2 e3) hcs (o1.ext e3))
 rintro _ h3 ⟨rfl,e3⟩;refine go ?_;refine VE (fun hd=> ?_) (fun hd=> ?_)<;>refine go ?_<;>refine rt ?_<;>refine⟨?_,e12.trans e3⟩<;>rw[Zq,QC (by omega),hc,hd]
 ·simp[one]
 ·simp[one]
theorem yX{T:List U5}{F:List WP}(h:Zq T F=0):yq T=0/\1<=F.length/\F.length<=8/\∀ f∈F,BX T F.length f=true:=by
 unfold Zq at h;split at h
 ·rename_i hc;exact absurd h hc
 ·rename_i hc;split at h
  ·cases h
  ·rename_i hd;simp only[GB,not_or,G8,JA]at hd;have h1:zS ((F.length:Int)-1) 8=true:=by simpa using hd.1
   unfold zS at h1;simp only[QF,QV]at h1;refine⟨by omega,by omega,by omega,fun f hf=> ?_⟩;have:=G2.1 hd.2 f hf;simpa using this
theorem zDA{T:List U5}{n:Int}{f:WP}(h:BX T n f=true):0<=f.sig/\f.sig<(T.length:Int):=by
 unfold BX at h;split at h
 ·cases h
 ·rename_i hb;unfold zBl at hb;simp only[GB,not_or,G8,JA]at hb;have h1:zS f.sig T.length=true:=by simpa using hb.1.1.1
  unfold zS at h1;simpa using h1
def zUf:U3:=(oV (oR [oX 2 0,oN 4 0,oN 5 0]) (oV (oV (oR [oA 2 7 2,o1 8 37 7,oM 6 8]) (oV (oR [oM 9 6,oC .neq 10 9 0]) (oJ 10 (oV (oR [oM 11 6,oN 4 0,oM 5 11]) .ret) .skip))) (oV (oV (oR [oM 12 1,oF 1 13 2,oL 14 13,oQ 15 14,o2 16 42 12 15,oW 17 16]) (oJ 17 (oV (oR [oN 4 0,oN 5 2]) .ret) .skip)) (oV (o6 [oF 0 18 2,oL 19 18,oF 1 20 2,oL 21 20,oM 22 1,oI 2 23 21 22,oF 0 24 23,oL 25 24,oI 4 26 19 25,oF 3 27 26,oL 28 27,oQ 29 28,oM 4 29,oN 5 0]) .ret))))
theorem zIX(h:U2)(vt vf:Value)(T:List U5)(F:List WP)(f:Int)(tt:Be h)(hm:h.mark<=h.n)(sm:BG T F)(st:Wv h vt T)(sf:Wr h vf F):
  WC Tryz.prog tb 40 [.agg #[vt,vf],I f] h fun r h'=>r=.tuple #[I (zu T F f).1,I (zu T F f).2]/\U8 h h':=by
 refine en 30 [(4,none),(5,none)] zUf ?_;refine VH ?_;intro p h1 e1 o1;refine go ?_;refine VA (zKv h1 vt vf T F (tt.ext e1) (yO e1 hm) sm (st.ext e1) (Wr.ext sf e1)) ?_;rintro _ h2 ⟨rfl,e2⟩;have e12:=e1.trans e2;have o1:=o1.ext e2;have st2:=st.ext e12;have sf2:=Wr.ext sf e12;have hF:=sm.funcs;refine go ?_;refine VE (fun hb=> ?_) (fun hb=> ?_)<;>simp only[DB]at hb<;>refine go ?_
 ·refine rt ?_;exact⟨by rw[zu,QI hb];rfl,e12⟩
 have hb:Zq T F=0:=by omega
 refine VA (y9 h2 f F.length) ?_;rintro _ _ ⟨rfl,rfl⟩;refine go ?_;refine VE (fun hc=> ?_) (fun hc=> ?_)<;>simp only[DB]at hc<;>refine go ?_
 ·refine rt ?_;exact⟨by rw[zu,QC (by omega),hc,QC (by exact Bool.noConfusion)];rfl,e12⟩
 have hf:0<=f/\f<(F.length:Int):=by unfold zS at hc;simpa using hc
 obtain⟨csF,⟨vb,rfl,sb,hlb⟩,pcF,hsF⟩:=yv (i:=f.toNat) sf2 (by omega);have hsig:=zDA ((yX hb).2.2.2 _ (zJ (l:=F) (i:=f.toNat) (by omega)));obtain⟨csT,⟨vp,rfl,sp,hsp⟩,pcT,hsT⟩:=ZL (i:=(F.getD f.toNat default).sig.toNat) st2 (by omega);refine gr ?_;exact⟨by rw[zu,QC (by omega),hc,QI rfl];rfl,e12⟩
def zTC:U3:=(oV (oR [oX 2 0,oN 4 0,oN 5 0]) (oV (oR [oA 2 9 2,oM 10 1,o2 11 40 9 10,oM 8 11,oE 12 8 0,oE 13 8 1,oM 6 12,oM 7 13]) (oV (oV (oR [oM 14 7,oC .neq 15 14 0]) (oJ 15 (oV (oR [oM 16 7,oN 4 0,oM 5 16]) .ret) .skip)) (oV (oR [oM 17 6,oF 1 18 2,oL 19 18,oM 20 1,oI 2 21 19 20,oA 2 22 21,o1 23 41 22,oB .add 24 17 23,oM 4 24,oN 5 0]) .ret))))
theorem zGj(h:U2)(vt vf:Value)(T:List U5)(F:List WP)(f:Int)(tt:Be h)(hm:h.mark<=h.n)(sm:BG T F)(st:Wv h vt T)(sf:Wr h vf F):
  WC Tryz.prog tb 17 [.agg #[vt,vf],I f] h fun r h'=>r=.tuple #[I (Y7 T F f).1,I (Y7 T F f).2]/\U8 h h':=by
 refine en 25 [(4,none),(5,none)] zTC ?_;refine VH ?_;intro p h1 e1 o1;refine go ?_;refine VA (zIX h1 vt vf T F f (tt.ext e1) (yO e1 hm) sm (st.ext e1) (Wr.ext sf e1)) ?_;rintro _ h2 ⟨rfl,e2⟩;have e12:=e1.trans e2;have o1:=o1.ext e2;have sf2:=Wr.ext sf e12;have hF:=sm.funcs;refine go ?_;refine VE (fun hb=> ?_) (fun hb=> ?_)<;>simp only[DB]at hb<;>refine go ?_
 ·refine rt ?_;exact⟨by rw[Y7,QI hb];rfl,e12⟩
 have hb2:(zu T F f).2=0:=by omega
 have hin:0<=f/\f<(F.length:Int)/\Zq T F=0:=by
  unfold zu at hb2;split at hb2
  ·rename_i hp;exact absurd hb2 hp
  ·rename_i hp;split at hb2
   ·rename_i hc;unfold zS at hc;simp at hc;exact⟨hc.1,hc.2,by omega⟩
   ·cases hb2
 obtain⟨csF,⟨vb,rfl,sb,hlb⟩,pcF,hsF⟩:=yv (i:=f.toNat) sf2 (by omega);have hmem:=zJ (l:=F) (i:=f.toNat) (by omega);refine go ?_;refine VA (zD3 h2 _ vb _ sb (sm.blocks _ hmem) (sm.ins _ hmem)) ?_;rintro _ h3 ⟨rfl,e3⟩;have hfn:=(yX hin.2.2).2.2.2 _ hmem;have hbd:zI (F.getD f.toNat default).blocks<=128:=by
  unfold BX at hfn;split at hfn
  ·cases hfn
  ·rename_i hbad;unfold zBl at hbad;simp only[GB,not_or,G8,Gh]at hbad;omega
 have hpos:=zAc (F.getD f.toNat default).blocks;have hn:0<=(zu T F f).1/\(zu T F f).1<=100:=by
  unfold zu;split
  ·simp
  ·split
   ·have hs:=zDA hfn;have:=sm.parts _ (zJ (l:=T) (i:=(F.getD f.toNat default).sig.toNat) (by omega));simp only;omega
   ·simp
 refine gr ?_;exact⟨by rw[Y7,QC (by omega)];rfl,e12.trans e3⟩
set_option maxRecDepth 100000
def zPv:U3:=(oV (oV (oR [oM 4 3,oM 5 0,oQ 6 5,oB .lss 7 4 6,oM 8 7,oG 8 (oM 9 3),oG 8 (oC .lss 10 9 30),oP 11 8 10]) (oT 11 0)) (oV (o5 1 (oV (oR [oM 14 0,oM 15 3,oI 4 16 14 15,oF 3 17 16,oL 18 17,oQ 19 18,oC .gtr 20 19 20]) (oJ 20 (oV (oR [oK 2 (.bool true)]) .ret) .skip))) (oR [oM 12 3,oC .add 13 12 1,oM 3 13])))
def zUZ:U3:=(oV (oR [oZ 2]) (oV (oV (oR [oN 3 0]) (o5 0 (.loop zPv))) (oV (oR [oM 21 0,oQ 22 21,oC .gtr 23 22 20,oM 2 23]) .ret)))
theorem zMy(h:U2)(vt:Value)(T:List U5)(st:Wv h vt T)(hT:(T.length:Int)<=9223372036854775807):
  WC Tryz.prog tb 22 [vt] h fun r h'=>(r=.bool true\/r=.bool false/\T.length<=20/\∀ x∈T,x.parts.length<=20)/\h=h':=by
 refine en 24 [(2,none)] zUZ ?_;refine VD [4,5,6,7,8,9,10,11,14,15,16,17,18,19,20,2,12,13,3] (by kernel_rfl) (fun i=>T.length-i) (fun i t h1=>h=h1/\zB t 3=I i/\i<=T.length/\∀ j,j<i->(T.getD j default).parts.length<=20) 0 ?_ ?_
 ·exact⟨rfl,WA,QT _,fun j hj=>absurd hj (GR _)⟩
 rintro i t _ hsame ⟨rfl,s3,hi,hm⟩;have fin:(20<(T.length:Int))\/(i=T.length/\T.length<=20)\/i<T.length:=by omega
 refine go ?_;refine VI (fun hb=> ?_) (fun hb=> ?_)<;>simp only[DB]at hb<;>refine go ?_
 ·obtain⟨cs,⟨va,rfl,sa,hla⟩,pc,hs⟩:=ZL st (show i<T.length by omega);refine VE (fun hc=> ?_) (fun hc=> ?_)<;>simp only[DB]at hc
  ·refine go ?_;refine VE (fun hd=> ?_) (fun hd=> ?_)<;>simp only[DB]at hd
   ·refine gr ?_;exact⟨.inl rfl,rfl⟩
   ·refine go ?_;refine zA (i+1) (by omega) ⟨rfl,Wx,by omega,fun j hj=> ?_⟩;by_cases e:j=i
    ·subst e;omega
    ·exact hm j (by omega)
  ·refine gr ?_;refine⟨.inl ?_,rfl⟩;rw[Qe (show(20:Int)<T.length by omega)];rfl
 ·refine rt ?_;refine⟨?_,rfl⟩;by_cases hg:20<(T.length:Int)
  ·left;rw[Qe hg];rfl
  ·right;refine⟨by rw[Qb hg];rfl,by omega,fun x hx=> ?_⟩;obtain⟨j,hj,rfl⟩:=YR hx;exact hm j (by omega)
def zTb(F:List WP):Prop:=∀ f∈F,∀ b∈f.blocks,∀ x∈b.ins,x.args.length<=20/\x.frm.length<=20
theorem zN9{T:List U5}{F:List WP}(h1:T.length<=20)(h2:∀ x∈T,x.parts.length<=20)(h3:F.length<=10)(h4:∀ f∈F,f.blocks.length<=20/\∀ b∈f.blocks,b.ins.length<=1000):BG T F:=
 ⟨by omega,fun x hx=>by have:=h2 x hx;omega,by omega,fun f hf=>by have:=(h4 f hf).1;omega,fun f hf=>(h4 f hf).2⟩
def zSk:U3:=(oV (oV (oR [oM 62 9,oM 63 8,oQ 64 63,oB .lss 65 62 64]) (oT 65 4)) (oV (o5 5 (oV (oR [oM 68 8,oM 69 9,oI 7 70 68 69,oF 5 71 70,oL 72 71,oQ 73 72,oC .gtr 74 73 20,oM 75 74,oH 75 (oM 76 8),oH 75 (oM 77 9),oH 75 (oI 7 78 76 77),oH 75 (oF 6 79 78),oH 75 (oL 80 79),oH 75 (oQ 81 80),oH 75 (oC .gtr 82 81 20),oO 83 75 82]) (oJ 83 (oV (oR [oK 4 (.bool true)]) .ret) .skip))) (oR [oM 66 9,oC .add 67 66 1,oM 9 67])))
def zRo:U3:=(oV (oV (oR [oM 34 7,oF 1 35 2,oL 36 35,oM 37 6,oI 2 38 36 37,oF 1 39 38,oL 40 39,oQ 41 40,oB .lss 42 34 41]) (oT 42 2)) (oV (o5 3 (oV (oR [oF 1 45 2,oL 46 45,oM 47 6,oI 2 48 46 47,oF 1 49 48,oL 50 49,oM 51 7,oI 5 52 50 51,oF 0 53 52,oL 54 53,oM 8 54]) (oV (oR [oM 55 5,oM 56 8,oQ 57 56,oB .add 58 55 57,oM 5 58]) (oV (oV (oR [oM 59 5,oM 60 1,oB .gtr 61 59 60]) (oJ 61 (oV (oR [oK 4 (.bool true)]) .ret) .skip)) (oV (oR [oN 9 0]) (o5 4 (.loop zSk))))))) (oR [oM 43 7,oC .add 44 43 1,oM 7 44])))
def zR0:U3:=(oV (oV (oR [oM 19 6,oF 1 20 2,oL 21 20,oQ 22 21,oB .lss 23 19 22]) (oT 23 0)) (oV (o5 1 (oV (oV (oR [oF 1 26 2,oL 27 26,oM 28 6,oI 2 29 27 28,oF 1 30 29,oL 31 30,oQ 32 31,oC .gtr 33 32 20]) (oJ 33 (oV (oR [oK 4 (.bool true)]) .ret) .skip)) (oV (oR [oN 7 0]) (o5 2 (.loop zRo))))) (oR [oM 24 6,oC .add 25 24 1,oM 6 25])))
def zVo:U3:=(oV (oR [oX 2 0,oZ 4]) (oV (oV (oR [oF 0 10 2,oL 11 10,o1 12 22 11,oM 13 12,oH 13 (oF 1 14 2),oH 13 (oL 15 14),oH 13 (oQ 16 15),oH 13 (oC .gtr 17 16 10),oO 18 13 17]) (oJ 18 (oV (oR [oK 4 (.bool true)]) .ret) .skip)) (oV (oR [oN 5 0]) (oV (oV (oR [oN 6 0]) (o5 0 (.loop zR0))) (oV (oR [oZ 4]) .ret)))))
theorem zMc(h:U2)(vt vf:Value)(T:List U5)(F:List WP)(most:Int)(hmost:0<=most/\most<=1000)(st:Wv h vt T)(sf:Wr h vf F)(hT:(T.length:Int)<=9223372036854775807)(hF:(F.length:Int)<=9223372036854775807):
  WC Tryz.prog tb 8 [.agg #[vt,vf],I most] h fun r h'=>(r=.bool true\/r=.bool false/\BG T F/\zTb F)/\U8 h h':=by
 refine en 84 [(4,none)] zVo ?_;refine VH ?_;intro p h1 e1 o1;have st1:=st.ext e1;have sf1:=Wr.ext sf e1;refine go ?_;refine VA (zMy h1 vt T st1 hT) ?_;rintro r _ ⟨hr,rfl⟩;refine go ?_;rcases hr with rfl|⟨rfl,hT2,hp2⟩
 ·refine gr ?_;exact⟨.inl rfl,e1⟩
 refine go ?_;refine VE (fun hb=> ?_) (fun hb=> ?_)<;>simp only[DB]at hb<;>refine go ?_
 ·refine rt ?_;exact⟨.inl rfl,e1⟩
 refine VD [19,20,21,22,23,26,27,28,29,30,31,32,33,4,7,34,35,36,37,38,39,40,41,42,45,46,47,48,49,50,51,52,53,54,8,55,56,57,58,5,59,60,61,4,9,62,63,64,65,68,69,70,71,72,73,74,75,76,77,78,79,80,81,82,83,4,66,67,9,43,44,7,24,25,6] (by kernel_rfl) (fun i=>F.length-i) (fun i t h2=>h1=h2/\zB t 6=I i/\i<=F.length/\(∃ n,zB t 5=I n/\0<=n/\n<=most)/\∀ j,j<i->(F.getD j default).blocks.length<=20/\∀ b∈(F.getD j default).blocks,b.ins.length<=1000/\∀ x∈b.ins,x.args.length<=20/\x.frm.length<=20) 0 ?_ ?_
 ·exact⟨rfl,WA,QT _,⟨0,WA,by omega,by omega⟩,fun j hj=>absurd hj (GR _)⟩
 rintro i t _ hsame ⟨rfl,s6,hi,⟨n,s5,hn0,hn⟩,hm⟩;refine go ?_;refine VE (fun hc=> ?_) (fun hc=> ?_)<;>simp only[DB]at hc
 ·have hi':i<F.length:=by omega
  obtain⟨csF,⟨vb,rfl,sb,hlb⟩,pcF,hsF⟩:=yv sf1 hi';refine go ?_;refine VE (fun hd=> ?_) (fun hd=> ?_)<;>simp only[DB]at hd<;>refine go ?_
  ·refine rt ?_;exact⟨.inl rfl,e1⟩
  refine VD [34,35,36,37,38,39,40,41,42,45,46,47,48,49,50,51,52,53,54,8,55,56,57,58,5,59,60,61,4,9,62,63,64,65,68,69,70,71,72,73,74,75,76,77,78,79,80,81,82,83,4,66,67,9,43,44,7] (by kernel_rfl) (fun k=>(F.getD i default).blocks.length-k) (fun k t h2=>h1=h2/\zB t 7=I k/\k<=(F.getD i default).blocks.length/\(∃ n,zB t 5=I n/\0<=n/\n<=most)/\∀ j,j<k->((F.getD i default).blocks.getD j default).ins.length<=1000/\∀ x∈((F.getD i default).blocks.getD j default).ins,x.args.length<=20/\x.frm.length<=20) 0 ?_ ?_
  ·exact⟨rfl,WA,QT _,⟨n,WA,hn0,hn⟩,fun j hj=>absurd hj (GR _)⟩
  rintro k t2 _ hsame2 ⟨rfl,s7,hk,⟨n2,s5b,hn20,hn2⟩,hm2⟩;refine go ?_;refine VE (fun he=> ?_) (fun he=> ?_)<;>simp only[DB]at he
  ·have hk':k<(F.getD i default).blocks.length:=by omega
   obtain⟨csB,⟨vi,rfl,si,hli⟩,pcB,hsB⟩:=yv sb hk';refine go ?_;refine VE (fun hf=> ?_) (fun hf=> ?_)<;>simp only[DB]at hf<;>refine go ?_
   ·refine rt ?_;exact⟨.inl rfl,e1⟩
   refine VD [62,63,64,65,68,69,70,71,72,73,74,75,76,77,78,79,80,81,82,83,4,66,67,9] (by kernel_rfl) (fun j=>((F.getD i default).blocks.getD k default).ins.length-j) (fun j t h2=>h1=h2/\zB t 9=I j/\j<=((F.getD i default).blocks.getD k default).ins.length/\∀ q,q<j->(((F.getD i default).blocks.getD k default).ins.getD q default).args.length<=20/\(((F.getD i default).blocks.getD k default).ins.getD q default).frm.length<=20) 0 ?_ ?_
   ·exact⟨rfl,WA,QT _,fun q hq=>absurd hq (GR _)⟩
   rintro j t3 _ hsame3 ⟨rfl,s9,hj,hq9⟩;refine go ?_;refine VE (fun hg=> ?_) (fun hg=> ?_)<;>simp only[DB]at hg
   ·have hj':j<((F.getD i default).blocks.getD k default).ins.length:=by omega
    obtain⟨csI,⟨va,vfr,rfl,sa,sfr,hla,hlf,ho⟩,pcI,hsI⟩:=yv si hj';refine go ?_;refine VI (fun hh=> ?_) (fun hh=> ?_)<;>simp only[DB]at hh<;>refine go ?_
    ·refine rt ?_;exact⟨.inl rfl,e1⟩
    refine VE (fun hh2=> ?_) (fun hh2=> ?_)<;>simp only[DB]at hh2<;>refine go ?_
    ·refine rt ?_;exact⟨.inl rfl,e1⟩
    ·refine zA (j+1) (by omega) ⟨rfl,Wx,by omega,fun q hq=> ?_⟩;by_cases e:q=j
     ·subst e;omega
     ·exact hq9 q (by omega)
   ·refine go ?_;refine zA (k+1) (by omega) ⟨rfl,Wx,by omega,⟨n2+(((F.getD i default).blocks.getD k default).ins.length:Int),WA,by omega,by omega⟩,fun q hq=> ?_⟩;by_cases e:q=k
    ·subst e;refine⟨by omega,fun x hx=> ?_⟩;obtain⟨y,hy,rfl⟩:=YR hx;exact hq9 y (by omega)
    ·exact hm2 q (by omega)
  ·refine go ?_;refine zA (i+1) (by omega) ⟨rfl,Wx,by omega,⟨n2,WA,hn20,hn2⟩,fun q hq=> ?_⟩;by_cases e:q=i
   ·subst e;refine⟨by omega,fun b hb=> ?_⟩;obtain⟨y,hy,rfl⟩:=YR hb;exact hm2 y (by omega)
   ·exact hm q (by omega)
 ·refine gr ?_;have hall:∀ f∈F,f.blocks.length<=20/\∀ b∈f.blocks,b.ins.length<=1000/\∀ x∈b.ins,x.args.length<=20/\x.frm.length<=20:=fun f hf=>by
   obtain⟨y,hy,rfl⟩:=YR hf;exact hm y (by omega)
  exact⟨.inr ⟨rfl,zN9 hT2 hp2 (by omega) fun f hf=>⟨(hall f hf).1,fun b hb=>((hall f hf).2 b hb).1⟩,fun f hf b hb=>((hall f hf).2 b hb).2⟩,e1⟩
end
end Go.Proofs.YtmejfcakhpihlaaGreatDoor
