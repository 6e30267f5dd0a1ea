/- What functions of the program come to in the abstract machine, and plain laws about it; no statement of the seat is proved in this text. -/
import Derived.Test.YtmejfcakhpihlaaGreatDoorJh
import Derived.Test.YtmejfcakhpihlaaGreatDoorJg
import Derived.Test.YtmejfcakhpihlaaGreatDoorJg
import Derived.Test.YtmejfcakhpihlaaGreatDoorJg
set_option linter.unusedVariables false
set_option linter.unusedSimpArgs false
set_option maxHeartbeats 1500000
namespace Go.Proofs.YtmejfcakhpihlaaGreatDoor
noncomputable section
open Go.Am
set_option maxRecDepth 100000
def zPy:U0:=(oV (oR [oZ 3]) (oV (oR [oM 4 0,oF 1 5 1,oL 6 5,oB .neq 7 4 6,oM 3 7]) .ret))
theorem zIp (h h0:Uz)(p u:Value)(c:List Value)(t ty:Int)(o:U3 h0 h p (u::I ty::c)):WC Tryz.prog tb 186 [I t,p] h fun r h'=>r= .bool (!decide (t=ty))/\h=h':=by
 refine en 8 [(3,none)] zPy ?_;refine rt ?_;exact⟨by simp[one],rfl⟩
theorem zNk {i:Nat}{h:Uz}{v:Value}{l:List Int}(s:WJ h v l)(hl:0<l.length)(hi:i<=l.length):∃ r,Zl 1 v (some i) none none=some r/\WJ h r (l.drop i):=by
 obtain⟨h1,⟨h2,_⟩|⟨g,off,row,rfl,h3,h4,h5⟩⟩:=s
 ·omega
 have hlen:(l.drop i).length=l.length - i:=List.length_drop ..;refine⟨.slice (some ⟨g,off+i,none⟩) (l.length - i) 1,?_,by simp,.inr ⟨g,off+i,row,by rw[hlen],h3,?_,h5⟩⟩
 ·have b1:Nat.ble i l.length=true:=QH hi;have b2:Nat.ble l.length l.length=true:=QH (QE _);simp only[Zl,Gt,GC,b1,b2,Q0,Q2,cond_true,Gd,G2]
 ·obtain⟨c1,c2⟩:=zEO h4;rw[ZK (by rw[hlen];omega),List.map_drop,c2,List.drop_take,JD,hlen];congr 2;omega
section
variable {vt vf:Value}{T:List U2}{F:List WP}{f:Int}{ks:List Int}{ps:List (Int×Int)}{rs:List Int}{g:Nat}
def zQG:U0:=(oV (oR [oX 4 1,oZ 6]) (oV (oV (oR [oF 0 7 4,oL 8 7]) (o5 0 (oV (oR [oD .eql 10 8 2,oM 9 10]) (oJ 9 (oV (oR [oM 11 0,oF 1 12 4,oL 13 12,⟨some 14,none,(.buildSlice 1 1 [(.int .i64 0)] [(0,1,(.tmp 13))])⟩,⟨some 15,none,(.call (.func 76) [(.tmp 11),(.const (.int .u8 2)),(.tmp 14)])⟩,oM 16 15,oH 16 (oM 17 0),oH 16 (oF 1 18 4),oH 16 (oL 19 18),⟨some 20,some (16,false),(.buildSlice 1 1 [(.int .i64 0)] [(0,1,(.tmp 19))])⟩,⟨some 21,some (16,false),(.call (.func 76) [(.tmp 17),(.const (.int .u8 3)),(.tmp 20)])⟩,oO 22 16 21,oM 6 22]) .ret) (oV (oR [oD .eql 24 8 3,oM 23 24]) (oJ 23 (oV (o6 [oF 1 25 4,oL 26 25,oM 27 0,(⟨some 28,none,(.nilCheck (.tmp 27))⟩,[]),oF 0 29 28,oF 1 30 29,oL 31 30,oF 4 32 4,oL 33 32,oI 2 34 31 33,oF 0 35 34,oL 36 35,oB .eql 37 26 36,oM 6 37]) .ret) (oV (oR [oD .eql 39 8 10,oM 38 39]) (oJ 38 (oV (o6 [oM 40 0,oM 41 2,(⟨some 42,none,(.call (.func 76) [(.tmp 40),(.const (.int .u8 2)),(.tmp 41)])⟩,[]),oM 43 42,oG 43 (oM 44 2),(⟨some 45,some (43,true),(.idx 1 (.tmp 44) (.const (.int .i64 0)))⟩,[]),oG 43 (oL 46 45),oG 43 (oM 47 2),(⟨some 48,some (43,true),(.idx 1 (.tmp 47) (.const (.int .i64 1)))⟩,[]),oG 43 (oL 49 48),oG 43 (oB .eql 50 46 49),oP 51 43 50,oM 52 51,oG 52 (oM 53 0),oG 52 (oF 1 54 4),oG 52 (oL 55 54),(⟨some 56,some (52,true),(.buildSlice 1 1 [(.int .i64 0)] [(0,1,(.tmp 55))])⟩,[]),(⟨some 57,some (52,true),(.call (.func 76) [(.tmp 53),(.const (.int .u8 1)),(.tmp 56)])⟩,[]),oP 58 52 57,oM 6 58]) .ret) (oV (oV (oR [oD .eql 60 8 11,oM 59 60]) (oJ 59 .skip (oR [oD .eql 61 8 12,oM 59 61]))) (oJ 59 (oV (oR [oM 62 0,oF 1 63 4,oL 64 63,⟨some 65,none,(.buildSlice 1 1 [(.int .i64 0)] [(0,1,(.tmp 64))])⟩,⟨some 66,none,(.call (.func 76) [(.tmp 62),(.const (.int .u8 2)),(.tmp 65)])⟩,oM 6 66]) .ret) (oV (oR [oD .eql 68 8 13,oM 67 68]) (oJ 67 (oV (oR [oM 69 0,oM 70 2,⟨some 71,none,(.call (.func 76) [(.tmp 69),(.const (.int .u8 2)),(.tmp 70)])⟩,oM 6 71]) .ret) (oV (oV (oR [oD .eql 73 8 14,oM 72 73]) (oJ 72 .skip (oV (oR [oD .eql 74 8 15,oM 72 74]) (oJ 72 .skip (oV (oR [oD .eql 75 8 16,oM 72 75]) (oJ 72 .skip (oR [oD .eql 76 8 17,oM 72 76]))))))) (oJ 72 (oV (oR [oM 77 0,oA 7 78 4,oM 79 2,o3 80 183 77 78 79,oM 6 80]) .ret) (oV (oR [oD .eql 82 8 18,oM 81 82]) (oJ 81 (oV (o6 [oM 83 0,oM 84 0,(⟨some 85,none,(.nilCheck (.tmp 84))⟩,[]),oF 0 86 85,oF 1 87 86,oL 88 87,oF 4 89 4,oL 90 89,oI 2 91 88 90,oF 0 92 91,oL 93 92,oM 94 2,oF 1 95 4,oL 96 95,o4 97 184 83 93 94 96,oM 6 97]) .ret) (oV (oR [oD .eql 99 8 19,oM 98 99]) (oJ 98 (oV (o6 [oM 100 0,oM 101 2,(⟨some 102,none,(.idx 1 (.tmp 101) (.const (.int .i64 0)))⟩,[]),oL 103 102,oM 104 2,(⟨some 105,none,(.slice 1 (.tmp 104) (some (.const (.int .i64 1))) none none)⟩,[]),oF 1 106 4,oL 107 106,o4 108 184 100 103 105 107,oM 6 108]) .ret) (oV (oR [oD .eql 110 8 22,oM 109 110]) (oJ 109 (oV (oR [oM 111 0,oF 1 112 4,oL 113 112,o2 114 185 111 113,oM 115 114,oG 115 (oM 116 2),⟨some 117,some (115,true),(.mkFunc (.func 186) [] [(.tmp 4)])⟩,oG 115 (o2 118 121 116 117),oG 115 (oW 119 118),oP 120 115 119,oM 6 120]) .ret) (oV (oR [oD .eql 122 8 21,oM 121 122]) (oJ 121 (oV (oR [oM 123 0,oM 124 2,⟨some 125,none,(.call (.func 76) [(.tmp 123),(.const (.int .u8 1)),(.tmp 124)])⟩,oM 6 125]) .ret) .skip)))))))))))))))))))))) (oV (oR [oM 126 0,oM 127 2,⟨some 128,none,(.call (.func 76) [(.tmp 126),(.const (.int .u8 1)),(.tmp 127)])⟩,oM 129 128,oG 129 (oM 130 0),oG 129 (oF 1 131 4),oG 129 (oL 132 131),⟨some 133,some (129,true),(.buildSlice 1 1 [(.int .i64 0)] [(0,1,(.tmp 132))])⟩,⟨some 134,some (129,true),(.call (.func 76) [(.tmp 130),(.const (.int .u8 1)),(.tmp 133)])⟩,oP 135 129 134,oM 6 135]) .ret)))
theorem zMN (h:Uz)(x:WY)(cs:List Value)(v:Value)(l:List Int)(M:Wy h g vt vf T F f ks ps rs)(hc:yp T=0)(hR:BG h cs x)(s:WJ h v l)(hl:l.length<=1000)(hin:∀ t∈l,BE T t)(hty:BE T x.ty)
  (hF:∀ f∈F,BE T f.sig) (hn:x.op=14->0<=x.n) (hn2:x.op=3\/x.op=18->0<=x.n/\x.n<(F.length:Int)) (h1:(x.op=14\/x.op=15\/x.op=16\/x.op=17\/x.op=19)->1<=l.length) (h2:x.op=15\/x.op=17\/x.op=10->2<=l.length):
  WC Tryz.prog tb 127 [.pointer (some ⟨g,0,none⟩),.agg cs.toArray,v] h fun r h'=>r= .bool (zBH T F x l)/\U5 h h':=by
 obtain⟨xa,xf,rfl,sxa,sxf,hla,hlf,ho⟩:=id hR;obtain⟨a1,a2,a3,rfl⟩:=WZ.shape sxa;obtain⟨f1,f2,f3,rfl⟩:=WZ.shape sxf;obtain⟨b1,b2,b3,rfl⟩:=WZ.shape s;have hiny:∀ y∈[x.ty],BE T y:=fun y hy=>by rw[QW.1 hy];exact hty
 refine en 136 [(6,none)] zQG ?_;refine VI ?_;intro p h3 e3 o3;have M3:=M.ext e3;have s3:=s.ext e3;have ea:=zZ 0 h3;have sX:=Va (s3.ext ea);have oX:=Vi (o3.ext ea);unfold zBH;by_cases c2:x.op=2
 ·rw[QJ c2];refine go ?_;refine WO.bl [x.ty] ?_;intro v4 h4 e4 o4;have M4:=M3.ext e4;have o34:=o3.ext e4;refine go ?_;refine VA (yt h4 2 v4 [x.ty] M4 o4.sl (by simp) hiny) ?_;rintro _ h5 ⟨rfl,e5⟩;rw[ZA];have e35:=e3.trans (e4.trans e5);cases k2:Wt T 2 x.ty with
  |true=>
   refine gr ?_;exact⟨rfl,e35⟩
  |false=>
   have M5:=M4.ext e5;have o35:=o34.ext e5;refine go ?_;refine WO.bl [x.ty] ?_;intro v6 h6 e6 o6;have M6:=M5.ext e6;refine go ?_;refine VA (yt h6 3 v6 [x.ty] M6 o6.sl (by simp) hiny) ?_;rintro _ h7 ⟨rfl,e7⟩;rw[ZA];refine gr ?_;exact⟨rfl,e35.trans (e6.trans e7)⟩
 rw[QB c2];refine go ?_;by_cases c3:x.op=3
 ·rw[QJ c3];refine go ?_;obtain⟨⟨hB,vk,vp,vr,o,a,b,c⟩,st,sf,hm⟩:=M3;obtain⟨n0,n1⟩:=hn2 (.inl c3);obtain⟨cs,⟨vb,rfl,sb,hlb⟩,pc,hsl⟩:=zp (i:=x.n.toNat) sf (by omega);have pc1:=(pc h3 (U5.refl _)).1;refine gr ?_;exact⟨rfl,e3⟩
 rw[QB c3];refine go ?_;by_cases c10:x.op=10
 ·rw[QJ c10];have hl2:=h2 (.inr (.inr c10));refine go ?_;refine VC 1 rfl rfl ?_;have ea1:=zZ 1 h3;have sX1:=Va (s3.ext ea1);refine WM ?_;refine VA (yt _ 2 _ l (M3.aside 1) sX1 hl hin) ?_;rintro _ X4 ⟨rfl,e4⟩;refine nE e4 ?_;have hlt:h3.n<X4.n:=e4.n;have e4':=ea1.trans (yr (h:=h3) e4);have o4:=Vr (o3.ext e4');have s4:=Vm (s3.ext e4');cases k2:isL T 2 l with
  |false=>
   refine WM ?_;refine WN.no ?_;refine gUr ?_;exact⟨rfl,e3.trans e4'⟩
  |true=>
   cases k3:decide (l.getD 0 0=l.getD 1 0)with
   |false=>
    refine WM ?_;rw[k3];refine WN.no ?_;refine gUr ?_;exact⟨rfl,e3.trans e4'⟩
   |true=>
   refine WM ?_;rw[k3];refine Vf [x.ty] M3.hm ?_;intro X5 n5 g5;have e5':=zDg e4' n5 g5 (QE _) hlt;have sv5:=zCJ (xs:=[x.ty]) (by rw[g5,QJ rfl]) (by omega:h3.n<X5.n);refine WM ?_;refine VA (yt _ 1 _ [x.ty] (VO (M3.ext e5')) sv5 (by simp) hiny) ?_;rintro _ X6 ⟨rfl,e6⟩;rw[ZA];have e6':=e5'.trans (yr (h:=h3) e6);refine WO.nil ?_;refine zBr e6 ?_;refine gUr ?_;exact⟨rfl,e3.trans e6'⟩
 rw[QB c10];by_cases c11:x.op=11\/x.op=12
 ·rw[QJ c11];have fin:∀ (w:Value) (h4:Uz) (e4:U5 h3 h4),Wc h3 h4 w [x.ty]->WC Tryz.prog tb 76 [.pointer (some ⟨g,0,none⟩),.int .u8 2,w] h4 fun r h'=>r= .bool (Wt T 2 x.ty)/\U5 h h':=fun w h4 e4 o4=>WC.mono (yt h4 2 w [x.ty] (M3.ext e4) o4.sl (by simp) hiny) fun r h5 ⟨hr,e5⟩=>⟨by rw[hr,ZA],e3.trans (e4.trans e5)⟩;rcases c11 with c11|c12
  ·refine go ?_;refine WO.bl [x.ty] ?_;intro v4 h4 e4 o4;refine go ?_;refine VA (fin v4 h4 e4 o4) ?_;rintro _ h5 ⟨rfl,e5⟩;refine gr ?_;exact⟨rfl,e5⟩
  ·have c11:¬x.op=11:=by omega
   refine go ?_;refine WO.bl [x.ty] ?_;intro v4 h4 e4 o4;refine go ?_;refine VA (fin v4 h4 e4 o4) ?_;rintro _ h5 ⟨rfl,e5⟩;refine gr ?_;exact⟨rfl,e5⟩
 rw[QB c11];obtain⟨c11,c12⟩:¬x.op=11/\¬x.op=12:=by omega
 refine go ?_;by_cases c13:x.op=13
 ·rw[QJ c13];refine go ?_;refine VA (yt h3 2 _ l M3 s3 hl hin) ?_;rintro _ h5 ⟨rfl,e5⟩;refine gr ?_;exact⟨rfl,e3.trans e5⟩
 rw[QB c13];refine go ?_;by_cases c14:x.op=14\/x.op=15\/x.op=16\/x.op=17
 ·rw[QJ c14];have fin:=zJP h3 x _ _ l M3 hc (hR.ext e3) s3 hl hin hty c14 hn (h1 (by omega)) (fun c=>h2 (by omega));have fin:=WC.mono (Q':=fun r h'=>r= .bool (zL4 T x l)/\U5 h h') fin fun r h' ⟨hr,e⟩=>⟨hr,e3.trans e⟩;rcases c14 with c14|c15|c16|c17
  ·refine go ?_;refine VA fin ?_;rintro _ h5 ⟨rfl,e5⟩;refine gr ?_;exact⟨rfl,e5⟩
  ·have k14:¬x.op=14:=by omega
   refine go ?_;refine VA fin ?_;rintro _ h5 ⟨rfl,e5⟩;refine gr ?_;exact⟨rfl,e5⟩
  ·have k14:¬x.op=14:=by omega
   have k15:¬x.op=15:=by omega
   refine go ?_;refine VA fin ?_;rintro _ h5 ⟨rfl,e5⟩;refine gr ?_;exact⟨rfl,e5⟩
  ·have k14:¬x.op=14:=by omega
   have k15:¬x.op=15:=by omega
   have k16:¬x.op=16:=by omega
   refine go ?_;refine VA fin ?_;rintro _ h5 ⟨rfl,e5⟩;refine gr ?_;exact⟨rfl,e5⟩
 rw[QB c14];obtain⟨c14,c15,c16,c17⟩:¬x.op=14/\¬x.op=15/\¬x.op=16/\¬x.op=17:=by omega
 refine go ?_;by_cases c18:x.op=18
 ·rw[QJ c18];refine go ?_;refine VC 0 rfl rfl ?_;obtain⟨⟨hB,vk,vp,vr,o,a,b,c⟩,st,sf,hm⟩:=M3.aside 0;obtain⟨n0,n1⟩:=hn2 (.inr c18);obtain⟨cs,⟨vb,rfl,sb,hlb⟩,pc,hsl⟩:=zp (i:=x.n.toNat) sf (by omega);have pc1:=(pc _ (U5.refl _)).1;refine WM ?_;refine VA (zFk _ (F.getD x.n.toNat default).sig x.ty _ l (M3.aside 0) ((by refine hF _ ?_;rw[QL,QD (show x.n.toNat<F.length by omega)];exact List.getElem_mem _)) sX hl) ?_;rintro _ X4 ⟨rfl,e4⟩;refine nE e4 ?_;have e4':=ea.trans (yr (h:=h3) e4);refine gUr ?_;exact⟨rfl,e3.trans e4'⟩
 rw[QB c18];refine go ?_;by_cases c19:x.op=19
 ·rw[QJ c19];have hl1:=h1 (by omega);refine go ?_;refine VC 0 rfl rfl ?_;obtain⟨r,hsl,sr⟩:=zNk (i:=1) sX (by omega) hl1;refine WM ?_;refine Vj (i:=1) (hy:=rfl) hsl ?_;refine WM ?_;refine VA (zFk _ (l.getD 0 0) x.ty _ (l.drop 1) (M3.aside 0) (zJw hin (by omega)) sr (by simp;omega)) ?_;rintro _ X4 ⟨rfl,e4⟩;refine nE e4 ?_;have e4':=ea.trans (yr (h:=h3) e4);refine gUr ?_;exact⟨rfl,e3.trans e4'⟩
 rw[QB c19];refine go ?_;by_cases c22:x.op=22
 ·rw[QJ c22];refine go ?_;refine VA (zB5 h3 x.ty M3 hty) ?_;rintro _ h4 ⟨rfl,e4⟩;have e04:=e3.trans e4;cases k1:zE3 T x.ty with
  |false=>
   refine gr ?_;exact⟨rfl,e04⟩
  |true=>
   have s4:=s3.ext e4;have o4:=o3.ext e4;refine go ?_;refine VA (zAU h4 _ _ l (fun t=> !decide (t=x.ty)) s4 (by omega) ?_) ?_
   ·intro t ht h5 e5;exact WV.func (WC.mono (zIp h5 _ p _ _ t x.ty (o4.ext e5)) fun r h6 ⟨hr,he⟩=>⟨hr,he▸U5.refl _⟩)
   rintro _ h5 ⟨rfl,e5⟩;refine gr ?_;refine⟨?_,e04.trans e5⟩;show Value.bool _=_;rw[List.not_any_eq_all_not];simp
 rw[QB c22];refine go ?_;by_cases c21:x.op=21
 ·rw[QJ c21];refine go ?_;refine VA (yt h3 1 _ l M3 s3 hl hin) ?_;rintro _ h5 ⟨rfl,e5⟩;refine gr ?_;exact⟨rfl,e3.trans e5⟩
 rw[QB c21];refine go ?_;refine VA (yt h3 1 _ l M3 s3 hl hin) ?_;rintro _ h5 ⟨rfl,e5⟩;have e05:=e3.trans e5;cases k1:isL T 1 l with
 |false=>
  refine gr ?_;exact⟨rfl,e05⟩
 |true=>
  have M5:=M3.ext e5;have o5:=o3.ext e5;refine go ?_;refine WO.bl [x.ty] ?_;intro v6 h6 e6 o6;refine go ?_;refine VA (yt h6 1 v6 [x.ty] (M5.ext e6) o6.sl (by simp) hiny) ?_;rintro _ h7 ⟨rfl,e7⟩;rw[ZA];refine gr ?_;exact⟨rfl,e05.trans (e6.trans e7)⟩
end
set_option maxRecDepth 100000
theorem zUP {xs:List Int}{n:Nat}{c:Int}(h0:0<=c)(h1:c<(n:Int)):(YH xs n).getD c.toNat 0=upL xs c:=by
 unfold YH;rw[QL,GS,List.getElem?_range (by omega)];show upL xs ((c.toNat:Nat):Int)=_;rw[show ((c.toNat:Nat):Int)=c by omega]
section
variable {vt vf:Value}{T:List U2}{F:List WP}{f:Int}{ks:List Int}{ps:List (Int×Int)}{xs:List Int}{n:Nat}{g:Nat}{nx:Int->List Int}
def zMa:U0:=(oV (oV (oR [oM 7 2,oM 8 1,oB .neq 9 7 8,oM 10 9,oG 10 (oM 11 2),oG 10 (oC .neq 12 11 (-1)),oP 13 10 12]) (oT 13 0)) (o5 1 (oR [oM 14 0,⟨some 15,none,(.nilCheck (.tmp 14))⟩,oF 5 16 15,oL 17 16,oM 18 2,oI 1 19 17 18,oL 20 19,oM 2 20])))
def zQO:U0:=(oV (oR [oZ 6]) (oV (o5 0 (.loop zMa)) (oV (oR [oM 21 1,oM 22 2,oB .eql 23 21 22,oM 6 23]) .ret)))
theorem zLo (h:Uz)(a b:Int)(M:Wy h g vt vf T F f ks ps (YH xs n))(r:Rul nx xs)(w:Wh nx 0 b)(hb:0<=b/\b<16)(hin:∀ c,Wh nx 0 c->0<=c/\c<(n:Int))(ha:0<=a):
  WC Tryz.prog tb 189 [.pointer (some ⟨g,0,none⟩),I a,I b] h fun q h'=>(∃ bb,q= .bool bb/\(bb=true↔W2 nx a b))/\h=h':=by
 obtain⟨⟨hB,vk,vp,vr,o,ka,kb,kc⟩,st,sf,hm⟩:=M;have hin:=WW.mk hin;refine en 24 [(6,none)] zQO ?_;refine VD [7,8,9,10,11,12,13,14,15,16,17,18,19,20,2] (by kernel_rfl) (fun i=>16 - i) (fun i t h1=>h=h1/\∃ c,zB t 2=I c/\WW (Chn nx a b i c false)) 0 ?_ ?_
 ·exact⟨rfl,b,U7,⟨.inr ⟨w,hb,by have:=zSB nx b;omega,by simp⟩⟩⟩
 rintro i t _ hsame ⟨rfl,c,s2,hC⟩;by_cases hca:c=a
 ·subst hca;have hd:W2 nx c b:=by
   rcases hC.out with ⟨h1,_⟩|⟨_,_,_,h2⟩
   ·omega
   ·exact h2.2 (.inr (W2.self nx c))
  refine gr ?_;exact⟨⟨true,by simp[one],by simp[hd]⟩,rfl⟩
 by_cases hc1:c= -1
 ·have hd:¬W2 nx a b:=by
   rcases hC.out with ⟨_,h2⟩|⟨_,h1,_⟩
   ·rw[h2];simp
   ·omega
  have hac:(a == c)=false:=by simp;exact fun e=>hca e.symm
  refine gr ?_;exact⟨⟨false,by simp[one];exact fun e=>hca e.symm,by simp[hd]⟩,rfl⟩
 have hc0:0<=c:=by
  rcases hC.out with ⟨h1,_⟩|⟨_,h1,_⟩
  ·exact absurd h1 hc1
  ·exact h1.1
 obtain⟨wc,hc16,hi15⟩:=hC.out.way hc0;have hcn:=hin.out c wc;have hul:=zLJ xs n;have hat:=zUP (xs:=xs) hcn.1 hcn.2;have hnext:Chn nx a b (i+1) (upL xs c) false:=by
  by_cases hz:c=0
  ·subst hz;have:=hC.out.last;rw[show (false||decide ((0:Int)=a))=false by simp;exact fun e=>hca e]at this;unfold upL;rw[QJ rfl];exact this
  ·have:=(hC.out.next r (show 0<c by omega)).1;rw[show (false||decide (c=a))=false by simp;exact hca]at this;unfold upL;rw[QB hz];exact this
 refine go ?_;exact zA (i+1) (by omega) ⟨rfl,upL xs c,by rw[<-hat];exact U7,⟨hnext⟩⟩
def zE8 (nx:Int->List Int)(p:Int×Int)(block at':Int):Prop:=if p.1=block then p.2<at' else p.1= -1\/W2 nx p.1 block
def zQn:U0:=(oV (oR [oZ 5]) (oV (oR [oL 7 1,⟨some 8,none,(.nilCheck (.tmp 7))⟩,oF 4 9 8,oL 10 9,oM 11 0,oI 2 12 10 11,oA 2 13 12,⟨some 6,none,(.alloc [(.int .i64 0),(.int .i64 0)])⟩,oS 2 6 13]) (oV (oV (oR [⟨some 14,none,(.idxArr 2 1 (.tmp 6) (.const (.int .i64 0)))⟩,oL 15 14,oL 16 2,oB .eql 17 15 16]) (oJ 17 (oV (oR [⟨some 18,none,(.idxArr 2 1 (.tmp 6) (.const (.int .i64 1)))⟩,oL 19 18,oL 20 3,oB .geq 21 19 20,oM 5 21]) .ret) .skip)) (oV (oR [⟨some 22,none,(.idxArr 2 1 (.tmp 6) (.const (.int .i64 0)))⟩,oL 23 22,oC .neq 24 23 (-1),oM 25 24,oG 25 (oL 26 1),⟨some 27,some (25,true),(.idxArr 2 1 (.tmp 6) (.const (.int .i64 0)))⟩,oG 25 (oL 28 27),oG 25 (oL 29 2),oG 25 (o3 30 189 26 28 29),oG 25 (oW 31 30),oP 32 25 31,oM 5 32]) .ret))))
theorem zM1 (h h1 h2 h3:Uz)(p1 p2 p3:Value)(x block at':Int)(M:Wy h g vt vf T F f ks ps (YH xs n))(r:Rul nx xs)(w:Wh nx 0 block)(hb:0<=block/\block<16)(hin:∀ c,Wh nx 0 c->0<=c/\c<(n:Int))
  (o1:U3 h1 h p1 [.pointer (some ⟨g,0,none⟩)]) (o2:U3 h2 h p2 [I block]) (o3:U3 h3 h p3 [I at']) (hx:0<=x/\x<(ps.length:Int)) (hp:(ps.getD x.toNat default).1= -1\/0<=(ps.getD x.toNat default).1):
  WC Tryz.prog tb 188 [I x,p1,p2,p3] h fun q h'=>(∃ bb,q= .bool bb/\(bb=true↔¬zE8 nx (ps.getD x.toNat default) block at'))/\U5 h h':=by
 obtain⟨⟨hB,vk,vp,vr,o,ka,kb,kc⟩,st,sf,hm⟩:=id M;obtain⟨cs,rfl,pc,hs⟩:=zp (i:=x.toNat) kb (by omega);have pc1:=(pc h (U5.refl _)).1;obtain⟨_,_,_,rfl⟩:=zF kb;generalize hq:ps.getD x.toNat default=q at *;obtain⟨q1,q2⟩:=q;unfold zE8;refine en 33 [(5,none)] zQn ?_;refine WO.al ?_;intro p4 h4 e4 o4;refine go ?_;refine VG (cs:=[I q1,I q2]) o4 e4 ?_;intro h5 e5 o5 u5;have o1:=o1.ext e5;have o2:=o2.ext e5;have o3:=o3.ext e5;have M5:=M.ext e5;by_cases c1:q1=block
 ·subst c1;refine gr ?_;refine⟨⟨_,rfl,?_⟩,e5⟩;simp
 ·have hc1:(q1 == block)=false:=by simp;exact c1
  by_cases c2:q1= -1
  ·refine gr ?_;exact⟨⟨_,rfl,by rw[QB c1];simp[c2]⟩,e5⟩
  ·refine go ?_;refine VA (zLo h5 q1 block M5 r w hb hin (by rcases hp with h|h;exact absurd h c2;exact h)) ?_;rintro _ _ ⟨⟨bb,rfl,hbb⟩,rfl⟩;refine gr ?_;refine⟨⟨!bb,rfl,?_⟩,e5⟩;rw[QB c1];cases bb
   ·simp at hbb;simp[hbb,c2]
   ·simp at hbb;simp[hbb]
def zSI:U0:=(oV (oR [oX 4 0,oX 5 1,oX 6 2,oZ 8]) (oV (oR [oM 9 3,⟨some 10,none,(.mkFunc (.func 188) [] [(.tmp 4),(.tmp 5),(.tmp 6)])⟩,o2 11 121 9 10,oW 12 11,oM 8 12]) .ret))
theorem zGQ (h:Uz)(v:Value)(l:List Int)(block at':Int)(M:Wy h g vt vf T F f ks ps (YH xs n))(r:Rul nx xs)(w:Wh nx 0 block)(hb:0<=block/\block<16)(hin:∀ c,Wh nx 0 c->0<=c/\c<(n:Int))
  (s:WJ h v l) (hl:l.length<=1000) (hx:∀ x∈l,0<=x/\x<(ps.length:Int)) (hp:∀ i,i<ps.length->(ps.getD i default).1= -1\/0<=(ps.getD i default).1):
  WC Tryz.prog tb 129 [.pointer (some ⟨g,0,none⟩),I block,I at',v] h fun q h'=>(∃ bb,q= .bool bb/\(bb=true↔∀ x∈l,zE8 nx (ps.getD x.toNat default) block at'))/\U5 h h':=by
 refine en 13 [(8,none)] zSI ?_;refine VI ?_;intro p1 h1 e1 o1;refine go ?_;refine VI ?_;intro p2 h2 e2 o2;refine go ?_;refine VI ?_;intro p3 h3 e3 o3;have e03:=e1.trans (e2.trans e3);have o1:=o1.ext (e2.trans e3);have o2:=o2.ext e3;have M3:=M.ext e03;have s3:=s.ext e03;refine go ?_;refine VA (zAU h3 v _ l (fun x=>open Classical in decide (¬zE8 nx (ps.getD x.toNat default) block at')) s3 (by omega) ?_) ?_
 ·intro x hxl h4 e4;refine WV.func (WC.mono (zM1 h4 h h1 h2 p1 p2 p3 x block at' (M3.ext e4) r w hb hin (o1.ext e4) (o2.ext e4) (o3.ext e4) (hx x hxl) (hp _ (by have:=hx x hxl;omega))) ?_);rintro _ h5 ⟨⟨bb,rfl,hbb⟩,e5⟩;refine⟨?_,e5⟩;congr 1;cases bb<;>simp_all
 rintro _ h4 ⟨rfl,e4⟩;refine gr ?_;refine⟨⟨_,rfl,?_⟩,e03.trans e4⟩;simp
end
set_option maxRecDepth 100000
structure Gr (F:List WP)(f:Int)(nx:Int->List Int)(xs:List Int)(ps:List (Int×Int))(L:List WQ):Prop where
 hf:0<=f/\f<(F.length:Int)
 hL:(F.getD f.toNat default).blocks=L
 n:L.length<=16
 r:Rul nx xs
 way:∀ c,0<=c->c<(L.length:Int)->Wh nx 0 c
 inn:∀ c,Wh nx 0 c->0<=c/\c<(L.length:Int)
 pl:∀ i,i<ps.length->(ps.getD i default).1= -1\/0<=(ps.getD i default).1
def zUp (nx:Int->List Int)(ps:List (Int×Int))(L:List WQ)(frm args:List Int):Prop:=∀ i,i<frm.length->zE8 nx (ps.getD (args.getD i 0).toNat default) (frm.getD i 0) ((L.getD (frm.getD i 0).toNat default).ins.length)
section
variable {vt vf:Value}{T:List U2}{F:List WP}{f:Int}{ks:List Int}{ps:List (Int×Int)}{xs:List Int}{g:Nat}{nx:Int->List Int}{L:List WQ}
def zMF:U0:=(oV (oR [oB .lss 18 17 16]) (oV (oT 18 0) (oV (o5 1 (oV (oR [oM 19 17,oI 1 20 15 17,oL 21 20,oM 7 19,oM 8 21]) (oV (o6 [oM 22 0,oM 23 8,oM 24 0,(⟨some 25,none,(.nilCheck (.tmp 24))⟩,[]),oF 0 26 25,oF 1 27 26,oL 28 27,oM 29 0,(⟨some 30,none,(.nilCheck (.tmp 29))⟩,[]),oF 2 31 30,oL 32 31,oI 2 33 28 32,oF 1 34 33,oL 35 34,oM 36 8,oI 5 37 35 36,oF 0 38 37,oL 39 38,oQ 40 39,oF 5 41 4,oL 42 41,oM 43 7,oI 1 44 42 43,oL 45 44,(⟨some 46,none,(.buildSlice 1 1 [(.int .i64 0)] [(0,1,(.tmp 45))])⟩,[]),o4 47 129 22 23 40 46,oW 48 47]) (oJ 48 (oV (oR [oZ 6]) .ret) .skip)))) (oR [oC .add 49 17 1,oM 17 49]))))
def zRU:U0:=(oV (oR [oX 4 1,oZ 6]) (oV (oV (oR [oF 6 9 4,oL 10 9,oM 11 2,o2 12 187 10 11,oW 13 12]) (oJ 13 (oV (oR [oZ 6]) .ret) .skip)) (oV (oV (oR [oF 6 14 4,oL 15 14,oQ 16 15,oN 17 0]) (o5 0 (.loop zMF))) (oV (oR [oK 6 (.bool true)]) .ret))))
theorem zRX (h:Uz)(x:WY)(cs:List Value)(v:Value)(l:List Int)(M:Wy h g vt vf T F f ks ps (YH xs L.length))(G:Gr F f nx xs ps L)(hR:BG h cs x)(s:WJ h v l)
  (hfr:∀ i,i<x.frm.length->0<=x.frm.getD i 0/\x.frm.getD i 0<(L.length:Int)) (hlen:x.frm.length<=x.args.length) (hx:∀ i,i<x.args.length->0<=x.args.getD i 0/\x.args.getD i 0<(ps.length:Int)):
  WC Tryz.prog tb 128 [.pointer (some ⟨g,0,none⟩),.agg cs.toArray,v] h fun q h'=>(∃ bb,q= .bool bb/\(bb=true↔x.frm=l/\zUp nx ps L x.frm x.args))/\U5 h h':=by
 have hfr:=WW.mk hfr;have hx:=WW.mk hx;obtain⟨xa,xf,rfl,sxa,sxf,hla,hlf,ho⟩:=id hR;obtain⟨a1,a2,a3,rfl⟩:=WZ.shape sxa;obtain⟨f1,f2,f3,rfl⟩:=WZ.shape sxf;refine en 50 [(6,none)] zRU ?_;refine VI ?_;intro p h3 e3 o3;have sf3:=sxf.ext e3;have s3:=s.ext e3;refine go ?_;refine VA (zFW h3 _ _ x.frm l sf3 s3 (by omega)) ?_;rintro _ _ ⟨rfl,rfl⟩;by_cases hfl:x.frm=l;case neg=>
  rw[Qb hfl];refine gr ?_;exact⟨⟨false,rfl,by simp[hfl]⟩,e3⟩
 rw[Qg hfl];refine go ?_;refine VD [18,19,20,21,7,8,22,23,24,25,26,27,28,29,30,31,32,33,34,35,36,37,38,39,40,41,42,43,44,45,46,47,48,6,49,17] (by kernel_rfl) (fun i=>x.frm.length - i) (fun i t h1=>U5 h3 h1/\zB t 17=I i/\i<=x.frm.length/\WW (∀ j,j<i->zE8 nx (ps.getD (x.args.getD j 0).toNat default) (x.frm.getD j 0) ((L.getD (x.frm.getD j 0).toNat default).ins.length))) 0 ?_ ?_
 ·exact⟨U5.refl _,U7,QT _,⟨fun j hj=>absurd hj (GP _)⟩⟩
 rintro i t h4 hsame ⟨e4,s17,hi,hI⟩;have e34:=e3.trans e4;have sf4:=sf3.ext e4;have o4:=o3.ext e4;refine go ?_;refine VE (fun hb=> ?_) (fun hb=> ?_)<;>simp only[DB]at hb
 ·have hif:i<x.frm.length:=by omega
  have hia:i<x.args.length:=by omega
  have hfr1:=hfr.out i hif;have hx1:=hx.out i hia;have hG:=G.hf;have hGL:=G.hL;have M4:=M.ext e34;refine go ?_;refine VC 1 rfl rfl ?_;have ea:=zZ 1 h4;have sa4:=Va (sxa.ext (e34.trans ea));have o4':=Vi (o4.ext ea);obtain⟨⟨hB,vk,vp,vr,o,a,b,c⟩,st,sf,hm⟩:=M4.aside 1;obtain⟨cs,⟨vb,rfl,sb,hlb⟩,pc,hsl⟩:=zp (i:=f.toNat) sf (by omega);have pc1:=(pc _ (U5.refl _)).1;rw[hGL]at sb;obtain⟨cs2,⟨vi,rfl,si,hli⟩,pc',hsl'⟩:=zp (i:=(x.frm.getD i 0).toNat) sb (by omega);have pc2:=(pc' _ (U5.refl _)).1;refine WM ?_;refine Vf [x.args.getD i 0] M4.hm ?_;intro X5 n5 g5;have n5':X5.n=h4.n+1:=n5;have e5:U5 h4 (yu h4 X5):=zDg (X:=zC 1 h4) ea n5 g5 (QE _) (GD _);have sv5:=zCJ (xs:=[x.args.getD i 0]) (by rw[g5,QJ rfl]) (by omega:h4.n<X5.n);have M5:=VO (M4.ext e5);clear o st sf hm c b a;refine WM ?_;refine VA (zGQ _ _ [x.args.getD i 0] (x.frm.getD i 0) ((L.getD (x.frm.getD i 0).toNat default).ins.length) M5 G.r (G.way _ hfr1.1 hfr1.2) (by have:=G.n;omega) G.inn sv5 (by simp) (fun y hy=>by rw[QW.1 hy];exact hx1) G.pl) ?_;rintro _ X6 ⟨⟨bb,rfl,hbb⟩,e6⟩;simp only[QW,forall_eq]at hbb;have e6':=e5.trans (yr (h:=h4) e6);refine WO.nil ?_;refine zBr e6 ?_;refine WM ?_;cases bb with
  |false=>
   refine gr ?_;refine⟨⟨false,rfl,?_⟩,e34.trans e6'⟩;simp only[Qn,JE,not_and];intro _ hall;exact absurd (hbb.2 (hall i hif)) Bool.noConfusion
  |true=>
   refine go ?_;refine zA (i+1) (by omega) ⟨e4.trans e6',Wo,by omega,⟨fun j hj=> ?_⟩⟩;by_cases e:j=i
   ·subst e;exact hbb.1 rfl
   ·exact hI.out j (by omega)
 ·have hii:i=x.frm.length:=by omega
  subst hii;refine gr ?_;exact⟨⟨true,rfl,by simp only[true_iff];exact⟨hfl,hI.out⟩⟩,e34⟩
end
theorem VQ {P:Program}{tab:Wd}{l:List U1}{t:U4 Value}{ds:List Deferred}{rd:Option Nat}{h:Uz}{Q:WA->Uz->Prop}{d:Nat}{ty:TypeId}{x:Operand}{v:Value}(k:WO P tab l ⟨t.set d (.iface ty v),ds,rd⟩ h Q)(hx:WE t x v:=by exact zL):WO P tab (⟨some d,none,.mkIface ty x⟩::l) ⟨t,ds,rd⟩ h Q:=
 WO.op _ _ rfl (by unfold WE at *;simp only[U9,hx]) k
theorem ZU {P:Program}{tab:Wd}{m N0 g:Nat}{o:U1}{un:List Nat}{l:List (U1×List Nat)}{fr:WA}{h:Uz}{Q:WA->Uz->Prop}{t:U4 Value}(hr:zX t o=none)(hx:WN P tab m N0 l g true fr (inC h) Q):uK2 P tab m N0 un t o (inC h) l g true Q fr (inC h):=
 zH6 (fun g hg=>by rw[hr]at hg;cases hg) hx
structure InsT (T:List U2)(F:List WP)(x:WY):Prop where
 ty:BE T x.ty
 n14:x.op=14->0<=x.n
 n2:x.op=3\/x.op=18->0<=x.n/\x.n<(F.length:Int)
 l1:x.op=14\/x.op=15\/x.op=16\/x.op=17\/x.op=19->1<=(yQ x).length
 l2:x.op=15\/x.op=17\/x.op=10->2<=(yQ x).length
theorem zFK {x:WY}{N n:Int}(u:InsU x N n):(yQ x).length<=30:=by
 have:=u.args;unfold yQ;simp only[QM];have h1:(if (zY x.op).1 then [x.a] else []).length<=1:=by split<;>simp
 have h2:(if (zY x.op).2.1 then [x.b] else []).length<=1:=by split<;>simp
 have h3:(if (zY x.op).2.2.2.1 then x.args else []).length<=20:=by
  split
  ·exact this
  ·exact QT _
 omega
theorem zTH {T:List U2}{F:List WP}{f:WP}{x:WY}(hT:0<T.length)(h:zCW x (szL T F.length f)=true):InsT T F x:=by
 have ho:=zNx h;have m:=(zEq (by omega)).1 h;have ha:=zDm (op:=x.op) (by omega);have hty:=m.ans;have hn:=m.num;refine⟨?_,fun e=> ?_,fun e=> ?_,fun e=> ?_,fun e=> ?_⟩
 ·split at hty
  ·exact .inr hty
  ·exact .inr ⟨by omega,by omega⟩
 ·unfold zMg at hn;rw[QB (by omega),QB (by omega),QJ e]at hn;exact hn.1
 ·unfold zMg at hn;rw[QB (by omega),QJ e]at hn;exact hn
 ·have h1:(zY x.op).1=true:=ha.2.1.2 (by unfold zHY zJN;omega);unfold yQ;rw[h1];simp
 ·have h1:(zY x.op).1=true:=ha.2.1.2 (by unfold zHY zJN;omega);have h2:(zY x.op).2.1=true:=ha.1.2 (by unfold zJN;omega);unfold yQ;rw[h1,h2];simp
def YG (ks rs:List Int):List Int:=rs.map fun r=>ks.getD r.toNat 0
def zHA (T:List U2)(F:List WP)(ks:List Int)(ps:List (Int×Int))(nx:Int->List Int)(L:List WQ)(P:List Int)(b:Int)(i:Nat)(pre:Prop)(x:WY):Prop:=
 ¬(-1:Int)∈YG ks (yQ x)/\zBH T F x (YG ks (yQ x))=true/\(x.op=22->pre/\x.frm=P/\zUp nx ps L x.frm x.args)/\(x.op≠22->∀ r∈yQ x,zE8 nx (ps.getD r.toNat default) b i)
def YI (T:List U2)(F:List WP)(ks:List Int)(ps:List (Int×Int))(nx:Int->List Int)(L:List WQ)(P:List Int)(b:Int)(i:Nat):Prop:=
 zHA T F ks ps nx L P b i (∀ j,j<i->((L.getD b.toNat default).ins.getD j default).op=22) ((L.getD b.toNat default).ins.getD i default)
def zJ0 (T:List U2)(F:List WP)(f:Int)(ks:List Int)(ps:List (Int×Int))(nx:Int->List Int)(b:Int)(B:WQ):Prop:=
 (¬(-1:Int)∈YG ks (yn B.fin)/\∀ r∈yn B.fin,zE8 nx (ps.getD r.toNat default) b B.ins.length)/\(B.fin.kind=2->isL T 1 (YG ks (yn B.fin))=true)/\(B.fin.kind=1\/B.fin.kind=2->B.fin.to≠0/\(B.fin.kind=1\/B.fin.els≠0))/\(B.fin.kind=3->(YG ks (yn B.fin)).getD 0 0=(T.getD (F.getD f.toNat default).sig.toNat default).elem)
def Y3 (T:List U2)(F:List WP)(f:Int)(ks:List Int)(ps:List (Int×Int))(nx:Int->List Int)(L:List WQ)(b:Int):Prop:=zJ0 T F f ks ps nx b (L.getD b.toNat default)
def tyF:Nat:=130
def Bn (f b:Int):Value:= .iface tyF (.agg #[I f,I b,I 120])
section
variable {vt vf:Value}{T:List U2}{F:List WP}{f:Int}{ks:List Int}{ps:List (Int×Int)}{xs:List Int}{g:Nat}{nx:Int->List Int}{L:List WQ}
theorem Uc {X:Uz}{v:Value}{l:List WY}(o:BS X v l):BS (inC X) v l:=o
theorem zPI {h:Uz}{vi:Value}{B:WQ}{i:Nat}(s:BS h vi B.ins)(hi:i<B.ins.length):∃ cs,BG h cs (B.ins.getD i default)/\(∀ h',U5 h h'->Wp h' vi (i * 7) cs/\Wp (inC h') vi (i * 7) cs)/\zM5 vi:=zp s hi
def zOL:Nat->U0->U0
 |n+1,.seq _ b=>zOL n b
 |_,c=>c
def zNb:U0:=(oV (oR [oB .lss 54 53 52]) (oV (oT 54 0) (oV (o5 1 (oV (oR [oM 55 53,oI 7 56 51 53,oA 7 57 56,⟨some 11,none,(.alloc [(.int .u8 0),(.int .i64 0),(.int .i64 0),(.int .i64 0),(.int .i64 0),(.slice none 0 0),(.slice none 0 0)])⟩,oM 10 55,oS 7 11 57]) (oV (oR [oA 7 58 11,o1 59 124 58,oM 12 59]) (oV (oR [oM 60 0,oM 61 12,o2 62 125 60 61,oM 13 62]) (o5 2 (oV (oR [oM 72 13,⟨some 73,none,(.call (.func 126) [(.tmp 72),(.const (.int .i64 (-1)))])⟩,oM 74 73,oH 74 (oM 75 0),oH 74 (oA 7 76 11),oH 74 (oM 77 13),oH 74 (o3 78 127 75 76 77),oH 74 (oW 79 78),oO 80 74 79,oM 71 80]) (oJ 71 (oV (oR [oA 3 81 8,⟨some 82,none,(.mkIface 130 (.tmp 81))⟩,oM 4 82]) .ret) (oV (oR [oF 0 84 11,oL 85 84,oD .eql 86 85 22,oM 83 86]) (oJ 83 (oV (oR [oM 87 9,oW 88 87,oM 89 88,oH 89 (oM 90 0),oH 89 (oA 7 91 11),oH 89 (oM 92 6),oH 89 (o3 93 128 90 91 92),oH 89 (oW 94 93),oO 95 89 94]) (oJ 95 (oV (oR [oA 3 96 8,⟨some 97,none,(.mkIface 130 (.tmp 96))⟩,oM 4 97]) .ret) .skip)) (oV (oR [oZ 9]) (oV (oR [oM 63 0,oM 64 1,oM 65 10,oM 66 12,o4 67 129 63 64 65 66,oW 68 67]) (oJ 68 (oV (oR [oA 3 69 8,⟨some 70,none,(.mkIface 130 (.tmp 69))⟩,oM 4 70]) .ret) .skip)))))))))))) (oR [oC .add 98 53 1,oM 53 98]))))
def zI4:U0:=(oV (oR [⟨some 4,none,(.mov (.const .nilIface))⟩]) (oV (o6 [oM 16 0,(⟨some 17,none,(.nilCheck (.tmp 16))⟩,[]),oF 0 18 17,oF 1 19 18,oL 20 19,oM 21 0,(⟨some 22,none,(.nilCheck (.tmp 21))⟩,[]),oF 2 23 22,oL 24 23,oI 2 25 20 24,oF 1 26 25,oL 27 26,oM 28 1,oI 5 29 27 28,oA 5 30 29,(⟨some 5,none,(.alloc [(.slice none 0 0),(.int .u8 0),(.int .i64 0),(.int .i64 0),(.int .i64 0)])⟩,[]),oS 5 5 30]) (oV (o6 [oM 32 0,(⟨some 33,none,(.nilCheck (.tmp 32))⟩,[]),oF 0 34 33,oA 2 35 34,oM 36 0,(⟨some 37,none,(.nilCheck (.tmp 36))⟩,[]),oF 2 38 37,oL 39 38,oM 40 1,o3 41 123 35 39 40,oM 31 41,oE 42 31 0,oE 43 31 1,oM 6 42,oM 7 43]) (oV (oR [oM 44 0,⟨some 45,none,(.nilCheck (.tmp 44))⟩,oF 2 46 45,oL 47 46,oM 48 1,⟨some 49,none,(.build [(.int .i64 0),(.int .i64 0),(.int .i64 0)] [(0,1,(.tmp 47)),(1,1,(.tmp 48)),(2,1,(.const (.int .i64 120)))])⟩,⟨some 8,none,(.alloc [(.int .i64 0),(.int .i64 0),(.int .i64 0)])⟩,oS 3 8 49]) (oV (oR [oK 9 (.bool true)]) (oV (oV (oR [oF 0 50 5,oL 51 50,oQ 52 51,oN 53 0]) (o5 0 (.loop zNb))) (oV (oR [oM 99 0,oF 1 100 5,oA 4 101 100,o1 102 130 101,o2 103 125 99 102,oM 14 103]) (oV (o6 [oM 104 14,(⟨some 105,none,(.call (.func 126) [(.tmp 104),(.const (.int .i64 (-1)))])⟩,[]),oW 106 105,oM 107 106,oG 107 (oM 108 0),oG 107 (oM 109 1),oG 107 (oF 0 110 5),oG 107 (oL 111 110),oG 107 (oQ 112 111),oG 107 (oF 1 113 5),oG 107 (oA 4 114 113),(oG 107 (o1 115 130 114),[7]),oG 107 (o4 116 129 108 109 112 115),oP 117 107 116,oM 15 117]) (oV (oV (oR [oF 1 118 5,oF 0 119 118,oL 120 119]) (o5 3 (oV (o5 6 (oV (o5 5 (oV (o5 4 (oV (oV (oV (oR [oD .eql 122 120 2,oM 121 122]) (oJ 121 (.exit 4) .skip)) (oV (oV (oR [oD .eql 124 120 1,oM 123 124]) (oJ 123 (.exit 5) .skip)) (oV (oR [oD .eql 126 120 3,oM 125 126]) (oJ 125 (.exit 6) .skip)))) (.exit 3))) (oR [oM 127 15,oM 128 127,oG 128 (oM 129 0),oG 128 (oM 130 14),⟨some 131,some (128,true),(.call (.func 76) [(.tmp 129),(.const (.int .u8 1)),(.tmp 130)])⟩,oP 132 128 131,oM 15 132]))) (oV (oR [oM 133 15,oM 134 133,oG 134 (oF 1 135 5),oG 134 (oF 2 136 135),oG 134 (oL 137 136),oG 134 (oC .neq 138 137 0),oP 139 134 138,oM 140 139,oG 140 (oF 1 141 5),oG 140 (oF 0 142 141),oG 140 (oL 143 142),oG 140 (oD .eql 144 143 1),oG 140 (oM 145 144),oH 145 (oF 1 146 5),oH 145 (oF 3 147 146),oH 145 (oL 148 147),oH 145 (oC .neq 149 148 0),oG 140 (oO 150 145 149),oP 151 140 150,oM 15 151]) (.exit 3)))) (oV (o6 [oM 152 15,oM 153 152,oG 153 (oM 154 14),(⟨some 155,some (153,true),(.idx 1 (.tmp 154) (.const (.int .i64 0)))⟩,[]),oG 153 (oL 156 155),oG 153 (oM 157 0),(⟨some 158,some (153,true),(.nilCheck (.tmp 157))⟩,[]),oG 153 (oF 0 159 158),oG 153 (oF 0 160 159),oG 153 (oL 161 160),oG 153 (oM 162 0),(⟨some 163,some (153,true),(.nilCheck (.tmp 162))⟩,[]),oG 153 (oF 0 164 163),oG 153 (oF 1 165 164),oG 153 (oL 166 165),oG 153 (oM 167 0),(⟨some 168,some (153,true),(.nilCheck (.tmp 167))⟩,[]),oG 153 (oF 2 169 168),oG 153 (oL 170 169),oG 153 (oI 2 171 166 170),oG 153 (oF 0 172 171),oG 153 (oL 173 172),oG 153 (oI 4 174 161 173),oG 153 (oF 1 175 174),oG 153 (oL 176 175),oG 153 (oB .eql 177 156 176),oP 178 153 177,oM 15 178]) (.exit 3))))) (oV (oV (oR [oM 179 15,oW 180 179]) (oJ 180 (oV (oR [oA 3 181 8,⟨some 182,none,(.mkIface 130 (.tmp 181))⟩,oM 4 182]) .ret) .skip)) (oV (oR [⟨some 4,none,(.mov (.const .nilIface))⟩]) .ret)))))))))))
theorem zJp (h h8 h0 h00:Uz)(t8:U4 Value)(b:Int)(B:WQ)(P:List Int)(p5 p8 vl vi:Value)(q:Bool)(e08:U5 h h8)(M8:Wy h8 g vt vf T F f ks ps (YH xs L.length))(hG:0<=f/\f<(F.length:Int))(hBq:L.getD b.toNat default=B)
  (hsig:0<=(F.getD f.toNat default).sig/\(F.getD f.toNat default).sig<(T.length:Int)) (hinT:∀ t∈YG ks (yn B.fin),BE T t) (hell:(YG ks (yn B.fin)).length=(yn B.fin).length) (hue:(yn B.fin).length<=1)
  (o58:U3 h0 h8 p5 [vi,.int .u8 B.fin.kind,I B.fin.a,I B.fin.to,I B.fin.els]) (o88:U3 h00 h8 p8 [I f,I b,I 120]) (ol8:WJ h8 vl (YG ks (yn B.fin)))
  (s0:zB t8 0= .pointer (some ⟨g,0,none⟩)) (s1:zB t8 1=I b) (s5:zB t8 5=p5) (s8:zB t8 8=p8) (s14:zB t8 14=vl) (s15:zB t8 15= .bool q)
  (hI:WW (∀ j,j<B.ins.length->YI T F ks ps nx L P b j)) (hq:WW (q=true↔¬(-1:Int)∈YG ks (yn B.fin)/\∀ r∈yn B.fin,zE8 nx (ps.getD r.toNat default) b B.ins.length)):
  WX Tryz.prog tb (zOL 8 zI4) ⟨t8,[],none⟩ h8 (zEr Tryz.prog tb [(4,none)] fun q h'=>(q= .nilIface/\(∀ i,i<B.ins.length->YI T F ks ps nx L P b i)/\Y3 T F f ks ps nx L b\/q=Bn f b/\¬((∀ i,i<B.ins.length->YI T F ks ps nx L P b i)/\Y3 T F f ks ps nx L b))/\U5 h h'):=by
 simp only[zOL,oV,zI4];have hE:Y3 T F f ks ps nx L b↔zJ0 T F f ks ps nx b B:=by unfold Y3;rw[hBq]
 unfold zJ0 at hE;rw[<-hq.out]at hE;have goodE:∀ {h'},Y3 T F f ks ps nx L b->U5 h h'->(Value.nilIface= .nilIface/\(∀ i,i<B.ins.length->YI T F ks ps nx L P b i)/\Y3 T F f ks ps nx L b\/Value.nilIface=Bn f b/\¬((∀ i,i<B.ins.length->YI T F ks ps nx L P b i)/\Y3 T F f ks ps nx L b))/\U5 h h':=fun he e=>⟨.inl ⟨rfl,hI.out,he⟩,e⟩;have badE:∀ {h'},¬Y3 T F f ks ps nx L b->U5 h h'->(Bn f b= .nilIface/\(∀ i,i<B.ins.length->YI T F ks ps nx L P b i)/\Y3 T F f ks ps nx L b\/Bn f b=Bn f b/\¬((∀ i,i<B.ins.length->YI T F ks ps nx L P b i)/\Y3 T F f ks ps nx L b))/\U5 h h':=fun hn e=>⟨.inr ⟨rfl,fun ⟨_,a⟩=>hn a⟩,e⟩;have hE:=WW.mk hE;have goodE:=WW.mk @goodE;have badE:=WW.mk @badE;refine go ?_;by_cases k2:B.fin.kind=2
 ·have k1:¬B.fin.kind=1:=by omega
  have k3:¬B.fin.kind=3:=by omega
  cases q with
  |false=>
   refine go ?_;refine VQ ?_;refine gr ?_;exact badE.out (fun e'=>have e:=hE.out.1 e';absurd e.1 Bool.noConfusion) e08
  |true=>
   refine go ?_;refine VA (yt h8 1 vl _ M8 ol8 (by omega) hinT) ?_;rintro _ h9 ⟨rfl,e9⟩;have o59:=o58.ext e9;have o89:=o88.ext e9;cases c1:isL T 1 (YG ks (yn B.fin))with
   |false=>
    refine go ?_;refine VQ ?_;refine gr ?_;exact badE.out (fun e'=>have e:=hE.out.1 e';absurd ((e.2.1 k2).symm.trans c1) Bool.noConfusion) (e08.trans e9)
   |true=>
    by_cases ct:B.fin.to=0
    ·have ct':¬B.fin.to≠0:=fun h=>h ct;refine go ?_;refine VQ ?_;refine gr ?_;exact badE.out (fun e'=>have e:=hE.out.1 e';(e.2.2.1 (.inr k2)).1 ct) (e08.trans e9)
    ·have ct':B.fin.to≠0:=ct;by_cases ce:B.fin.els=0
     ·have ce':¬B.fin.els≠0:=fun h=>h ce;refine go ?_;refine VQ ?_;refine gr ?_;exact badE.out (fun e'=>have e:=hE.out.1 e';(e.2.2.1 (.inr k2)).2.elim k1 (fun h=>h ce)) (e08.trans e9)
     ·have ce':B.fin.els≠0:=ce;refine go ?_;rw[Qb ce];refine gr ?_;exact goodE.out (hE.out.2 ⟨rfl,fun _=>c1,fun _=>⟨ct,.inr ce⟩,fun h=>absurd h k3⟩) (e08.trans e9)
 refine go ?_;by_cases k1:B.fin.kind=1
 ·have k3:¬B.fin.kind=3:=by omega
  cases q with
  |false=>
   refine go ?_;refine VQ ?_;refine gr ?_;exact badE.out (fun e'=>have e:=hE.out.1 e';absurd e.1 Bool.noConfusion) e08
  |true=>
   by_cases ct:B.fin.to=0
   ·have ct':¬B.fin.to≠0:=fun h=>h ct;refine go ?_;refine VQ ?_;refine gr ?_;exact badE.out (fun e'=>have e:=hE.out.1 e';(e.2.2.1 (.inl k1)).1 ct) e08
   ·have ct':B.fin.to≠0:=ct;refine go ?_;rw[Qb ct];refine gr ?_;exact goodE.out (hE.out.2 ⟨rfl,fun h=>absurd h k2,fun _=>⟨ct,.inl k1⟩,fun h=>absurd h k3⟩) e08
 refine go ?_;by_cases k3:B.fin.kind=3
 ·cases q with
  |false=>
   refine go ?_;refine VQ ?_;refine gr ?_;exact badE.out (fun e'=>have e:=hE.out.1 e';absurd e.1 Bool.noConfusion) e08
  |true=>
   have hel1:(YG ks (yn B.fin)).length=1:=by rw[hell];unfold yn;rw[QJ (.inr k3)];rfl
   obtain⟨⟨hB3,vk3,vp3,vr3,om,oma,omb,omc⟩,st3,sf3,hm3⟩:=id M8;obtain⟨csf,⟨vbf,rfl,sbf,hlbf⟩,pcf,hslf⟩:=zp (i:=f.toNat) sf3 (by omega);have pcf1:=(pcf _ (U5.refl _)).1;obtain⟨cst,⟨vat,rfl,sat,hlat⟩,pct,hslt⟩:=ZN (i:=(F.getD f.toNat default).sig.toNat) st3 (by omega);by_cases ct:(YG ks (yn B.fin)).getD 0 0=(T.getD (F.getD f.toNat default).sig.toNat default).elem
   ·have cd:=Qg ct;refine gr ?_;exact goodE.out (hE.out.2 ⟨rfl,fun h=>absurd h k2,fun h=>absurd h (by omega),fun _=>ct⟩) e08
   ·have cd:=Qb ct;refine go ?_;refine VQ ?_;refine gr ?_;exact badE.out (fun e'=>have e:=hE.out.1 e';absurd (e.2.2.2 k3) ct) e08
 cases q with
 |false=>
  refine go ?_;refine VQ ?_;refine gr ?_;exact badE.out (fun e'=>have e:=hE.out.1 e';absurd e.1 Bool.noConfusion) e08
 |true=>
  refine gr ?_;exact goodE.out (hE.out.2 ⟨rfl,fun h=>absurd h k2,fun h=>absurd h (by omega),fun h=>absurd h k3⟩) e08
end
set_option maxRecDepth 100000
section
variable {vt vf:Value}{T:List U2}{F:List WP}{f:Int}{ks:List Int}{ps:List (Int×Int)}{xs:List Int}{g:Nat}{nx:Int->List Int}{L:List WQ}
theorem zMt (h:Uz)(b:Int)(M:Wy h g vt vf T F f ks ps (YH xs L.length))(G:Gr F f nx xs ps L)(E:Env h vt vf T F)(hc:yp T=0)(hks:∀ t∈ks,BE T t)(hF:∀ f∈F,BE T f.sig)
  (hsig:0<=(F.getD f.toNat default).sig/\(F.getD f.toNat default).sig<(T.length:Int)) (hlen:ks.length=ps.length) (U:∀ B∈L,BlkU B ks.length L.length) (V:∀ B∈L,∀ x∈B.ins,InsT T F x) (hb:0<=b/\b<(L.length:Int)) (hil:(L.getD b.toNat default).ins.length<=1000):
  WC Tryz.prog tb 77 [.pointer (some ⟨g,0,none⟩),I b] h fun q h'=>(q= .nilIface/\(∀ i,i<(L.getD b.toNat default).ins.length->YI T F ks ps nx L (YU T F f b).1 b i)/\Y3 T F f ks ps nx L b\/q=Bn f b/\¬((∀ i,i<(L.getD b.toNat default).ins.length->YI T F ks ps nx L (YU T F f b).1 b i)/\Y3 T F f ks ps nx L b))/\U5 h h':=by
 have hb0:=hb;have hBL:L.getD b.toNat default∈L:=zK (by omega);have UB:=U _ hBL;have VB:=V _ hBL;have hG:=G.hf;have hGL:=G.hL;refine en 183 [(4,none)] zI4 ?_;refine VC 1 rfl rfl ?_;have ea:=zZ 1 h;obtain⟨⟨hB,vk,vp,vr,o,a,b',c⟩,st,sf,hm⟩:=M.aside 1;obtain⟨cs,⟨vb,rfl,sb,hlb⟩,pc,hsl⟩:=zp (i:=f.toNat) M.sf (by omega);have pc1:=(pc _ ea).2;rw[hGL]at sb;have sbX:=W6.ext sb ea;have sbX:W6 (inC (zC 1 h)) vb L:=sbX;obtain⟨cs2,⟨vi,rfl,si,hli⟩,pc',hsl'⟩:=zp (i:=b.toNat) sb (by omega);have pc2:=(pc' _ ea).2;obtain⟨ia,iN,ik,rfl⟩:=zF si;refine WM ?_;refine XD (X:=inC (zC 1 h)) (U5.refl _) E.hm ?_;intro h1 p5 e1 o5;have si1:BS h1 _ (L.getD b.toNat default).ins:=BS.ext si e1;have M1:=M.ext e1;have E1:=E.ext e1;clear o a b' c st sf hm sb sbX si pc1 pc2 pc pc' hsl hsl' ea;refine go ?_;refine VC 0 rfl rfl ?_;obtain⟨⟨hB',vk',vp',vr',o,a,b',c⟩,st,sf,hm⟩:=M1.aside 0;refine WM ?_;refine VA (zPb _ vt vf T F f b E1.tt (QE _) E1.sm E1.st E1.sf) ?_;rintro _ X2 ⟨⟨vq,rfl,oq0⟩,e2⟩;refine nE e2 ?_;have e2'':U5 h1 (yu h1 X2):=(zZ 0 h1).trans (yr (h:=h1) e2);have e2':U5 h1 (yu h1 (inC X2)):=e2'';refine WM ?_;have oq:WH h1 (yu h1 (inC X2)) vq (YU T F f b).1:=oq0;generalize (YU T F f b).2=eq at *;generalize yu h1 (inC X2)=h2 at *;generalize hP:(YU T F f b).1=P at *;clear o a b' c st sf hm oq0 e2 e2'';have M2:=M1.ext e2';have o5:=o5.ext e2';have si2:=BS.ext si1 e2';have e02:=e1.trans e2';obtain⟨⟨hB2,vk2,vp2,vr2,om,oma,omb,omc⟩,omd,ome,omf⟩:=id M2;refine go ?_;refine WO.al ?_;intro p8 h3 e3 o8;refine go ?_;refine VG (cs:=[I f,I b,I 120]) o8 e3 ?_;intro h4 e4 o8 u8;have e04:=e02.trans e4;have M4:=M2.ext e4;have o5:=o5.ext e4;have si4:=BS.ext si2 e4;have oq4:=oq.ext e4;clear oma omb omc omd ome omf om M1 si1 E1;have E4:=E.ext e04;generalize hBq:L.getD b.toNat default=B at *;refine go ?_;refine VD [54,55,56,57,11,10,58,59,12,60,61,62,13,72,73,74,75,76,77,78,79,80,71,81,82,4,84,85,86,83,87,88,89,90,91,92,93,94,95,96,97,4,9,63,64,65,66,67,68,69,70,4,98,53] (by kernel_rfl) (fun i=>B.ins.length - i) (fun i t h1=>U5 h4 h1/\zB t 53=I i/\i<=B.ins.length/\(∃ fl,zB t 9= .bool fl/\WW (fl=true↔∀ j,j<i->(B.ins.getD j default).op=22))/\WW (∀ j,j<i->YI T F ks ps nx L P b j)) 0 ?_ ?_
 ·exact⟨U5.refl _,U7,QT _,⟨true,U7,⟨by simp⟩⟩,⟨fun j hj=>absurd hj (GP _)⟩⟩
 rintro i t h5 hsame ⟨e5,s53,hi,⟨fl,s9,hfl⟩,hI⟩;have M5:=M4.ext e5;have o55:=o5.ext e5;have o85:=o8.ext e5;have si5:=BS.ext si4 e5;have oq5:=oq4.ext e5;have E5:=E4.ext e5;have e05:=e04.trans e5;refine go ?_;refine VE (fun hb=> ?_) (fun hb=> ?_)<;>simp only[DB]at hb
 ·have hi':i<B.ins.length:=by omega
  obtain⟨cs,hR,pcx,hsx⟩:=zPI si5 hi';have hxm:B.ins.getD i default∈B.ins:=zK hi';generalize hx:B.ins.getD i default=x at *;have hok:YI T F ks ps nx L P b i↔zHA T F ks ps nx L P b i (∀ j,j<i->(B.ins.getD j default).op=22) x:=by unfold YI;rw[hBq,hx]
  have ux:=UB.ins x hxm;have vx:=VB x hxm;have pcx1:=(pcx h5 (U5.refl _)).1;obtain⟨xa,xf,rfl,sxa,sxf,hla,hlf,ho⟩:=id hR;obtain⟨xa1,xa2,xa3,rfl⟩:=WZ.shape sxa;obtain⟨xf1,xf2,xf3,rfl⟩:=WZ.shape sxf;refine go ?_;refine WO.al ?_;intro p11 h6 e6 o11;refine go ?_;refine VG (cs:=[.int .u8 x.op,I x.ty,I x.a,I x.b,I x.n,.slice xa1 xa2 xa3,.slice xf1 xf2 xf3]) o11 e6 ?_;intro h7 e7 o11 u7;have hR7:=hR.ext e7;have E7:=E5.ext e7;refine go ?_;refine VA (zM2 h7 x _ hR7 E7.tt ux.args) ?_;rintro vu h8 ⟨ou,e8⟩;have e58:=e7.trans e8;refine go ?_;refine VA (zM4 h8 vu (yQ x) (M5.ext e58) ou.sl (by have:=zFK ux;omega) (fun r hr=>ux.uses r hr)) ?_;rintro vl h9 ⟨ol,e9⟩;have e59:=e58.trans e9;have e09:=e05.trans e59;have bad:∀ {h'},¬YI T F ks ps nx L P b i->U5 h h'->(Bn f b= .nilIface/\(∀ i,i<B.ins.length->YI T F ks ps nx L P b i)/\Y3 T F f ks ps nx L b\/Bn f b=Bn f b/\¬((∀ i,i<B.ins.length->YI T F ks ps nx L P b i)/\Y3 T F f ks ps nx L b))/\U5 h h':=fun hn e=>⟨.inr ⟨rfl,fun ⟨a,_⟩=>hn (a i hi')⟩,e⟩;have bad:=WW.mk @bad;have hok:=WW.mk hok;have M9:=M5.ext e59;have o89:=o85.ext e59;have o119:=o11.ext (e8.trans e9);have hlu:=zFK ux;have ouI:=ou.sl.ext e9;have hll:(YG ks (yQ x)).length=(yQ x).length:=by unfold YG;simp
  have hinT:∀ t∈YG ks (yQ x),BE T t:=fun t ht=>by
   obtain⟨r,hr,rfl⟩:=Q6.1 ht;have:=ux.uses r hr;exact hks _ (zq (by omega))
  replace ol:WH h8 h9 vl (YG ks (yQ x)):=ol;have R9:=hR.ext e59;refine go ?_;refine VA (Y8 h9 vl (YG ks (yQ x)) (-1) ol.sl (by omega)) ?_;rintro _ _ ⟨rfl,rfl⟩;by_cases c1:(-1:Int)∈YG ks (yQ x)
  ·rw[Qg c1];refine go ?_;refine VQ ?_;refine gr ?_;exact bad.out (fun q=>(hok.out.1 q).1 c1) e09
  rw[Qb c1];refine go ?_;refine VA (zMN h9 x _ vl (YG ks (yQ x)) M9 hc R9 ol.sl (by omega) hinT vx.ty hF vx.n14 vx.n2 (fun e=>by have:=vx.l1 e;omega) (fun e=>by have:=vx.l2 e;omega)) ?_;rintro _ h10 ⟨rfl,e10⟩;have e010:=e09.trans e10;have o810:=o89.ext e10;have o1110:=o119.ext e10;cases c2:zBH T F x (YG ks (yQ x))with
  |false=>
   refine go ?_;refine VQ ?_;refine gr ?_;exact bad.out (fun q=>absurd ((hok.out.1 q).2.1.symm.trans c2) Bool.noConfusion) e010
  |true=>
  have M10:=M9.ext e10;have oq10:=oq5.ext (e59.trans e10);have R10:=R9.ext e10;refine go ?_;by_cases c3:x.op=22
  ·cases fl with
   |false=>
    refine go ?_;refine VQ ?_;refine gr ?_;exact bad.out (fun q=>absurd (hfl.out.2 ((hok.out.1 q).2.2.1 c3).1) Bool.noConfusion) e010
   |true=>
    refine go ?_;have hph:=ux.phi c3;refine VA (zRX h10 x _ _ P M10 G R10 oq10.sl (fun j hj=>hph.2.2 _ (zq hj)) (by omega) (fun j hj=>by have:=hph.2.1 _ (zq hj);omega)) ?_;rintro _ h11 ⟨⟨bb,rfl,hbb⟩,e11⟩;have e011:=e010.trans e11;have o811:=o810.ext e11;cases bb with
    |false=>
     refine go ?_;refine VQ ?_;refine gr ?_;exact bad.out (fun q=>absurd (hbb.2 ((hok.out.1 q).2.2.1 c3).2) Bool.noConfusion) e011
    |true=>
     refine go ?_;refine zA (i+1) (by omega) ⟨e5.trans (e59.trans (e10.trans e11)),Wo,by omega,⟨true,U7,⟨?_⟩⟩,⟨fun j hj=> ?_⟩⟩
     ·simp only[true_iff];intro j hj;by_cases e:j=i
      ·subst e;rw[hx];exact c3
      ·exact hfl.out.1 rfl j (by omega)
     ·by_cases e:j=i
      ·subst e;exact hok.out.2 ⟨c1,c2,fun _=>⟨hfl.out.1 rfl,hbb.1 rfl⟩,fun h=>absurd c3 h⟩
      ·exact hI.out j (by omega)
  ·refine go ?_;have ou10:=ouI.ext e10;refine VA (zGQ h10 vu (yQ x) b i M10 G.r (G.way b hb0.1 hb0.2) (by have:=G.n;omega) G.inn ou10 (by omega) (fun r hr=>by have:=ux.uses r hr;omega) G.pl) ?_;rintro _ h11 ⟨⟨bb,rfl,hbb⟩,e11⟩;have e011:=e010.trans e11;have o811:=o810.ext e11;cases bb with
   |false=>
    refine go ?_;refine VQ ?_;refine gr ?_;exact bad.out (fun q=>absurd (hbb.2 ((hok.out.1 q).2.2.2 c3)) Bool.noConfusion) e011
   |true=>
    refine go ?_;refine zA (i+1) (by omega) ⟨e5.trans (e59.trans (e10.trans e11)),Wo,by omega,⟨false,U7,⟨?_⟩⟩,⟨fun j hj=> ?_⟩⟩
    ·simp only[Qn,JE];intro hall;have:=hall i (by omega);rw[hx]at this;exact c3 this
    ·by_cases e:j=i
     ·subst e;exact hok.out.2 ⟨c1,c2,fun h=>absurd h c3,fun _=>hbb.1 rfl⟩
     ·exact hI.out j (by omega)
 ·have hii:i=B.ins.length:=by omega
  subst hii;obtain⟨⟨hB3,vk3,vp3,vr3,om,oma,omb,omc⟩,st3,sf3,hm3⟩:=id M5;refine go ?_;refine VA (zHs h5 B.fin) ?_;rintro ve h6 ⟨oe,e6⟩;refine go ?_;have hue:(yn B.fin).length<=1:=by unfold yn;split<;>simp
  refine VA (zM4 h6 ve (yn B.fin) (M5.ext e6) oe.sl (by omega) UB.ends) ?_;rintro vl h7 ⟨ol,e7⟩;replace ol:WH h6 h7 vl (YG ks (yn B.fin)):=ol;have e57:=e6.trans e7;have e07:=e05.trans e57;have hell:(YG ks (yn B.fin)).length=(yn B.fin).length:=by unfold YG;simp
  have hinT:∀ t∈YG ks (yn B.fin),BE T t:=fun t ht=>by
   obtain⟨r,hr,rfl⟩:=Q6.1 ht;have:=UB.ends r hr;exact hks _ (zq (by omega))
  have M7:=M5.ext e57;have o87:=o85.ext e57;have o57:=o55.ext e57;have si7:=BS.ext si5 e57;clear om oma omb omc st3 sf3 hm3;refine go ?_;refine VJ [104,105,106,107,108,109,110,111,112,113,114,115,116,117,15] (by kernel_rfl) (fun t h'=>U5 h7 h'/\∃ q,zB t 15= .bool q/\WW (q=true↔¬(-1:Int)∈YG ks (yn B.fin)/\∀ r∈yn B.fin,zE8 nx (ps.getD r.toNat default) b B.ins.length)) ?_ ?_
  ·refine VC 0 rfl rfl ?_;have ea:=zZ 0 h7;have olX:=Va (ol.sl.ext ea);have o5X:=Vi (o57.ext ea);have siX:=Uc (BS.ext si7 ea);refine WM ?_;refine VA (Y8 _ vl _ (-1) olX (by omega)) ?_;rintro _ _ ⟨rfl,rfl⟩;refine nQ ?_;by_cases c1:(-1:Int)∈YG ks (yn B.fin)
   ·rw[Qg c1];refine WM ?_;refine ZU zw ?_;refine WM ?_;exact zG ⟨ea,false,U7,⟨by simp[c1]⟩⟩
   ·rw[Qb c1];refine WM ?_;refine VA (zHs _ B.fin) ?_;rintro ve2 X8 ⟨oe2,e8⟩;refine nE e8 ?_;have e8':=ea.trans (yr (h:=h7) (X:=zC 0 h7) (Y:=X8) e8);refine WM ?_;refine VA (zGQ _ ve2 (yn B.fin) b B.ins.length (VO (M7.ext e8')) G.r (G.way b hb0.1 hb0.2) (by have:=G.n;omega) G.inn (Va oe2.sl) (by omega) (fun r hr=>by have:=UB.ends r hr;omega) G.pl) ?_;rintro _ X9 ⟨⟨bb,rfl,hbb⟩,e9⟩;refine nE e9 ?_;have e9':=e8'.trans (yr (h:=h7) e9);refine WM ?_;exact zG ⟨e9',bb,U7,⟨by rw[hbb];simp[c1]⟩⟩
  rintro t8 h8 hs8 ⟨e8,q,s15,hq⟩;refine Z9 ?_;exact zJp (xs:=xs) h h8 _ _ t8 b B P p5 p8 vl _ q (e07.trans e8) (M7.ext e8) hG hBq hsig hinT hell hue (o57.ext e8) (o87.ext e8) (ol.sl.ext e8) (by exact Yg) (by exact Yg) (by exact Yg) (by exact Yg) (by exact Yg) s15 hI hq
end
end
end Go.Proofs.YtmejfcakhpihlaaGreatDoor
