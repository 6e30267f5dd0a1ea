/- Walks of functions, plain laws; proves no statement. -/
import Derived.Test.YtmejfcakhpihlaaGreatDoorJh
set_option linter.unusedVariables false
set_option linter.unusedSimpArgs false
set_option maxHeartbeats 1500000
namespace Go.Proofs.YtmejfcakhpihlaaGreatDoor
noncomputable section
open Go.Am
set_option maxRecDepth 100000
def zQR:U3:=(oV (oR [oZ 3]) (oV (oR [oM 4 0,oF 1 5 1,oL 6 5,oB .neq 7 4 6,oM 3 7]) .ret))
theorem zI2(h h0:U2)(p u:Value)(c:List Value)(t ty:Int)(o:U6 h0 h p (u::I ty::c)):WC Tryz.prog tb 186 [I t,p] h fun r h'=>r=.bool (!decide (t=ty))/\h=h':=by
 refine en 8 [(3,none)] zQR ?_;refine rt ?_;exact⟨by simp[one],rfl⟩
theorem zPi{i:Nat}{h:U2}{v:Value}{l:List Int}(s:WM h v l)(hl:0<l.length)(hi:i<=l.length):∃ r,ZZ 1 v (some i) none none=some r/\WM h r (l.drop i):=by
 obtain⟨h1,⟨h2,_⟩|⟨g,off,row,rfl,h3,h4,h5⟩⟩:=s
 ·omega
 have hlen:(l.drop i).length=l.length-i:=List.length_drop ..;refine⟨.slice (some ⟨g,off+i,none⟩) (l.length-i) 1,?_,by simp,.inr ⟨g,off+i,row,by rw[hlen],h3,?_,h5⟩⟩
 ·have b1:Nat.ble i l.length=true:=QH hi;have b2:Nat.ble l.length l.length=true:=QH (QE _);simp only[ZZ,Gm,GC,b1,b2,Qz,Q1,cond_true,Ge,G4]
 ·obtain⟨c1,c2⟩:=zEV h4;rw[ZE (by rw[hlen];omega),List.map_drop,c2,List.drop_take,JE,hlen];congr 2;omega
section
variable {vt vf:Value}{T:List U5}{F:List WP}{f:Int}{ks:List Int}{ps:List (Int×Int)}{rs:List Int}{g:Nat}
def zRZ:U3:=(oV (oR [oX 4 1,oZ 6]) (oV (oV (oR [oF 0 7 4,oL 8 7]) (o5 0 (oV (oR [oD .eql 10 8 2,oM 9 10]) (oJ 9 (oV (oR [oM 11 0,oF 1 12 4,oL 13 12,⟨some 14,none,(.buildSlice 1 1 [(.int .i64 0)] [(0,1,(.tmp 13))])⟩,⟨some 15,none,(.call (.func 76) [(.tmp 11),(.const (.int .u8 2)),(.tmp 14)])⟩,oM 16 15,oH 16 (oM 17 0),oH 16 (oF 1 18 4),oH 16 (oL 19 18),⟨some 20,some (16,false),(.buildSlice 1 1 [(.int .i64 0)] [(0,1,(.tmp 19))])⟩,⟨some 21,some (16,false),(.call (.func 76) [(.tmp 17),(.const (.int .u8 3)),(.tmp 20)])⟩,oO 22 16 21,oM 6 22]) .ret) (oV (oR [oD .eql 24 8 3,oM 23 24]) (oJ 23 (oV (o6 [oF 1 25 4,oL 26 25,oM 27 0,(⟨some 28,none,(.nilCheck (.tmp 27))⟩,[]),oF 0 29 28,oF 1 30 29,oL 31 30,oF 4 32 4,oL 33 32,oI 2 34 31 33,oF 0 35 34,oL 36 35,oB .eql 37 26 36,oM 6 37]) .ret) (oV (oR [oD .eql 39 8 10,oM 38 39]) (oJ 38 (oV (o6 [oM 40 0,oM 41 2,(⟨some 42,none,(.call (.func 76) [(.tmp 40),(.const (.int .u8 2)),(.tmp 41)])⟩,[]),oM 43 42,oG 43 (oM 44 2),(⟨some 45,some (43,true),(.idx 1 (.tmp 44) (.const (.int .i64 0)))⟩,[]),oG 43 (oL 46 45),oG 43 (oM 47 2),(⟨some 48,some (43,true),(.idx 1 (.tmp 47) (.const (.int .i64 1)))⟩,[]),oG 43 (oL 49 48),oG 43 (oB .eql 50 46 49),oP 51 43 50,oM 52 51,oG 52 (oM 53 0),oG 52 (oF 1 54 4),oG 52 (oL 55 54),(⟨some 56,some (52,true),(.buildSlice 1 1 [(.int .i64 0)] [(0,1,(.tmp 55))])⟩,[]),(⟨some 57,some (52,true),(.call (.func 76) [(.tmp 53),(.const (.int .u8 1)),(.tmp 56)])⟩,[]),oP 58 52 57,oM 6 58]) .ret) (oV (oV (oR [oD .eql 60 8 11,oM 59 60]) (oJ 59 .skip (oR [oD .eql 61 8 12,oM 59 61]))) (oJ 59 (oV (oR [oM 62 0,oF 1 63 4,oL 64 63,⟨some 65,none,(.buildSlice 1 1 [(.int .i64 0)] [(0,1,(.tmp 64))])⟩,⟨some 66,none,(.call (.func 76) [(.tmp 62),(.const (.int .u8 2)),(.tmp 65)])⟩,oM 6 66]) .ret) (oV (oR [oD .eql 68 8 13,oM 67 68]) (oJ 67 (oV (oR [oM 69 0,oM 70 2,⟨some 71,none,(.call (.func 76) [(.tmp 69),(.const (.int .u8 2)),(.tmp 70)])⟩,oM 6 71]) .ret) (oV (oV (oR [oD .eql 73 8 14,oM 72 73]) (oJ 72 .skip (oV (oR [oD .eql 74 8 15,oM 72 74]) (oJ 72 .skip (oV (oR [oD .eql 75 8 16,oM 72 75]) (oJ 72 .skip (oR [oD .eql 76 8 17,oM 72 76]))))))) (oJ 72 (oV (oR [oM 77 0,oA 7 78 4,oM 79 2,o3 80 183 77 78 79,oM 6 80]) .ret) (oV (oR [oD .eql 82 8 18,oM 81 82]) (oJ 81 (oV (o6 [oM 83 0,oM 84 0,(⟨some 85,none,(.nilCheck (.tmp 84))⟩,[]),oF 0 86 85,oF 1 87 86,oL 88 87,oF 4 89 4,oL 90 89,oI 2 91 88 90,oF 0 92 91,oL 93 92,oM 94 2,oF 1 95 4,oL 96 95,o4 97 184 83 93 94 96,oM 6 97]) .ret) (oV (oR [oD .eql 99 8 19,oM 98 99]) (oJ 98 (oV (o6 [oM 100 0,oM 101 2,(⟨some 102,none,(.idx 1 (.tmp 101) (.const (.int .i64 0)))⟩,[]),oL 103 102,oM 104 2,(⟨some 105,none,(.slice 1 (.tmp 104) (some (.const (.int .i64 1))) none none)⟩,[]),oF 1 106 4,oL 107 106,o4 108 184 100 103 105 107,oM 6 108]) .ret) (oV (oR [oD .eql 110 8 22,oM 109 110]) (oJ 109 (oV (oR [oM 111 0,oF 1 112 4,oL 113 112,o2 114 185 111 113,oM 115 114,oG 115 (oM 116 2),⟨some 117,some (115,true),(.mkFunc (.func 186) [] [(.tmp 4)])⟩,oG 115 (o2 118 121 116 117),oG 115 (oW 119 118),oP 120 115 119,oM 6 120]) .ret) (oV (oR [oD .eql 122 8 21,oM 121 122]) (oJ 121 (oV (oR [oM 123 0,oM 124 2,⟨some 125,none,(.call (.func 76) [(.tmp 123),(.const (.int .u8 1)),(.tmp 124)])⟩,oM 6 125]) .ret) .skip)))))))))))))))))))))) (oV (oR [oM 126 0,oM 127 2,⟨some 128,none,(.call (.func 76) [(.tmp 126),(.const (.int .u8 1)),(.tmp 127)])⟩,oM 129 128,oG 129 (oM 130 0),oG 129 (oF 1 131 4),oG 129 (oL 132 131),⟨some 133,some (129,true),(.buildSlice 1 1 [(.int .i64 0)] [(0,1,(.tmp 132))])⟩,⟨some 134,some (129,true),(.call (.func 76) [(.tmp 130),(.const (.int .u8 1)),(.tmp 133)])⟩,oP 135 129 134,oM 6 135]) .ret)))
theorem zMu(h:U2)(x:Wg)(cs:List Value)(v:Value)(l:List Int)(M:W6 h g vt vf T F f ks ps rs)(hc:yq T=0)(hR:BM h cs x)(s:WM h v l)(hl:l.length<=1000)(hin:∀ t∈l,BI T t)(hty:BI T x.ty)
  (hF:∀ f∈F,BI T f.sig) (hn:x.op=14->0<=x.n) (hn2:x.op=3\/x.op=18->0<=x.n/\x.n<(F.length:Int)) (h1:(x.op=14\/x.op=15\/x.op=16\/x.op=17\/x.op=19)->1<=l.length) (h2:x.op=15\/x.op=17\/x.op=10->2<=l.length):
  WC Tryz.prog tb 127 [.pointer (some ⟨g,0,none⟩),.agg cs.toArray,v] h fun r h'=>r=.bool (zAs T F x l)/\U8 h h':=by
 obtain⟨xa,xf,rfl,sxa,sxf,hla,hlf,ho⟩:=id hR;obtain⟨a1,a2,a3,rfl⟩:=Wb.shape sxa;obtain⟨f1,f2,f3,rfl⟩:=Wb.shape sxf;obtain⟨b1,b2,b3,rfl⟩:=Wb.shape s;have hiny:∀ y∈[x.ty],BI T y:=fun y hy=>by rw[QW.1 hy];exact hty
 refine en 136 [(6,none)] zRZ ?_;refine VH ?_;intro p h3 e3 o3;have M3:=M.ext e3;have s3:=s.ext e3;have ea:=za 0 h3;have sX:=Va (s3.ext ea);have oX:=Vk (o3.ext ea);unfold zAs;by_cases c2:x.op=2
 ·rw[QI c2];refine go ?_;refine WO.bl [x.ty] ?_;intro v4 h4 e4 o4;have M4:=M3.ext e4;have o34:=o3.ext e4;refine go ?_;refine VA (yt h4 2 v4 [x.ty] M4 o4.sl (by simp) hiny) ?_;rintro _ h5 ⟨rfl,e5⟩;rw[ZC];have e35:=e3.trans (e4.trans e5);cases k2:Ws T 2 x.ty with
  |true=>
   refine gr ?_;exact⟨rfl,e35⟩
  |false=>
   have M5:=M4.ext e5;have o35:=o34.ext e5;refine go ?_;refine WO.bl [x.ty] ?_;intro v6 h6 e6 o6;have M6:=M5.ext e6;refine go ?_;refine VA (yt h6 3 v6 [x.ty] M6 o6.sl (by simp) hiny) ?_;rintro _ h7 ⟨rfl,e7⟩;rw[ZC];refine gr ?_;exact⟨rfl,e35.trans (e6.trans e7)⟩
 rw[QC c2];refine go ?_;by_cases c3:x.op=3
 ·rw[QI c3];refine go ?_;obtain⟨⟨hB,vk,vp,vr,o,a,b,c⟩,st,sf,hm⟩:=M3;obtain⟨n0,n1⟩:=hn2 (.inl c3);obtain⟨cs,⟨vb,rfl,sb,hlb⟩,pc,hsl⟩:=yA (i:=x.n.toNat) sf (by omega);have pc1:=(pc h3 (U8.refl _)).1;refine gr ?_;exact⟨rfl,e3⟩
 rw[QC c3];refine go ?_;by_cases c10:x.op=10
 ·rw[QI c10];have hl2:=h2 (.inr (.inr c10));refine go ?_;refine VC 1 rfl rfl ?_;have ea1:=za 1 h3;have sX1:=Va (s3.ext ea1);refine WT ?_;refine VA (yt _ 2 _ l (M3.aside 1) sX1 hl hin) ?_;rintro _ X4 ⟨rfl,e4⟩;refine nE e4 ?_;have hlt:h3.n<X4.n:=e4.n;have e4':=ea1.trans (yr (h:=h3) e4);have o4:=Vt (o3.ext e4');have s4:=Vp (s3.ext e4');cases k2:isL T 2 l with
  |false=>
   refine WT ?_;refine WU.no ?_;refine gUr ?_;exact⟨rfl,e3.trans e4'⟩
  |true=>
   cases k3:decide (l.getD 0 0=l.getD 1 0)with
   |false=>
    refine WT ?_;rw[k3];refine WU.no ?_;refine gUr ?_;exact⟨rfl,e3.trans e4'⟩
   |true=>
   refine WT ?_;rw[k3];refine Vg [x.ty] M3.hm ?_;intro X5 n5 g5;have e5':=zDw e4' n5 g5 (QE _) hlt;have sv5:=zCP (xs:=[x.ty]) (by rw[g5,QI rfl]) (by omega:h3.n<X5.n);refine WT ?_;refine VA (yt _ 1 _ [x.ty] (VO (M3.ext e5')) sv5 (by simp) hiny) ?_;rintro _ X6 ⟨rfl,e6⟩;rw[ZC];have e6':=e5'.trans (yr (h:=h3) e6);refine WO.nil ?_;refine zB9 e6 ?_;refine gUr ?_;exact⟨rfl,e3.trans e6'⟩
 rw[QC c10];by_cases c11:x.op=11\/x.op=12
 ·rw[QI c11];have fin:∀ (w:Value) (h4:U2) (e4:U8 h3 h4),We h3 h4 w [x.ty]->WC Tryz.prog tb 76 [.pointer (some ⟨g,0,none⟩),.int .u8 2,w] h4 fun r h'=>r=.bool (Ws T 2 x.ty)/\U8 h h':=fun w h4 e4 o4=>WC.mono (yt h4 2 w [x.ty] (M3.ext e4) o4.sl (by simp) hiny) fun r h5 ⟨hr,e5⟩=>⟨by rw[hr,ZC],e3.trans (e4.trans e5)⟩;rcases c11 with c11|c12
  ·refine go ?_;refine WO.bl [x.ty] ?_;intro v4 h4 e4 o4;refine go ?_;refine VA (fin v4 h4 e4 o4) ?_;rintro _ h5 ⟨rfl,e5⟩;refine gr ?_;exact⟨rfl,e5⟩
  ·have c11:¬x.op=11:=by omega
   refine go ?_;refine WO.bl [x.ty] ?_;intro v4 h4 e4 o4;refine go ?_;refine VA (fin v4 h4 e4 o4) ?_;rintro _ h5 ⟨rfl,e5⟩;refine gr ?_;exact⟨rfl,e5⟩
 rw[QC c11];obtain⟨c11,c12⟩:¬x.op=11/\¬x.op=12:=by omega
 refine go ?_;by_cases c13:x.op=13
 ·rw[QI c13];refine go ?_;refine VA (yt h3 2 _ l M3 s3 hl hin) ?_;rintro _ h5 ⟨rfl,e5⟩;refine gr ?_;exact⟨rfl,e3.trans e5⟩
 rw[QC c13];refine go ?_;by_cases c14:x.op=14\/x.op=15\/x.op=16\/x.op=17
 ·rw[QI c14];have fin:=zJV h3 x _ _ l M3 hc (hR.ext e3) s3 hl hin hty c14 hn (h1 (by omega)) (fun c=>h2 (by omega));have fin:=WC.mono (Q':=fun r h'=>r=.bool (zGc T x l)/\U8 h h') fin fun r h' ⟨hr,e⟩=>⟨hr,e3.trans e⟩;rcases c14 with c14|c15|c16|c17
  ·refine go ?_;refine VA fin ?_;rintro _ h5 ⟨rfl,e5⟩;refine gr ?_;exact⟨rfl,e5⟩
  ·have k14:¬x.op=14:=by omega
   refine go ?_;refine VA fin ?_;rintro _ h5 ⟨rfl,e5⟩;refine gr ?_;exact⟨rfl,e5⟩
  ·have k14:¬x.op=14:=by omega
   have k15:¬x.op=15:=by omega
   refine go ?_;refine VA fin ?_;rintro _ h5 ⟨rfl,e5⟩;refine gr ?_;exact⟨rfl,e5⟩
  ·have k14:¬x.op=14:=by omega
   have k15:¬x.op=15:=by omega
   have k16:¬x.op=16:=by omega
   refine go ?_;refine VA fin ?_;rintro _ h5 ⟨rfl,e5⟩;refine gr ?_;exact⟨rfl,e5⟩
 rw[QC c14];obtain⟨c14,c15,c16,c17⟩:¬x.op=14/\¬x.op=15/\¬x.op=16/\¬x.op=17:=by omega
 refine go ?_;by_cases c18:x.op=18
 ·rw[QI c18];refine go ?_;refine VC 0 rfl rfl ?_;obtain⟨⟨hB,vk,vp,vr,o,a,b,c⟩,st,sf,hm⟩:=M3.aside 0;obtain⟨n0,n1⟩:=hn2 (.inr c18);obtain⟨cs,⟨vb,rfl,sb,hlb⟩,pc,hsl⟩:=yA (i:=x.n.toNat) sf (by omega);have pc1:=(pc _ (U8.refl _)).1;refine WT ?_;refine VA (zGP _ (F.getD x.n.toNat default).sig x.ty _ l (M3.aside 0) ((by refine hF _ ?_;rw[QK,QB (show x.n.toNat<F.length by omega)];exact List.getElem_mem _)) sX hl) ?_;rintro _ X4 ⟨rfl,e4⟩;refine nE e4 ?_;have e4':=ea.trans (yr (h:=h3) e4);refine gUr ?_;exact⟨rfl,e3.trans e4'⟩
 rw[QC c18];refine go ?_;by_cases c19:x.op=19
 ·rw[QI c19];have hl1:=h1 (by omega);refine go ?_;refine VC 0 rfl rfl ?_;obtain⟨r,hsl,sr⟩:=zPi (i:=1) sX (by omega) hl1;refine WT ?_;refine Vj (i:=1) (hy:=rfl) hsl ?_;refine WT ?_;refine VA (zGP _ (l.getD 0 0) x.ty _ (l.drop 1) (M3.aside 0) (zJk hin (by omega)) sr (by simp;omega)) ?_;rintro _ X4 ⟨rfl,e4⟩;refine nE e4 ?_;have e4':=ea.trans (yr (h:=h3) e4);refine gUr ?_;exact⟨rfl,e3.trans e4'⟩
 rw[QC c19];refine go ?_;by_cases c22:x.op=22
 ·rw[QI c22];refine go ?_;refine VA (zCE h3 x.ty M3 hty) ?_;rintro _ h4 ⟨rfl,e4⟩;have e04:=e3.trans e4;cases k1:zCx T x.ty with
  |false=>
   refine gr ?_;exact⟨rfl,e04⟩
  |true=>
   have s4:=s3.ext e4;have o4:=o3.ext e4;refine go ?_;refine VA (zAe h4 _ _ l (fun t=> !decide (t=x.ty)) s4 (by omega) ?_) ?_
   ·intro t ht h5 e5;exact WV.func (WC.mono (zI2 h5 _ p _ _ t x.ty (o4.ext e5)) fun r h6 ⟨hr,he⟩=>⟨hr,he▸U8.refl _⟩)
   rintro _ h5 ⟨rfl,e5⟩;refine gr ?_;refine⟨?_,e04.trans e5⟩;show Value.bool _=_;rw[List.not_any_eq_all_not];simp
 rw[QC c22];refine go ?_;by_cases c21:x.op=21
 ·rw[QI c21];refine go ?_;refine VA (yt h3 1 _ l M3 s3 hl hin) ?_;rintro _ h5 ⟨rfl,e5⟩;refine gr ?_;exact⟨rfl,e3.trans e5⟩
 rw[QC c21];refine go ?_;refine VA (yt h3 1 _ l M3 s3 hl hin) ?_;rintro _ h5 ⟨rfl,e5⟩;have e05:=e3.trans e5;cases k1:isL T 1 l with
 |false=>
  refine gr ?_;exact⟨rfl,e05⟩
 |true=>
  have M5:=M3.ext e5;have o5:=o3.ext e5;refine go ?_;refine WO.bl [x.ty] ?_;intro v6 h6 e6 o6;refine go ?_;refine VA (yt h6 1 v6 [x.ty] (M5.ext e6) o6.sl (by simp) hiny) ?_;rintro _ h7 ⟨rfl,e7⟩;rw[ZC];refine gr ?_;exact⟨rfl,e05.trans (e6.trans e7)⟩
end
set_option maxRecDepth 100000
theorem zTa{xs:List Int}{n:Nat}{c:Int}(h0:0<=c)(h1:c<(n:Int)):(YM xs n).getD c.toNat 0=upL xs c:=by
 unfold YM;rw[QK,GU,List.getElem?_range (by omega)];show upL xs ((c.toNat:Nat):Int)=_;rw[show((c.toNat:Nat):Int)=c by omega]
section
variable {vt vf:Value}{T:List U5}{F:List WP}{f:Int}{ks:List Int}{ps:List (Int×Int)}{xs:List Int}{n:Nat}{g:Nat}{nx:Int->List Int}
def zLY:U3:=(oV (oV (oR [oM 7 2,oM 8 1,oB .neq 9 7 8,oM 10 9,oG 10 (oM 11 2),oG 10 (oC .neq 12 11 (-1)),oP 13 10 12]) (oT 13 0)) (o5 1 (oR [oM 14 0,⟨some 15,none,(.nilCheck (.tmp 14))⟩,oF 5 16 15,oL 17 16,oM 18 2,oI 1 19 17 18,oL 20 19,oM 2 20])))
def zRi:U3:=(oV (oR [oZ 6]) (oV (o5 0 (.loop zLY)) (oV (oR [oM 21 1,oM 22 2,oB .eql 23 21 22,oM 6 23]) .ret)))
theorem zM6(h:U2)(a b:Int)(M:W6 h g vt vf T F f ks ps (YM xs n))(r:Rul nx xs)(w:Wk nx 0 b)(hb:0<=b/\b<16)(hin:∀ c,Wk nx 0 c->0<=c/\c<(n:Int))(ha:0<=a):
  WC Tryz.prog tb 189 [.pointer (some ⟨g,0,none⟩),I a,I b] h fun q h'=>(∃ bb,q=.bool bb/\(bb=true↔BA nx a b))/\h=h':=by
 obtain⟨⟨hB,vk,vp,vr,o,ka,kb,kc⟩,st,sf,hm⟩:=M;have hin:=Wa.mk hin;refine en 24 [(6,none)] zRi ?_;refine VD [7,8,9,10,11,12,13,14,15,16,17,18,19,20,2] (by kernel_rfl) (fun i=>16-i) (fun i t h1=>h=h1/\∃ c,zB t 2=I c/\Wa (Chn nx a b i c false)) 0 ?_ ?_
 ·exact⟨rfl,b,WA,⟨.inr ⟨w,hb,by have:=zSb nx b;omega,by simp⟩⟩⟩
 rintro i t _ hsame ⟨rfl,c,s2,hC⟩;by_cases hca:c=a
 ·subst hca;have hd:BA nx c b:=by
   rcases hC.out with⟨h1,_⟩|⟨_,_,_,h2⟩
   ·omega
   ·exact h2.2 (.inr (BA.self nx c))
  refine gr ?_;exact⟨⟨true,by simp[one],by simp[hd]⟩,rfl⟩
 by_cases hc1:c= -1
 ·have hd:¬BA nx a b:=by
   rcases hC.out with⟨_,h2⟩|⟨_,h1,_⟩
   ·rw[h2];simp
   ·omega
  have hac:(a == c)=false:=by simp;exact fun e=>hca e.symm
  refine gr ?_;exact⟨⟨false,by simp[one];exact fun e=>hca e.symm,by simp[hd]⟩,rfl⟩
 have hc0:0<=c:=by
  rcases hC.out with⟨h1,_⟩|⟨_,h1,_⟩
  ·exact absurd h1 hc1
  ·exact h1.1
 obtain⟨wc,hc16,hi15⟩:=hC.out.way hc0;have hcn:=hin.out c wc;have hul:=zLq xs n;have hat:=zTa (xs:=xs) hcn.1 hcn.2;have hnext:Chn nx a b (i+1) (upL xs c) false:=by
  by_cases hz:c=0
  ·subst hz;have:=hC.out.last;rw[show(false||decide ((0:Int)=a))=false by simp;exact fun e=>hca e]at this;unfold upL;rw[QI rfl];exact this
  ·have:=(hC.out.next r (show 0<c by omega)).1;rw[show(false||decide (c=a))=false by simp;exact hca]at this;unfold upL;rw[QC hz];exact this
 refine go ?_;exact zA (i+1) (by omega) ⟨rfl,upL xs c,by rw[<-hat];exact WA,⟨hnext⟩⟩
def zFH(nx:Int->List Int)(p:Int×Int)(block at':Int):Prop:=if p.1=block then p.2<at' else p.1= -1\/BA nx p.1 block
def zQi:U3:=(oV (oR [oZ 5]) (oV (oR [oL 7 1,⟨some 8,none,(.nilCheck (.tmp 7))⟩,oF 4 9 8,oL 10 9,oM 11 0,oI 2 12 10 11,oA 2 13 12,⟨some 6,none,(.alloc [(.int .i64 0),(.int .i64 0)])⟩,oS 2 6 13]) (oV (oV (oR [⟨some 14,none,(.idxArr 2 1 (.tmp 6) (.const (.int .i64 0)))⟩,oL 15 14,oL 16 2,oB .eql 17 15 16]) (oJ 17 (oV (oR [⟨some 18,none,(.idxArr 2 1 (.tmp 6) (.const (.int .i64 1)))⟩,oL 19 18,oL 20 3,oB .geq 21 19 20,oM 5 21]) .ret) .skip)) (oV (oR [⟨some 22,none,(.idxArr 2 1 (.tmp 6) (.const (.int .i64 0)))⟩,oL 23 22,oC .neq 24 23 (-1),oM 25 24,oG 25 (oL 26 1),⟨some 27,some (25,true),(.idxArr 2 1 (.tmp 6) (.const (.int .i64 0)))⟩,oG 25 (oL 28 27),oG 25 (oL 29 2),oG 25 (o3 30 189 26 28 29),oG 25 (oW 31 30),oP 32 25 31,oM 5 32]) .ret))))
theorem zNc(h h1 h2 h3:U2)(p1 p2 p3:Value)(x block at':Int)(M:W6 h g vt vf T F f ks ps (YM xs n))(r:Rul nx xs)(w:Wk nx 0 block)(hb:0<=block/\block<16)(hin:∀ c,Wk nx 0 c->0<=c/\c<(n:Int))
  (o1:U6 h1 h p1 [.pointer (some ⟨g,0,none⟩)]) (o2:U6 h2 h p2 [I block]) (o3:U6 h3 h p3 [I at']) (hx:0<=x/\x<(ps.length:Int)) (hp:(ps.getD x.toNat default).1= -1\/0<=(ps.getD x.toNat default).1):
  WC Tryz.prog tb 188 [I x,p1,p2,p3] h fun q h'=>(∃ bb,q=.bool bb/\(bb=true↔¬zFH nx (ps.getD x.toNat default) block at'))/\U8 h h':=by
 obtain⟨⟨hB,vk,vp,vr,o,ka,kb,kc⟩,st,sf,hm⟩:=id M;obtain⟨cs,rfl,pc,hs⟩:=yA (i:=x.toNat) kb (by omega);have pc1:=(pc h (U8.refl _)).1;obtain⟨_,_,_,rfl⟩:=zF kb;generalize hq:ps.getD x.toNat default=q at *;obtain⟨q1,q2⟩:=q;unfold zFH;refine en 33 [(5,none)] zQi ?_;refine WO.al ?_;intro p4 h4 e4 o4;refine go ?_;refine VG (cs:=[I q1,I q2]) o4 e4 ?_;intro h5 e5 o5 u5;have o1:=o1.ext e5;have o2:=o2.ext e5;have o3:=o3.ext e5;have M5:=M.ext e5;by_cases c1:q1=block
 ·subst c1;refine gr ?_;refine⟨⟨_,rfl,?_⟩,e5⟩;simp
 ·have hc1:(q1 == block)=false:=by simp;exact c1
  by_cases c2:q1= -1
  ·refine gr ?_;exact⟨⟨_,rfl,by rw[QC c1];simp[c2]⟩,e5⟩
  ·refine go ?_;refine VA (zM6 h5 q1 block M5 r w hb hin (by rcases hp with h|h;exact absurd h c2;exact h)) ?_;rintro _ _ ⟨⟨bb,rfl,hbb⟩,rfl⟩;refine gr ?_;refine⟨⟨!bb,rfl,?_⟩,e5⟩;rw[QC c1];cases bb
   ·simp at hbb;simp[hbb,c2]
   ·simp at hbb;simp[hbb]
def zQ3:U3:=(oV (oR [oX 4 0,oX 5 1,oX 6 2,oZ 8]) (oV (oR [oM 9 3,⟨some 10,none,(.mkFunc (.func 188) [] [(.tmp 4),(.tmp 5),(.tmp 6)])⟩,o2 11 121 9 10,oW 12 11,oM 8 12]) .ret))
theorem zGy(h:U2)(v:Value)(l:List Int)(block at':Int)(M:W6 h g vt vf T F f ks ps (YM xs n))(r:Rul nx xs)(w:Wk nx 0 block)(hb:0<=block/\block<16)(hin:∀ c,Wk nx 0 c->0<=c/\c<(n:Int))
  (s:WM h v l) (hl:l.length<=1000) (hx:∀ x∈l,0<=x/\x<(ps.length:Int)) (hp:∀ i,i<ps.length->(ps.getD i default).1= -1\/0<=(ps.getD i default).1):
  WC Tryz.prog tb 129 [.pointer (some ⟨g,0,none⟩),I block,I at',v] h fun q h'=>(∃ bb,q=.bool bb/\(bb=true↔∀ x∈l,zFH nx (ps.getD x.toNat default) block at'))/\U8 h h':=by
 refine en 13 [(8,none)] zQ3 ?_;refine VH ?_;intro p1 h1 e1 o1;refine go ?_;refine VH ?_;intro p2 h2 e2 o2;refine go ?_;refine VH ?_;intro p3 h3 e3 o3;have e03:=e1.trans (e2.trans e3);have o1:=o1.ext (e2.trans e3);have o2:=o2.ext e3;have M3:=M.ext e03;have s3:=s.ext e03;refine go ?_;refine VA (zAe h3 v _ l (fun x=>open Classical in decide (¬zFH nx (ps.getD x.toNat default) block at')) s3 (by omega) ?_) ?_
 ·intro x hxl h4 e4;refine WV.func (WC.mono (zNc h4 h h1 h2 p1 p2 p3 x block at' (M3.ext e4) r w hb hin (o1.ext e4) (o2.ext e4) (o3.ext e4) (hx x hxl) (hp _ (by have:=hx x hxl;omega))) ?_);rintro _ h5 ⟨⟨bb,rfl,hbb⟩,e5⟩;refine⟨?_,e5⟩;congr 1;cases bb<;>simp_all
 rintro _ h4 ⟨rfl,e4⟩;refine gr ?_;refine⟨⟨_,rfl,?_⟩,e03.trans e4⟩;simp
end
set_option maxRecDepth 100000
structure Gr(F:List WP)(f:Int)(nx:Int->List Int)(xs:List Int)(ps:List (Int×Int))(L:List WW):Prop where
 hf:0<=f/\f<(F.length:Int)
 hL:(F.getD f.toNat default).blocks=L
 n:L.length<=16
 r:Rul nx xs
 way:∀ c,0<=c->c<(L.length:Int)->Wk nx 0 c
 inn:∀ c,Wk nx 0 c->0<=c/\c<(L.length:Int)
 pl:∀ i,i<ps.length->(ps.getD i default).1= -1\/0<=(ps.getD i default).1
def zVr(nx:Int->List Int)(ps:List (Int×Int))(L:List WW)(frm args:List Int):Prop:=∀ i,i<frm.length->zFH nx (ps.getD (args.getD i 0).toNat default) (frm.getD i 0) ((L.getD (frm.getD i 0).toNat default).ins.length)
section
variable {vt vf:Value}{T:List U5}{F:List WP}{f:Int}{ks:List Int}{ps:List (Int×Int)}{xs:List Int}{g:Nat}{nx:Int->List Int}{L:List WW}
def zMY:U3:=(oV (oR [oB .lss 18 17 16]) (oV (oT 18 0) (oV (o5 1 (oV (oR [oM 19 17,oI 1 20 15 17,oL 21 20,oM 7 19,oM 8 21]) (oV (o6 [oM 22 0,oM 23 8,oM 24 0,(⟨some 25,none,(.nilCheck (.tmp 24))⟩,[]),oF 0 26 25,oF 1 27 26,oL 28 27,oM 29 0,(⟨some 30,none,(.nilCheck (.tmp 29))⟩,[]),oF 2 31 30,oL 32 31,oI 2 33 28 32,oF 1 34 33,oL 35 34,oM 36 8,oI 5 37 35 36,oF 0 38 37,oL 39 38,oQ 40 39,oF 5 41 4,oL 42 41,oM 43 7,oI 1 44 42 43,oL 45 44,(⟨some 46,none,(.buildSlice 1 1 [(.int .i64 0)] [(0,1,(.tmp 45))])⟩,[]),o4 47 129 22 23 40 46,oW 48 47]) (oJ 48 (oV (oR [oZ 6]) .ret) .skip)))) (oR [oC .add 49 17 1,oM 17 49]))))
def zQV:U3:=(oV (oR [oX 4 1,oZ 6]) (oV (oV (oR [oF 6 9 4,oL 10 9,oM 11 2,o2 12 187 10 11,oW 13 12]) (oJ 13 (oV (oR [oZ 6]) .ret) .skip)) (oV (oV (oR [oF 6 14 4,oL 15 14,oQ 16 15,oN 17 0]) (o5 0 (.loop zMY))) (oV (oR [oK 6 (.bool true)]) .ret))))
theorem zQy(h:U2)(x:Wg)(cs:List Value)(v:Value)(l:List Int)(M:W6 h g vt vf T F f ks ps (YM xs L.length))(G:Gr F f nx xs ps L)(hR:BM h cs x)(s:WM h v l)
  (hfr:∀ i,i<x.frm.length->0<=x.frm.getD i 0/\x.frm.getD i 0<(L.length:Int)) (hlen:x.frm.length<=x.args.length) (hx:∀ i,i<x.args.length->0<=x.args.getD i 0/\x.args.getD i 0<(ps.length:Int)):
  WC Tryz.prog tb 128 [.pointer (some ⟨g,0,none⟩),.agg cs.toArray,v] h fun q h'=>(∃ bb,q=.bool bb/\(bb=true↔x.frm=l/\zVr nx ps L x.frm x.args))/\U8 h h':=by
 have hfr:=Wa.mk hfr;have hx:=Wa.mk hx;obtain⟨xa,xf,rfl,sxa,sxf,hla,hlf,ho⟩:=id hR;obtain⟨a1,a2,a3,rfl⟩:=Wb.shape sxa;obtain⟨f1,f2,f3,rfl⟩:=Wb.shape sxf;refine en 50 [(6,none)] zQV ?_;refine VH ?_;intro p h3 e3 o3;have sf3:=sxf.ext e3;have s3:=s.ext e3;refine go ?_;refine VA (zF6 h3 _ _ x.frm l sf3 s3 (by omega)) ?_;rintro _ _ ⟨rfl,rfl⟩;by_cases hfl:x.frm=l;case neg=>
  rw[Qb hfl];refine gr ?_;exact⟨⟨false,rfl,by simp[hfl]⟩,e3⟩
 rw[Qe hfl];refine go ?_;refine VD [18,19,20,21,7,8,22,23,24,25,26,27,28,29,30,31,32,33,34,35,36,37,38,39,40,41,42,43,44,45,46,47,48,6,49,17] (by kernel_rfl) (fun i=>x.frm.length-i) (fun i t h1=>U8 h3 h1/\zB t 17=I i/\i<=x.frm.length/\Wa (∀ j,j<i->zFH nx (ps.getD (x.args.getD j 0).toNat default) (x.frm.getD j 0) ((L.getD (x.frm.getD j 0).toNat default).ins.length))) 0 ?_ ?_
 ·exact⟨U8.refl _,WA,QT _,⟨fun j hj=>absurd hj (GR _)⟩⟩
 rintro i t h4 hsame ⟨e4,s17,hi,hI⟩;have e34:=e3.trans e4;have sf4:=sf3.ext e4;have o4:=o3.ext e4;refine go ?_;refine VE (fun hb=> ?_) (fun hb=> ?_)<;>simp only[DB]at hb
 ·have hif:i<x.frm.length:=by omega
  have hia:i<x.args.length:=by omega
  have hfr1:=hfr.out i hif;have hx1:=hx.out i hia;have hG:=G.hf;have hGL:=G.hL;have M4:=M.ext e34;refine go ?_;refine VC 1 rfl rfl ?_;have ea:=za 1 h4;have sa4:=Va (sxa.ext (e34.trans ea));have o4':=Vk (o4.ext ea);obtain⟨⟨hB,vk,vp,vr,o,a,b,c⟩,st,sf,hm⟩:=M4.aside 1;obtain⟨cs,⟨vb,rfl,sb,hlb⟩,pc,hsl⟩:=yA (i:=f.toNat) sf (by omega);have pc1:=(pc _ (U8.refl _)).1;rw[hGL]at sb;obtain⟨cs2,⟨vi,rfl,si,hli⟩,pc',hsl'⟩:=yA (i:=(x.frm.getD i 0).toNat) sb (by omega);have pc2:=(pc' _ (U8.refl _)).1;refine WT ?_;refine Vg [x.args.getD i 0] M4.hm ?_;intro X5 n5 g5;have n5':X5.n=h4.n+1:=n5;have e5:U8 h4 (yu h4 X5):=zDw (X:=zC 1 h4) ea n5 g5 (QE _) (Q7 _);have sv5:=zCP (xs:=[x.args.getD i 0]) (by rw[g5,QI rfl]) (by omega:h4.n<X5.n);have M5:=VO (M4.ext e5);clear o st sf hm c b a;refine WT ?_;refine VA (zGy _ _ [x.args.getD i 0] (x.frm.getD i 0) ((L.getD (x.frm.getD i 0).toNat default).ins.length) M5 G.r (G.way _ hfr1.1 hfr1.2) (by have:=G.n;omega) G.inn sv5 (by simp) (fun y hy=>by rw[QW.1 hy];exact hx1) G.pl) ?_;rintro _ X6 ⟨⟨bb,rfl,hbb⟩,e6⟩;simp only[QW,forall_eq]at hbb;have e6':=e5.trans (yr (h:=h4) e6);refine WO.nil ?_;refine zB9 e6 ?_;refine WT ?_;cases bb with
  |false=>
   refine gr ?_;refine⟨⟨false,rfl,?_⟩,e34.trans e6'⟩;simp only[Qn,JF,not_and];intro _ hall;exact absurd (hbb.2 (hall i hif)) Bool.noConfusion
  |true=>
   refine go ?_;refine zA (i+1) (by omega) ⟨e4.trans e6',Wx,by omega,⟨fun j hj=> ?_⟩⟩;by_cases e:j=i
   ·subst e;exact hbb.1 rfl
   ·exact hI.out j (by omega)
 ·have hii:i=x.frm.length:=by omega
  subst hii;refine gr ?_;exact⟨⟨true,rfl,by simp only[true_iff];exact⟨hfl,hI.out⟩⟩,e34⟩
end
theorem VQ{P:Program}{tab:Wi}{l:List U4}{t:U7 Value}{ds:List Deferred}{rd:Option Nat}{h:U2}{Q:WF->U2->Prop}{d:Nat}{ty:TypeId}{x:Operand}{v:Value}(k:WO P tab l ⟨t.set d (.iface ty v),ds,rd⟩ h Q)(hx:WI t x v:=by exact zM):WO P tab (⟨some d,none,.mkIface ty x⟩::l) ⟨t,ds,rd⟩ h Q:=
 WO.op _ _ rfl (by unfold WI at *;simp only[WE,hx]) k
theorem Za{P:Program}{tab:Wi}{m N0 g:Nat}{o:U4}{un:List Nat}{l:List (U4×List Nat)}{fr:WF}{h:U2}{Q:WF->U2->Prop}{t:U7 Value}(hr:zZ t o=none)(hx:WU P tab m N0 l g true fr (inC h) Q):uK2 P tab m N0 un t o (inC h) l g true Q fr (inC h):=
 zIF (fun g hg=>by rw[hr]at hg;cases hg) hx
structure InsT(T:List U5)(F:List WP)(x:Wg):Prop where
 ty:BI T x.ty
 n14:x.op=14->0<=x.n
 n2:x.op=3\/x.op=18->0<=x.n/\x.n<(F.length:Int)
 l1:x.op=14\/x.op=15\/x.op=16\/x.op=17\/x.op=19->1<=(zi x).length
 l2:x.op=15\/x.op=17\/x.op=10->2<=(zi x).length
theorem zFf{x:Wg}{N n:Int}(u:InsU x N n):(zi x).length<=30:=by
 have:=u.args;unfold zi;simp only[QM];have h1:(if(zW x.op).1 then[x.a]else[]).length<=1:=by split<;>simp
 have h2:(if(zW x.op).2.1 then[x.b]else[]).length<=1:=by split<;>simp
 have h3:(if(zW x.op).2.2.2.1 then x.args else[]).length<=20:=by
  split
  ·exact this
  ·exact QT _
 omega
theorem zTh{T:List U5}{F:List WP}{f:WP}{x:Wg}(hT:0<T.length)(h:zCb x (szL T F.length f)=true):InsT T F x:=by
 have ho:=zOt h;have m:=(zEw (by omega)).1 h;have ha:=zDp (op:=x.op) (by omega);have hty:=m.ans;have hn:=m.num;refine⟨?_,fun e=> ?_,fun e=> ?_,fun e=> ?_,fun e=> ?_⟩
 ·split at hty
  ·exact .inr hty
  ·exact .inr ⟨by omega,by omega⟩
 ·unfold zLm at hn;rw[QC (by omega),QC (by omega),QI e]at hn;exact hn.1
 ·unfold zLm at hn;rw[QC (by omega),QI e]at hn;exact hn
 ·have h1:(zW x.op).1=true:=ha.2.1.2 (by unfold zIV zJs;omega);unfold zi;rw[h1];simp
 ·have h1:(zW x.op).1=true:=ha.2.1.2 (by unfold zIV zJs;omega);have h2:(zW x.op).2.1=true:=ha.1.2 (by unfold zJs;omega);unfold zi;rw[h1,h2];simp
def Zh(ks rs:List Int):List Int:=rs.map fun r=>ks.getD r.toNat 0
def zEh(T:List U5)(F:List WP)(ks:List Int)(ps:List (Int×Int))(nx:Int->List Int)(L:List WW)(P:List Int)(b:Int)(i:Nat)(pre:Prop)(x:Wg):Prop:=
 ¬(-1:Int)∈Zh ks (zi x)/\zAs T F x (Zh ks (zi x))=true/\(x.op=22->pre/\x.frm=P/\zVr nx ps L x.frm x.args)/\(x.op≠22->∀ r∈zi x,zFH nx (ps.getD r.toNat default) b i)
def YI(T:List U5)(F:List WP)(ks:List Int)(ps:List (Int×Int))(nx:Int->List Int)(L:List WW)(P:List Int)(b:Int)(i:Nat):Prop:=
 zEh T F ks ps nx L P b i (∀ j,j<i->((L.getD b.toNat default).ins.getD j default).op=22) ((L.getD b.toNat default).ins.getD i default)
def zGl(T:List U5)(F:List WP)(f:Int)(ks:List Int)(ps:List (Int×Int))(nx:Int->List Int)(b:Int)(B:WW):Prop:=
 (¬(-1:Int)∈Zh ks (yj B.fin)/\∀ r∈yj B.fin,zFH nx (ps.getD r.toNat default) b B.ins.length)/\(B.fin.kind=2->isL T 1 (Zh ks (yj B.fin))=true)/\(B.fin.kind=1\/B.fin.kind=2->B.fin.to≠0/\(B.fin.kind=1\/B.fin.els≠0))/\(B.fin.kind=3->(Zh ks (yj B.fin)).getD 0 0=(T.getD (F.getD f.toNat default).sig.toNat default).elem)
def Ym(T:List U5)(F:List WP)(f:Int)(ks:List Int)(ps:List (Int×Int))(nx:Int->List Int)(L:List WW)(b:Int):Prop:=zGl T F f ks ps nx b (L.getD b.toNat default)
def tyF:Nat:=130
def Bt(f b:Int):Value:= .iface tyF (.agg #[I f,I b,I 120])
section
variable {vt vf:Value}{T:List U5}{F:List WP}{f:Int}{ks:List Int}{ps:List (Int×Int)}{xs:List Int}{g:Nat}{nx:Int->List Int}{L:List WW}
theorem Ud{X:U2}{v:Value}{l:List Wg}(o:BW X v l):BW (inC X) v l:=o
theorem zNq{h:U2}{vi:Value}{B:WW}{i:Nat}(s:BW h vi B.ins)(hi:i<B.ins.length):∃ cs,BM h cs (B.ins.getD i default)/\(∀ h',U8 h h'->Wt h' vi (i*7) cs/\Wt (inC h') vi (i*7) cs)/\zOy vi:=yA s hi
def zPA:Nat->U3->U3
 |n+1,.seq _ b=>zPA n b
 |_,c=>c
def zNy:U3:=(oV (oR [oB .lss 54 53 52]) (oV (oT 54 0) (oV (o5 1 (oV (oR [oM 55 53,oI 7 56 51 53,oA 7 57 56,⟨some 11,none,(.alloc [(.int .u8 0),(.int .i64 0),(.int .i64 0),(.int .i64 0),(.int .i64 0),(.slice none 0 0),(.slice none 0 0)])⟩,oM 10 55,oS 7 11 57]) (oV (oR [oA 7 58 11,o1 59 124 58,oM 12 59]) (oV (oR [oM 60 0,oM 61 12,o2 62 125 60 61,oM 13 62]) (o5 2 (oV (oR [oM 72 13,⟨some 73,none,(.call (.func 126) [(.tmp 72),(.const (.int .i64 (-1)))])⟩,oM 74 73,oH 74 (oM 75 0),oH 74 (oA 7 76 11),oH 74 (oM 77 13),oH 74 (o3 78 127 75 76 77),oH 74 (oW 79 78),oO 80 74 79,oM 71 80]) (oJ 71 (oV (oR [oA 3 81 8,⟨some 82,none,(.mkIface 130 (.tmp 81))⟩,oM 4 82]) .ret) (oV (oR [oF 0 84 11,oL 85 84,oD .eql 86 85 22,oM 83 86]) (oJ 83 (oV (oR [oM 87 9,oW 88 87,oM 89 88,oH 89 (oM 90 0),oH 89 (oA 7 91 11),oH 89 (oM 92 6),oH 89 (o3 93 128 90 91 92),oH 89 (oW 94 93),oO 95 89 94]) (oJ 95 (oV (oR [oA 3 96 8,⟨some 97,none,(.mkIface 130 (.tmp 96))⟩,oM 4 97]) .ret) .skip)) (oV (oR [oZ 9]) (oV (oR [oM 63 0,oM 64 1,oM 65 10,oM 66 12,o4 67 129 63 64 65 66,oW 68 67]) (oJ 68 (oV (oR [oA 3 69 8,⟨some 70,none,(.mkIface 130 (.tmp 69))⟩,oM 4 70]) .ret) .skip)))))))))))) (oR [oC .add 98 53 1,oM 53 98]))))
def zJq:U3:=(oV (oR [⟨some 4,none,(.mov (.const .nilIface))⟩]) (oV (o6 [oM 16 0,(⟨some 17,none,(.nilCheck (.tmp 16))⟩,[]),oF 0 18 17,oF 1 19 18,oL 20 19,oM 21 0,(⟨some 22,none,(.nilCheck (.tmp 21))⟩,[]),oF 2 23 22,oL 24 23,oI 2 25 20 24,oF 1 26 25,oL 27 26,oM 28 1,oI 5 29 27 28,oA 5 30 29,(⟨some 5,none,(.alloc [(.slice none 0 0),(.int .u8 0),(.int .i64 0),(.int .i64 0),(.int .i64 0)])⟩,[]),oS 5 5 30]) (oV (o6 [oM 32 0,(⟨some 33,none,(.nilCheck (.tmp 32))⟩,[]),oF 0 34 33,oA 2 35 34,oM 36 0,(⟨some 37,none,(.nilCheck (.tmp 36))⟩,[]),oF 2 38 37,oL 39 38,oM 40 1,o3 41 123 35 39 40,oM 31 41,oE 42 31 0,oE 43 31 1,oM 6 42,oM 7 43]) (oV (oR [oM 44 0,⟨some 45,none,(.nilCheck (.tmp 44))⟩,oF 2 46 45,oL 47 46,oM 48 1,⟨some 49,none,(.build [(.int .i64 0),(.int .i64 0),(.int .i64 0)] [(0,1,(.tmp 47)),(1,1,(.tmp 48)),(2,1,(.const (.int .i64 120)))])⟩,⟨some 8,none,(.alloc [(.int .i64 0),(.int .i64 0),(.int .i64 0)])⟩,oS 3 8 49]) (oV (oR [oK 9 (.bool true)]) (oV (oV (oR [oF 0 50 5,oL 51 50,oQ 52 51,oN 53 0]) (o5 0 (.loop zNy))) (oV (oR [oM 99 0,oF 1 100 5,oA 4 101 100,o1 102 130 101,o2 103 125 99 102,oM 14 103]) (oV (o6 [oM 104 14,(⟨some 105,none,(.call (.func 126) [(.tmp 104),(.const (.int .i64 (-1)))])⟩,[]),oW 106 105,oM 107 106,oG 107 (oM 108 0),oG 107 (oM 109 1),oG 107 (oF 0 110 5),oG 107 (oL 111 110),oG 107 (oQ 112 111),oG 107 (oF 1 113 5),oG 107 (oA 4 114 113),(oG 107 (o1 115 130 114),[7]),oG 107 (o4 116 129 108 109 112 115),oP 117 107 116,oM 15 117]) (oV (oV (oR [oF 1 118 5,oF 0 119 118,oL 120 119]) (o5 3 (oV (o5 6 (oV (o5 5 (oV (o5 4 (oV (oV (oV (oR [oD .eql 122 120 2,oM 121 122]) (oJ 121 (.exit 4) .skip)) (oV (oV (oR [oD .eql 124 120 1,oM 123 124]) (oJ 123 (.exit 5) .skip)) (oV (oR [oD .eql 126 120 3,oM 125 126]) (oJ 125 (.exit 6) .skip)))) (.exit 3))) (oR [oM 127 15,oM 128 127,oG 128 (oM 129 0),oG 128 (oM 130 14),⟨some 131,some (128,true),(.call (.func 76) [(.tmp 129),(.const (.int .u8 1)),(.tmp 130)])⟩,oP 132 128 131,oM 15 132]))) (oV (oR [oM 133 15,oM 134 133,oG 134 (oF 1 135 5),oG 134 (oF 2 136 135),oG 134 (oL 137 136),oG 134 (oC .neq 138 137 0),oP 139 134 138,oM 140 139,oG 140 (oF 1 141 5),oG 140 (oF 0 142 141),oG 140 (oL 143 142),oG 140 (oD .eql 144 143 1),oG 140 (oM 145 144),oH 145 (oF 1 146 5),oH 145 (oF 3 147 146),oH 145 (oL 148 147),oH 145 (oC .neq 149 148 0),oG 140 (oO 150 145 149),oP 151 140 150,oM 15 151]) (.exit 3)))) (oV (o6 [oM 152 15,oM 153 152,oG 153 (oM 154 14),(⟨some 155,some (153,true),(.idx 1 (.tmp 154) (.const (.int .i64 0)))⟩,[]),oG 153 (oL 156 155),oG 153 (oM 157 0),(⟨some 158,some (153,true),(.nilCheck (.tmp 157))⟩,[]),oG 153 (oF 0 159 158),oG 153 (oF 0 160 159),oG 153 (oL 161 160),oG 153 (oM 162 0),(⟨some 163,some (153,true),(.nilCheck (.tmp 162))⟩,[]),oG 153 (oF 0 164 163),oG 153 (oF 1 165 164),oG 153 (oL 166 165),oG 153 (oM 167 0),(⟨some 168,some (153,true),(.nilCheck (.tmp 167))⟩,[]),oG 153 (oF 2 169 168),oG 153 (oL 170 169),oG 153 (oI 2 171 166 170),oG 153 (oF 0 172 171),oG 153 (oL 173 172),oG 153 (oI 4 174 161 173),oG 153 (oF 1 175 174),oG 153 (oL 176 175),oG 153 (oB .eql 177 156 176),oP 178 153 177,oM 15 178]) (.exit 3))))) (oV (oV (oR [oM 179 15,oW 180 179]) (oJ 180 (oV (oR [oA 3 181 8,⟨some 182,none,(.mkIface 130 (.tmp 181))⟩,oM 4 182]) .ret) .skip)) (oV (oR [⟨some 4,none,(.mov (.const .nilIface))⟩]) .ret)))))))))))
theorem zJf(h h8 h0 h00:U2)(t8:U7 Value)(b:Int)(B:WW)(P:List Int)(p5 p8 vl vi:Value)(q:Bool)(e08:U8 h h8)(M8:W6 h8 g vt vf T F f ks ps (YM xs L.length))(hG:0<=f/\f<(F.length:Int))(hBq:L.getD b.toNat default=B)
  (hsig:0<=(F.getD f.toNat default).sig/\(F.getD f.toNat default).sig<(T.length:Int)) (hinT:∀ t∈Zh ks (yj B.fin),BI T t) (hell:(Zh ks (yj B.fin)).length=(yj B.fin).length) (hue:(yj B.fin).length<=1)
  (o58:U6 h0 h8 p5 [vi,.int .u8 B.fin.kind,I B.fin.a,I B.fin.to,I B.fin.els]) (o88:U6 h00 h8 p8 [I f,I b,I 120]) (ol8:WM h8 vl (Zh ks (yj B.fin)))
  (s0:zB t8 0=.pointer (some ⟨g,0,none⟩)) (s1:zB t8 1=I b) (s5:zB t8 5=p5) (s8:zB t8 8=p8) (s14:zB t8 14=vl) (s15:zB t8 15=.bool q)
  (hI:Wa (∀ j,j<B.ins.length->YI T F ks ps nx L P b j)) (hq:Wa (q=true↔¬(-1:Int)∈Zh ks (yj B.fin)/\∀ r∈yj B.fin,zFH nx (ps.getD r.toNat default) b B.ins.length)):
  WX Tryz.prog tb (zPA 8 zJq) ⟨t8,[],none⟩ h8 (zEm Tryz.prog tb [(4,none)] fun q h'=>(q=.nilIface/\(∀ i,i<B.ins.length->YI T F ks ps nx L P b i)/\Ym T F f ks ps nx L b\/q=Bt f b/\¬((∀ i,i<B.ins.length->YI T F ks ps nx L P b i)/\Ym T F f ks ps nx L b))/\U8 h h'):=by
 simp only[zPA,oV,zJq];have hE:Ym T F f ks ps nx L b↔zGl T F f ks ps nx b B:=by unfold Ym;rw[hBq]
 unfold zGl at hE;rw[<-hq.out]at hE;have goodE:∀ {h'},Ym T F f ks ps nx L b->U8 h h'->(Value.nilIface=.nilIface/\(∀ i,i<B.ins.length->YI T F ks ps nx L P b i)/\Ym T F f ks ps nx L b\/Value.nilIface=Bt f b/\¬((∀ i,i<B.ins.length->YI T F ks ps nx L P b i)/\Ym T F f ks ps nx L b))/\U8 h h':=fun he e=>⟨.inl ⟨rfl,hI.out,he⟩,e⟩;have badE:∀ {h'},¬Ym T F f ks ps nx L b->U8 h h'->(Bt f b=.nilIface/\(∀ i,i<B.ins.length->YI T F ks ps nx L P b i)/\Ym T F f ks ps nx L b\/Bt f b=Bt f b/\¬((∀ i,i<B.ins.length->YI T F ks ps nx L P b i)/\Ym T F f ks ps nx L b))/\U8 h h':=fun hn e=>⟨.inr ⟨rfl,fun⟨_,a⟩=>hn a⟩,e⟩;have hE:=Wa.mk hE;have goodE:=Wa.mk @goodE;have badE:=Wa.mk @badE;refine go ?_;by_cases k2:B.fin.kind=2
 ·have k1:¬B.fin.kind=1:=by omega
  have k3:¬B.fin.kind=3:=by omega
  cases q with
  |false=>
   refine go ?_;refine VQ ?_;refine gr ?_;exact badE.out (fun e'=>have e:=hE.out.1 e';absurd e.1 Bool.noConfusion) e08
  |true=>
   refine go ?_;refine VA (yt h8 1 vl _ M8 ol8 (by omega) hinT) ?_;rintro _ h9 ⟨rfl,e9⟩;have o59:=o58.ext e9;have o89:=o88.ext e9;cases c1:isL T 1 (Zh ks (yj B.fin))with
   |false=>
    refine go ?_;refine VQ ?_;refine gr ?_;exact badE.out (fun e'=>have e:=hE.out.1 e';absurd ((e.2.1 k2).symm.trans c1) Bool.noConfusion) (e08.trans e9)
   |true=>
    by_cases ct:B.fin.to=0
    ·have ct':¬B.fin.to≠0:=fun h=>h ct;refine go ?_;refine VQ ?_;refine gr ?_;exact badE.out (fun e'=>have e:=hE.out.1 e';(e.2.2.1 (.inr k2)).1 ct) (e08.trans e9)
    ·have ct':B.fin.to≠0:=ct;by_cases ce:B.fin.els=0
     ·have ce':¬B.fin.els≠0:=fun h=>h ce;refine go ?_;refine VQ ?_;refine gr ?_;exact badE.out (fun e'=>have e:=hE.out.1 e';(e.2.2.1 (.inr k2)).2.elim k1 (fun h=>h ce)) (e08.trans e9)
     ·have ce':B.fin.els≠0:=ce;refine go ?_;rw[Qb ce];refine gr ?_;exact goodE.out (hE.out.2 ⟨rfl,fun _=>c1,fun _=>⟨ct,.inr ce⟩,fun h=>absurd h k3⟩) (e08.trans e9)
 refine go ?_;by_cases k1:B.fin.kind=1
 ·have k3:¬B.fin.kind=3:=by omega
  cases q with
  |false=>
   refine go ?_;refine VQ ?_;refine gr ?_;exact badE.out (fun e'=>have e:=hE.out.1 e';absurd e.1 Bool.noConfusion) e08
  |true=>
   by_cases ct:B.fin.to=0
   ·have ct':¬B.fin.to≠0:=fun h=>h ct;refine go ?_;refine VQ ?_;refine gr ?_;exact badE.out (fun e'=>have e:=hE.out.1 e';(e.2.2.1 (.inl k1)).1 ct) e08
   ·have ct':B.fin.to≠0:=ct;refine go ?_;rw[Qb ct];refine gr ?_;exact goodE.out (hE.out.2 ⟨rfl,fun h=>absurd h k2,fun _=>⟨ct,.inl k1⟩,fun h=>absurd h k3⟩) e08
 refine go ?_;by_cases k3:B.fin.kind=3
 ·cases q with
  |false=>
   refine go ?_;refine VQ ?_;refine gr ?_;exact badE.out (fun e'=>have e:=hE.out.1 e';absurd e.1 Bool.noConfusion) e08
  |true=>
   have hel1:(Zh ks (yj B.fin)).length=1:=by rw[hell];unfold yj;rw[QI (.inr k3)];rfl
   obtain⟨⟨hB3,vk3,vp3,vr3,om,oma,omb,omc⟩,st3,sf3,hm3⟩:=id M8;obtain⟨csf,⟨vbf,rfl,sbf,hlbf⟩,pcf,hslf⟩:=yA (i:=f.toNat) sf3 (by omega);have pcf1:=(pcf _ (U8.refl _)).1;obtain⟨cst,⟨vat,rfl,sat,hlat⟩,pct,hslt⟩:=ZL (i:=(F.getD f.toNat default).sig.toNat) st3 (by omega);by_cases ct:(Zh ks (yj B.fin)).getD 0 0=(T.getD (F.getD f.toNat default).sig.toNat default).elem
   ·have cd:=Qe ct;refine gr ?_;exact goodE.out (hE.out.2 ⟨rfl,fun h=>absurd h k2,fun h=>absurd h (by omega),fun _=>ct⟩) e08
   ·have cd:=Qb ct;refine go ?_;refine VQ ?_;refine gr ?_;exact badE.out (fun e'=>have e:=hE.out.1 e';absurd (e.2.2.2 k3) ct) e08
 cases q with
 |false=>
  refine go ?_;refine VQ ?_;refine gr ?_;exact badE.out (fun e'=>have e:=hE.out.1 e';absurd e.1 Bool.noConfusion) e08
 |true=>
  refine gr ?_;exact goodE.out (hE.out.2 ⟨rfl,fun h=>absurd h k2,fun h=>absurd h (by omega),fun h=>absurd h k3⟩) e08
end
set_option maxRecDepth 100000
section
variable {vt vf:Value}{T:List U5}{F:List WP}{f:Int}{ks:List Int}{ps:List (Int×Int)}{xs:List Int}{g:Nat}{nx:Int->List Int}{L:List WW}
theorem zME(h:U2)(b:Int)(M:W6 h g vt vf T F f ks ps (YM xs L.length))(G:Gr F f nx xs ps L)(E:Env h vt vf T F)(hc:yq T=0)(hks:∀ t∈ks,BI T t)(hF:∀ f∈F,BI T f.sig)
  (hsig:0<=(F.getD f.toNat default).sig/\(F.getD f.toNat default).sig<(T.length:Int)) (hlen:ks.length=ps.length) (U:∀ B∈L,BlkU B ks.length L.length) (V:∀ B∈L,∀ x∈B.ins,InsT T F x) (hb:0<=b/\b<(L.length:Int)) (hil:(L.getD b.toNat default).ins.length<=1000):
  WC Tryz.prog tb 77 [.pointer (some ⟨g,0,none⟩),I b] h fun q h'=>(q=.nilIface/\(∀ i,i<(L.getD b.toNat default).ins.length->YI T F ks ps nx L (YO T F f b).1 b i)/\Ym T F f ks ps nx L b\/q=Bt f b/\¬((∀ i,i<(L.getD b.toNat default).ins.length->YI T F ks ps nx L (YO T F f b).1 b i)/\Ym T F f ks ps nx L b))/\U8 h h':=by
 have hb0:=hb;have hBL:L.getD b.toNat default∈L:=zJ (by omega);have UB:=U _ hBL;have VB:=V _ hBL;have hG:=G.hf;have hGL:=G.hL;refine en 183 [(4,none)] zJq ?_;refine VC 1 rfl rfl ?_;have ea:=za 1 h;obtain⟨⟨hB,vk,vp,vr,o,a,b',c⟩,st,sf,hm⟩:=M.aside 1;obtain⟨cs,⟨vb,rfl,sb,hlb⟩,pc,hsl⟩:=yA (i:=f.toNat) M.sf (by omega);have pc1:=(pc _ ea).2;rw[hGL]at sb;have sbX:=BF.ext sb ea;have sbX:BF (inC (zC 1 h)) vb L:=sbX;obtain⟨cs2,⟨vi,rfl,si,hli⟩,pc',hsl'⟩:=yA (i:=b.toNat) sb (by omega);have pc2:=(pc' _ ea).2;obtain⟨ia,iN,ik,rfl⟩:=zF si;refine WT ?_;refine XH (X:=inC (zC 1 h)) (U8.refl _) E.hm ?_;intro h1 p5 e1 o5;have si1:BW h1 _ (L.getD b.toNat default).ins:=BW.ext si e1;have M1:=M.ext e1;have E1:=E.ext e1;clear o a b' c st sf hm sb sbX si pc1 pc2 pc pc' hsl hsl' ea;refine go ?_;refine VC 0 rfl rfl ?_;obtain⟨⟨hB',vk',vp',vr',o,a,b',c⟩,st,sf,hm⟩:=M1.aside 0;refine WT ?_;refine VA (zNU _ vt vf T F f b E1.tt (QE _) E1.sm E1.st E1.sf) ?_;rintro _ X2 ⟨⟨vq,rfl,oq0⟩,e2⟩;refine nE e2 ?_;have e2'':U8 h1 (yu h1 X2):=(za 0 h1).trans (yr (h:=h1) e2);have e2':U8 h1 (yu h1 (inC X2)):=e2'';refine WT ?_;have oq:WJ h1 (yu h1 (inC X2)) vq (YO T F f b).1:=oq0;generalize(YO T F f b).2=eq at *;generalize yu h1 (inC X2)=h2 at *;generalize hP:(YO T F f b).1=P at *;clear o a b' c st sf hm oq0 e2 e2'';have M2:=M1.ext e2';have o5:=o5.ext e2';have si2:=BW.ext si1 e2';have e02:=e1.trans e2';obtain⟨⟨hB2,vk2,vp2,vr2,om,oma,omb,omc⟩,omd,ome,omf⟩:=id M2;refine go ?_;refine WO.al ?_;intro p8 h3 e3 o8;refine go ?_;refine VG (cs:=[I f,I b,I 120]) o8 e3 ?_;intro h4 e4 o8 u8;have e04:=e02.trans e4;have M4:=M2.ext e4;have o5:=o5.ext e4;have si4:=BW.ext si2 e4;have oq4:=oq.ext e4;clear oma omb omc omd ome omf om M1 si1 E1;have E4:=E.ext e04;generalize hBq:L.getD b.toNat default=B at *;refine go ?_;refine VD [54,55,56,57,11,10,58,59,12,60,61,62,13,72,73,74,75,76,77,78,79,80,71,81,82,4,84,85,86,83,87,88,89,90,91,92,93,94,95,96,97,4,9,63,64,65,66,67,68,69,70,4,98,53] (by kernel_rfl) (fun i=>B.ins.length-i) (fun i t h1=>U8 h4 h1/\zB t 53=I i/\i<=B.ins.length/\(∃ fl,zB t 9=.bool fl/\Wa (fl=true↔∀ j,j<i->(B.ins.getD j default).op=22))/\Wa (∀ j,j<i->YI T F ks ps nx L P b j)) 0 ?_ ?_
 ·exact⟨U8.refl _,WA,QT _,⟨true,WA,⟨by simp⟩⟩,⟨fun j hj=>absurd hj (GR _)⟩⟩
 rintro i t h5 hsame ⟨e5,s53,hi,⟨fl,s9,hfl⟩,hI⟩;have M5:=M4.ext e5;have o55:=o5.ext e5;have o85:=o8.ext e5;have si5:=BW.ext si4 e5;have oq5:=oq4.ext e5;have E5:=E4.ext e5;have e05:=e04.trans e5;refine go ?_;refine VE (fun hb=> ?_) (fun hb=> ?_)<;>simp only[DB]at hb
 ·have hi':i<B.ins.length:=by omega
  obtain⟨cs,hR,pcx,hsx⟩:=zNq si5 hi';have hxm:B.ins.getD i default∈B.ins:=zJ hi';generalize hx:B.ins.getD i default=x at *;have hok:YI T F ks ps nx L P b i↔zEh T F ks ps nx L P b i (∀ j,j<i->(B.ins.getD j default).op=22) x:=by unfold YI;rw[hBq,hx]
  have ux:=UB.ins x hxm;have vx:=VB x hxm;have pcx1:=(pcx h5 (U8.refl _)).1;obtain⟨xa,xf,rfl,sxa,sxf,hla,hlf,ho⟩:=id hR;obtain⟨xa1,xa2,xa3,rfl⟩:=Wb.shape sxa;obtain⟨xf1,xf2,xf3,rfl⟩:=Wb.shape sxf;refine go ?_;refine WO.al ?_;intro p11 h6 e6 o11;refine go ?_;refine VG (cs:=[.int .u8 x.op,I x.ty,I x.a,I x.b,I x.n,.slice xa1 xa2 xa3,.slice xf1 xf2 xf3]) o11 e6 ?_;intro h7 e7 o11 u7;have hR7:=hR.ext e7;have E7:=E5.ext e7;refine go ?_;refine VA (zNr h7 x _ hR7 E7.tt ux.args) ?_;rintro vu h8 ⟨ou,e8⟩;have e58:=e7.trans e8;refine go ?_;refine VA (zOj h8 vu (zi x) (M5.ext e58) ou.sl (by have:=zFf ux;omega) (fun r hr=>ux.uses r hr)) ?_;rintro vl h9 ⟨ol,e9⟩;have e59:=e58.trans e9;have e09:=e05.trans e59;have bad:∀ {h'},¬YI T F ks ps nx L P b i->U8 h h'->(Bt f b=.nilIface/\(∀ i,i<B.ins.length->YI T F ks ps nx L P b i)/\Ym T F f ks ps nx L b\/Bt f b=Bt f b/\¬((∀ i,i<B.ins.length->YI T F ks ps nx L P b i)/\Ym T F f ks ps nx L b))/\U8 h h':=fun hn e=>⟨.inr ⟨rfl,fun⟨a,_⟩=>hn (a i hi')⟩,e⟩;have bad:=Wa.mk @bad;have hok:=Wa.mk hok;have M9:=M5.ext e59;have o89:=o85.ext e59;have o119:=o11.ext (e8.trans e9);have hlu:=zFf ux;have ouI:=ou.sl.ext e9;have hll:(Zh ks (zi x)).length=(zi x).length:=by unfold Zh;simp
  have hinT:∀ t∈Zh ks (zi x),BI T t:=fun t ht=>by
   obtain⟨r,hr,rfl⟩:=Qt.1 ht;have:=ux.uses r hr;exact hks _ (zb (by omega))
  replace ol:WJ h8 h9 vl (Zh ks (zi x)):=ol;have R9:=hR.ext e59;refine go ?_;refine VA (zAH h9 vl (Zh ks (zi x)) (-1) ol.sl (by omega)) ?_;rintro _ _ ⟨rfl,rfl⟩;by_cases c1:(-1:Int)∈Zh ks (zi x)
  ·rw[Qe c1];refine go ?_;refine VQ ?_;refine gr ?_;exact bad.out (fun q=>(hok.out.1 q).1 c1) e09
  rw[Qb c1];refine go ?_;refine VA (zMu h9 x _ vl (Zh ks (zi x)) M9 hc R9 ol.sl (by omega) hinT vx.ty hF vx.n14 vx.n2 (fun e=>by have:=vx.l1 e;omega) (fun e=>by have:=vx.l2 e;omega)) ?_;rintro _ h10 ⟨rfl,e10⟩;have e010:=e09.trans e10;have o810:=o89.ext e10;have o1110:=o119.ext e10;cases c2:zAs T F x (Zh ks (zi x))with
  |false=>
   refine go ?_;refine VQ ?_;refine gr ?_;exact bad.out (fun q=>absurd ((hok.out.1 q).2.1.symm.trans c2) Bool.noConfusion) e010
  |true=>
  have M10:=M9.ext e10;have oq10:=oq5.ext (e59.trans e10);have R10:=R9.ext e10;refine go ?_;by_cases c3:x.op=22
  ·cases fl with
   |false=>
    refine go ?_;refine VQ ?_;refine gr ?_;exact bad.out (fun q=>absurd (hfl.out.2 ((hok.out.1 q).2.2.1 c3).1) Bool.noConfusion) e010
   |true=>
    refine go ?_;have hph:=ux.phi c3;refine VA (zQy h10 x _ _ P M10 G R10 oq10.sl (fun j hj=>hph.2.2 _ (zb hj)) (by omega) (fun j hj=>by have:=hph.2.1 _ (zb hj);omega)) ?_;rintro _ h11 ⟨⟨bb,rfl,hbb⟩,e11⟩;have e011:=e010.trans e11;have o811:=o810.ext e11;cases bb with
    |false=>
     refine go ?_;refine VQ ?_;refine gr ?_;exact bad.out (fun q=>absurd (hbb.2 ((hok.out.1 q).2.2.1 c3).2) Bool.noConfusion) e011
    |true=>
     refine go ?_;refine zA (i+1) (by omega) ⟨e5.trans (e59.trans (e10.trans e11)),Wx,by omega,⟨true,WA,⟨?_⟩⟩,⟨fun j hj=> ?_⟩⟩
     ·simp only[true_iff];intro j hj;by_cases e:j=i
      ·subst e;rw[hx];exact c3
      ·exact hfl.out.1 rfl j (by omega)
     ·by_cases e:j=i
      ·subst e;exact hok.out.2 ⟨c1,c2,fun _=>⟨hfl.out.1 rfl,hbb.1 rfl⟩,fun h=>absurd c3 h⟩
      ·exact hI.out j (by omega)
  ·refine go ?_;have ou10:=ouI.ext e10;refine VA (zGy h10 vu (zi x) b i M10 G.r (G.way b hb0.1 hb0.2) (by have:=G.n;omega) G.inn ou10 (by omega) (fun r hr=>by have:=ux.uses r hr;omega) G.pl) ?_;rintro _ h11 ⟨⟨bb,rfl,hbb⟩,e11⟩;have e011:=e010.trans e11;have o811:=o810.ext e11;cases bb with
   |false=>
    refine go ?_;refine VQ ?_;refine gr ?_;exact bad.out (fun q=>absurd (hbb.2 ((hok.out.1 q).2.2.2 c3)) Bool.noConfusion) e011
   |true=>
    refine go ?_;refine zA (i+1) (by omega) ⟨e5.trans (e59.trans (e10.trans e11)),Wx,by omega,⟨false,WA,⟨?_⟩⟩,⟨fun j hj=> ?_⟩⟩
    ·simp only[Qn,JF];intro hall;have:=hall i (by omega);rw[hx]at this;exact c3 this
    ·by_cases e:j=i
     ·subst e;exact hok.out.2 ⟨c1,c2,fun h=>absurd h c3,fun _=>hbb.1 rfl⟩
     ·exact hI.out j (by omega)
 ·have hii:i=B.ins.length:=by omega
  subst hii;obtain⟨⟨hB3,vk3,vp3,vr3,om,oma,omb,omc⟩,st3,sf3,hm3⟩:=id M5;refine go ?_;refine VA (zIq h5 B.fin) ?_;rintro ve h6 ⟨oe,e6⟩;refine go ?_;have hue:(yj B.fin).length<=1:=by unfold yj;split<;>simp
  refine VA (zOj h6 ve (yj B.fin) (M5.ext e6) oe.sl (by omega) UB.ends) ?_;rintro vl h7 ⟨ol,e7⟩;replace ol:WJ h6 h7 vl (Zh ks (yj B.fin)):=ol;have e57:=e6.trans e7;have e07:=e05.trans e57;have hell:(Zh ks (yj B.fin)).length=(yj B.fin).length:=by unfold Zh;simp
  have hinT:∀ t∈Zh ks (yj B.fin),BI T t:=fun t ht=>by
   obtain⟨r,hr,rfl⟩:=Qt.1 ht;have:=UB.ends r hr;exact hks _ (zb (by omega))
  have M7:=M5.ext e57;have o87:=o85.ext e57;have o57:=o55.ext e57;have si7:=BW.ext si5 e57;clear om oma omb omc st3 sf3 hm3;refine go ?_;refine VJ [104,105,106,107,108,109,110,111,112,113,114,115,116,117,15] (by kernel_rfl) (fun t h'=>U8 h7 h'/\∃ q,zB t 15=.bool q/\Wa (q=true↔¬(-1:Int)∈Zh ks (yj B.fin)/\∀ r∈yj B.fin,zFH nx (ps.getD r.toNat default) b B.ins.length)) ?_ ?_
  ·refine VC 0 rfl rfl ?_;have ea:=za 0 h7;have olX:=Va (ol.sl.ext ea);have o5X:=Vk (o57.ext ea);have siX:=Ud (BW.ext si7 ea);refine WT ?_;refine VA (zAH _ vl _ (-1) olX (by omega)) ?_;rintro _ _ ⟨rfl,rfl⟩;refine nQ ?_;by_cases c1:(-1:Int)∈Zh ks (yj B.fin)
   ·rw[Qe c1];refine WT ?_;refine Za zy ?_;refine WT ?_;exact zG ⟨ea,false,WA,⟨by simp[c1]⟩⟩
   ·rw[Qb c1];refine WT ?_;refine VA (zIq _ B.fin) ?_;rintro ve2 X8 ⟨oe2,e8⟩;refine nE e8 ?_;have e8':=ea.trans (yr (h:=h7) (X:=zC 0 h7) (Y:=X8) e8);refine WT ?_;refine VA (zGy _ ve2 (yj B.fin) b B.ins.length (VO (M7.ext e8')) G.r (G.way b hb0.1 hb0.2) (by have:=G.n;omega) G.inn (Va oe2.sl) (by omega) (fun r hr=>by have:=UB.ends r hr;omega) G.pl) ?_;rintro _ X9 ⟨⟨bb,rfl,hbb⟩,e9⟩;refine nE e9 ?_;have e9':=e8'.trans (yr (h:=h7) e9);refine WT ?_;exact zG ⟨e9',bb,WA,⟨by rw[hbb];simp[c1]⟩⟩
  rintro t8 h8 hs8 ⟨e8,q,s15,hq⟩;refine YJ ?_;exact zJf (xs:=xs) h h8 _ _ t8 b B P p5 p8 vl _ q (e07.trans e8) (M7.ext e8) hG hBq hsig hinT hell hue (o57.ext e8) (o87.ext e8) (ol.sl.ext e8) (by exact Yl) (by exact Yl) (by exact Yl) (by exact Yl) (by exact Yl) s15 hI hq
end
end
end Go.Proofs.YtmejfcakhpihlaaGreatDoor
