/- What functions of the program come to in the abstract machine, and plain laws about it; no statement of the seat is proved in this text. -/
import Derived.Test.YtmejfcakhpihlaaGreatDoorJk
import Derived.Test.YtmejfcakhpihlaaGreatDoorJb
import Derived.Test.YtmejfcakhpihlaaGreatDoorJj
import Derived.Test.YtmejfcakhpihlaaGreatDoorJi
import Derived.Test.YtmejfcakhpihlaaGreatDoorJh
set_option linter.unusedVariables false
set_option linter.unusedSimpArgs false
set_option maxHeartbeats 2000000
namespace Go.Proofs.YtmejfcakhpihlaaGreatDoor
noncomputable section
open Go.Am
set_option maxRecDepth 100000
theorem Y8:∀ {l:List Int},(∀ x∈l,0<=x/\x<=1000)->0<=l.sum/\l.sum<=1000 * l.length
 |[],_=>by simp
 |x::l,h=>by
  have:=Y8 fun y hy=>h y (Qh _ hy);have:=h x (Qb ..);simp only[G7,GT];omega
theorem zOj {h0 h:U0}{v:Value}{l:List Int}{n:Nat}(o:WH h0 h v l)(hn:n<=l.length):∃ r,ZZ 1 v none (some n) none=some r/\WK h r (l.take n):=by
 rcases o with ⟨rfl,rfl⟩|⟨g,g1,g2,rfl,g3⟩
 ·obtain rfl:n=0:=Nat.le_zero.1 hn;exact⟨.slice none 0 0,rfl,WK.nil h⟩
 ·have hlen:(l.take n).length=n:=by rw[GB];omega
  refine⟨.slice (some ⟨g,0+0 * 1,none⟩) (n - 0) 1,?_,by simp,.inr ⟨g,0,l.map I,by rw[hlen];simp,ZW g3,?_,g2⟩⟩
  ·have b1:Nat.ble 0 n=true:=QH (QS _);have b2:Nat.ble n l.length=true:=QH hn;simp only[ZZ,Gk,GA,b1,b2,Q0,Q1,cond_true,Ge]
  ·rw[ZB (by rw[hlen];simp;omega),List.map_take,hlen];simp
def zPI:U1:=(oV (oR [oB .lss 12 11 10]) (oV (oT 12 0) (oV (o5 1 (oV (oR [oI 1 13 9 11,oL 14 13,oM 6 14]) (oR [oM 15 4,oM 16 6,oB .add 17 15 16,oM 4 17]))) (oR [oC .add 18 11 1,oM 11 18]))))
def zUj:U1:=(oV (oR [oN 4 0]) (oV (oV (oR [oM 7 0,oM 8 1,⟨some 9,none,(.slice 1 (.tmp 7) none (some (.tmp 8)) none)⟩,oQ 10 9,oN 11 0]) (o5 0 (.loop zPI))) (oV (oR [oM 19 4,oM 4 19]) .ret)))
theorem zKW (h:U0)(v:Value)(l:List Int)(n:Nat){h0:U0}(o:WH h0 h v l)(hn:n<=l.length)(hl:l.length<=2000)(hb:∀ x∈l,0<=x/\x<=1000):
  WC Tryz.prog tb 44 [v,I n] h fun r h'=>r=I (l.take n).sum/\h=h':=by
 have s:=o.sl;obtain⟨v1,v2,v3,rfl⟩:=WW.shape s;obtain⟨r,hr,sr⟩:=zOj o hn;replace hb:=WY.mk hb;refine en 20 [(4,none)] zUj ?_;refine Vt hr ?_;have hlen:(l.take n).length=n:=by rw[GB];omega
 have hbt:∀ x∈l.take n,0<=x/\x<=1000:=fun x hx=>hb.out x (GJ hx);generalize l.take n=m at *;obtain⟨r1,r2,r3,rfl⟩:=WW.shape sr;replace hbt:=WY.mk hbt;refine go ?_;refine VD [12,13,14,6,15,16,17,4,18,11] (by kernel_rfl) (fun i=>m.length - i) (fun i t h1=>h=h1/\zB t 11=I i/\i<=m.length/\zB t 4=I (m.take i).sum) 0 ?_ ?_
 ·exact⟨rfl,U8,QS _,U8⟩
 rintro i t h1 hsame ⟨rfl,s11,hi,s4⟩;have hsb:=Y8 (l:=m.take i) fun x hx=>hbt.out x (GJ hx);have hli:(m.take i).length<=i:=List.length_take_le _ _;refine go ?_;refine VE (fun hc=> ?_) (fun hc=> ?_)<;>simp only[DB]at hc
 ·have hi':i<m.length:=by omega
  have hx:=hbt.out _ (zc hi');have hsum:(m.take (i+1)).sum=(m.take i).sum+m.getD i 0:=by
   rw[Q4,QB hi',Gu];simp[List.getD,QB hi']
  refine go ?_;exact zA (i+1) (by omega) ⟨rfl,Wu,by omega,by rw[hsum];exact U8⟩
 ·have hii:i=m.length:=by omega
  subst hii;rw[Qx]at s4;refine gr ?_;exact⟨rfl,rfl⟩
structure TB (h0 h:U0)(vR vF vS:Value)(Rg Fl:List Int)(S:List Wo):Prop where
 r:WH h0 h vR Rg
 f:WH h0 h vF Fl
 s:WP 3 RSt h0.n h vS S
 hR:Rg.length<=8
 hF:Fl.length<=1024
 bR:∀ x∈Rg,0<=x/\x<=1000
 bF:∀ x∈Fl,0<=x/\x<=1000
 sh:(∃ a n c,vR= .slice a n c)/\(∃ a n c,vF= .slice a n c)/\(∃ a n c,vS= .slice a n c)
theorem TB.ext {h0 h h':U0}{vR vF vS:Value}{Rg Fl:List Int}{S:List Wo}(B:TB h0 h vR vF vS Rg Fl S)(e:U6 h h'):TB h0 h' vR vF vS Rg Fl S:=⟨B.r.ext e,B.f.ext e,WP.ext B.s e,B.hR,B.hF,B.bR,B.bF,B.sh⟩
section
variable {h0 h:U0}{vR vF vS:Value}{Rg Fl:List Int}{S:List Wo}
def zUe:U1:=(oV (oR [oX 1 0,oN 2 0]) (oV (oR [oF 0 3 1,oF 0 4 3,oL 5 4,oF 0 6 1,oF 0 7 6,oL 8 7,oQ 9 8,o2 10 44 5 9,oM 2 10]) .ret))
theorem zJL (B:TB h0 h vR vF vS Rg Fl S):WC Tryz.prog tb 81 [.agg #[vR,vF,vS]] h fun r h'=>r=I Rg.sum/\U6 h h':=by
 obtain⟨⟨r1,r2,r3,rfl⟩,⟨f1,f2,f3,rfl⟩,⟨s1,s2,s3,rfl⟩⟩:=B.sh;refine en 11 [(2,none)] zUe ?_;refine VH ?_;intro p h1 e1 o1;replace o1:U4 h h1 p [.slice r1 r2 r3,.slice f1 f2 f3,.slice s1 s2 s3]:=o1;have B1:=B.ext e1;have sR:=B1.r.sl;have hR:=B.hR;refine go ?_;refine VA (zKW h1 _ Rg Rg.length B1.r (QE _) (by omega) B.bR) ?_;rintro _ h2 ⟨rfl,rfl⟩;rw[Qx];refine gr ?_;exact⟨rfl,e1⟩
def zUF:U1:=(oV (oR [oX 1 0,oN 2 0]) (oV (oR [oF 0 3 1,oF 0 4 3,oL 5 4,oQ 6 5,⟨some 7,none,(.bin .add (.const (.int .i64 1)) (.tmp 6))⟩,oM 2 7]) .ret))
theorem zJR (B:TB h0 h vR vF vS Rg Fl S):WC Tryz.prog tb 46 [.agg #[vR,vF,vS]] h fun r h'=>r=I (1+Rg.length)/\U6 h h':=by
 obtain⟨⟨r1,r2,r3,rfl⟩,⟨f1,f2,f3,rfl⟩,⟨s1,s2,s3,rfl⟩⟩:=B.sh;refine en 8 [(2,none)] zUF ?_;refine VH ?_;intro p h1 e1 o1;replace o1:U4 h h1 p [.slice r1 r2 r3,.slice f1 f2 f3,.slice s1 s2 s3]:=o1;have B1:=B.ext e1;have sR:=B1.r.sl;have hR:=B.hR;refine gr ?_;exact⟨rfl,e1⟩
def zUl:U1:=(oV (oR [oX 1 0,oN 2 0]) (oV (o6 [oA 3 3 1,o1 4 81 3,oF 0 5 1,oF 0 6 5,(oL 7 6,[1]),oQ 8 7,oB .add 9 4 8,oM 2 9]) .ret))
theorem zLg (B:TB h0 h vR vF vS Rg Fl S)(hm:h.mark<=h.n):WC Tryz.prog tb 45 [.agg #[vR,vF,vS]] h fun r h'=>r=I (Rg.sum+Rg.length)/\U6 h h':=by
 obtain⟨⟨r1,r2,r3,rfl⟩,⟨f1,f2,f3,rfl⟩,⟨s1,s2,s3,rfl⟩⟩:=B.sh;have hsb:=Y8 B.bR;have hR:=B.hR;refine en 10 [(2,none)] zUl ?_;refine VH ?_;intro p h1 e1 o1;replace o1:U4 h h1 p [.slice r1 r2 r3,.slice f1 f2 f3,.slice s1 s2 s3]:=o1;have B1:=B.ext e1;have sR:=B1.r.sl;refine go ?_;refine VC 0 rfl rfl ?_;have BX:=B1.ext (zQ 0 h1);have o1X:=o1.ext (zQ 0 h1);have sRX:=BX.r.sl;have o1Y:U4 h (inC (zC 0 h1)) p [.slice r1 r2 r3,.slice f1 f2 f3,.slice s1 s2 s3]:=o1X;have sRY:WK (inC (zC 0 h1)) (.slice r1 r2 r3) Rg:=sRX;have BY:TB h0 (inC (zC 0 h1)) (.slice r1 r2 r3) (.slice f1 f2 f3) (.slice s1 s2 s3) Rg Fl S:=⟨BX.r,BX.f,BX.s,B.hR,B.hF,B.bR,B.bF,B.sh⟩;refine WM ?_;refine VA (zJL BY) ?_;rintro _ X2 ⟨rfl,e2⟩;refine nE e2 ?_;have o2Z:=o1Y.ext e2;have o2Y:U4 h (inC X2) p [.slice r1 r2 r3,.slice f1 f2 f3,.slice s1 s2 s3]:=o2Z;have s2Z:=sRY.ext e2;have s2Y:WK (inC X2) (.slice r1 r2 r3) Rg:=s2Z;have e2':=(zQ 0 h1).trans (yh (h:=h1) e2);refine WM ?_;refine Zq (j:=0+0) o1 (QE _) ?_;refine WM ?_;refine gr ?_;exact⟨rfl,e1.trans e2'⟩
end
section
variable {h:U0}{vt vf:Value}{T:List U3}{F:List WR}
theorem zU3 {h h':U0}{vR vF vS:Value}(hs:zd T F=0)(r:WH h h' vR (if zd T F=0 then zk T F else []))(q:WH h h' vF (if zd T F=0 then yJ T F else []))(s:WP 3 RSt h.n h' vS (if zd T F=0 then zh T F else []))
  (sh:(∃ a n c,vR= .slice a n c)/\(∃ a n c,vF= .slice a n c)/\(∃ a n c,vS= .slice a n c)):TB h h' vR vF vS (zk T F) (yJ T F) (zh T F):=by
 rw[QJ hs]at r q s;have hp:=(z8 hs).1;obtain⟨hc,hF1,hF8,hfn⟩:=yc hp;refine⟨r,q,s,by unfold zk;simpa using hF8,by unfold yJ;rw[Qp];exact zBq hs,fun x hx=> ?_,fun x hx=> ?_,sh⟩
 ·unfold zk at hx;obtain⟨g,hg,rfl⟩:=Qt.1 hx;obtain⟨i,hi,rfl⟩:=YZ hg;have Z:=zBe hp (f:=(i:Int)) (by omega);have h1:=Z.many;have h2:=Z.par4;have h3:=zAp (F.getD i default).blocks;unfold zM at h1;unfold yL at h2;rw[QU]at h1 h2;omega
 ·unfold yJ at hx;obtain⟨s,hs',rfl⟩:=Qt.1 hx;have h1:=zAh hs s hs';have hl:=zC9 hc;have h2:=zCx (s.ty.toNat+1) s.ty.toNat (Q7 _) fun j hj=>(hl j (by omega)).1;have h3:=(hl s.ty.toNat (by omega)).2;omega
def zl (T:List U3)(F:List WR):Int:=(zk T F).sum
def zCu (T:List U3)(F:List WR):Int:=(zk T F).sum+F.length
def zEn (F:List WR):Int:=1+F.length
def zVP (T:List U3)(F:List WR)(s i:Int):Prop:=(0<=s/\s<((yJ T F).length:Int))/\0<=i/\i<(yJ T F).getD s.toNat 0
instance (T:List U3) (F:List WR) (s i:Int):Decidable (zVP T F s i):=by unfold zVP;infer_instance
end
set_option maxRecDepth 100000
section
variable {h:U0}{vt vf:Value}{T:List U3}{F:List WR}
def zTd:U1:=(oV (oR [oX 1 0,oN 2 0,oN 3 0,oN 4 0]) (oV (oR [oA 2 8 1,o1 9 43 8,oM 7 9,oE 10 7 0,oE 11 7 1,⟨some 5,none,(.alloc [(.slice none 0 0),(.slice none 0 0),(.slice none 0 0)])⟩,oS 3 5 10,oM 4 11]) (oV (oV (oR [oM 12 4,oC .neq 13 12 0]) (oJ 13 (oV (oR [oM 14 4,oN 2 0,oN 3 0,oM 4 14]) .ret) .skip)) (oV (oR [oF 0 15 5,oF 1 16 15,oL 17 16,oF 0 18 5,oF 1 19 18,oL 20 19,oQ 21 20,o2 22 44 17 21,oM 6 22]) (oV (o6 [oA 3 23 5,o1 24 45 23,oM 25 6,oB .add 26 24 25,(oA 3 27 5,[1]),o1 28 46 27,oM 29 6,oB .add 30 28 29,oM 2 26,oM 3 30,oN 4 0]) .ret)))))
theorem zOu (E:Env h vt vf T F):WC Tryz.prog tb 19 [.agg #[vt,vf]] h fun r h'=>r= .tuple #[I (if zd T F=0 then zCu T F+(yJ T F).sum else 0),I (if zd T F=0 then zEn F+(yJ T F).sum else 0),I (zd T F)]/\U6 h h':=by
 have hRl:(zk T F).length=F.length:=by unfold zk;simp
 refine en 31 [(2,none),(3,none),(4,none)] zTd ?_;refine VH ?_;intro p h1 e1 o1;replace o1:U4 h h1 p [vt,vf]:=o1;refine go ?_;refine VA (zMx h1 vt vf T F (E.ext e1)) ?_;rintro _ h2 ⟨⟨vR,vF,vS,rfl,⟨r1,r2,r3,rfl⟩,⟨f1,f2,f3,rfl⟩,⟨s1,s2,s3,rfl⟩,oR,oF,sS⟩,e2⟩;refine go ?_;refine WO.al ?_;intro p5 h3 e3 o3;refine go ?_;refine VG (cs:=[.slice r1 r2 r3,.slice f1 f2 f3,.slice s1 s2 s3]) o3 e3 ?_;intro h4 e4 o4 _;have e04:=e1.trans (e2.trans e4);by_cases hs:zd T F=0;case neg=>
  have hs':zd T F≠0:=hs;rw[QC hs,QC hs];refine gr ?_;exact⟨rfl,e04⟩
 have B:=(zU3 hs oR oF sS ⟨⟨_,_,_,rfl⟩,⟨_,_,_,rfl⟩,⟨_,_,_,rfl⟩⟩).ext e4;have sF:=B.f.sl;have hF1:=B.hF;have hR8:=B.hR;have hsb:=Y8 B.bF;have hsr:=Y8 B.bR;rw[QJ hs,QJ hs,hs];refine go ?_;refine VA (zKW h4 _ (yJ T F) (yJ T F).length B.f (QE _) (by omega) B.bF) ?_;rintro _ _ ⟨rfl,rfl⟩;rw[Qx];refine go ?_;refine VC 0 rfl rfl ?_;have o4X:=o4.ext (zQ 0 h4);have o4Y:U4 h2 (inC (zC 0 h4)) p5 [.slice r1 r2 r3,.slice f1 f2 f3,.slice s1 s2 s3]:=o4X;have BX:=B.ext (zQ 0 h4);have BY:TB h1 (inC (zC 0 h4)) (.slice r1 r2 r3) (.slice f1 f2 f3) (.slice s1 s2 s3) (zk T F) (yJ T F) (zh T F):=⟨BX.r,BX.f,BX.s,B.hR,B.hF,B.bR,B.bF,B.sh⟩;refine WM ?_;refine VA (zLg BY (QE _)) ?_;rintro _ X5 ⟨rfl,e5⟩;refine nE e5 ?_;have o5Z:=o4Y.ext e5;have o5Y:U4 h2 (inC X5) p5 [.slice r1 r2 r3,.slice f1 f2 f3,.slice s1 s2 s3]:=o5Z;have B5:=BY.ext e5;have B5Y:TB h1 (inC X5) (.slice r1 r2 r3) (.slice f1 f2 f3) (.slice s1 s2 s3) (zk T F) (yJ T F) (zh T F):=⟨B5.r,B5.f,B5.s,B.hR,B.hF,B.bR,B.bF,B.sh⟩;have e5':=(zQ 0 h4).trans (yh (h:=h4) e5);unfold zCu zEn;refine WM ?_;refine zPe o4 (QE _) ?_;refine WM ?_;refine VA (zJR B5Y) ?_;rintro _ X6 ⟨rfl,e6⟩;refine nE e6 ?_;rw[hRl];refine gUr ?_;have e6':=e5'.trans (yh (h:=h4) e6);exact⟨rfl,e04.trans e6'⟩
end
section
variable {h:U0}{vt vf:Value}{T:List U3}{F:List WR}
end
theorem zDk {T:List U3}{F:List WR}(hs:zd T F=0):(∀ x∈zk T F,0<=x/\x<=1000)/\(zk T F).length=F.length/\1<=F.length/\F.length<=8:=by
 have hp:=(z8 hs).1;obtain⟨hc,hF1,hF8,hfn⟩:=yc hp;refine⟨fun x hx=> ?_,by unfold zk;simp,by omega,by omega⟩;unfold zk at hx;obtain⟨g,hg,rfl⟩:=Qt.1 hx;obtain⟨i,hi,rfl⟩:=YZ hg;have Z:=zBe hp (f:=(i:Int)) (by omega);have h1:=Z.many;have h2:=Z.par4;have h3:=zAp (F.getD i default).blocks;unfold zM at h1;unfold yL at h2;rw[QU]at h1 h2;omega
theorem zD7 {l:List Int}{i:Nat}(hi:i<l.length):(l.take (i+1)).sum=(l.take i).sum+l.getD i 0:=by
 rw[Q4,QB hi,Gu];simp[List.getD,QB hi]
theorem zUZ {l:List Int}(hb:∀ x∈l,0<=x/\x<=1000)(i:Nat):(l.take i).sum<=l.sum:=by
 have h:l.sum=(l.take i).sum+(l.drop i).sum:=by
  conv=>lhs;rw[<-GG i l]
  rw[Gu]
 have:=Y8 (l:=l.drop i) fun x hx=>hb x (List.mem_of_mem_drop hx);omega
theorem zRc {T:List U3}{k t:Int}(h:Wp T k t=true):(T.getD t.toNat default).kind=k:=by
 unfold Wp at h;simp only[QF,QW]at h;exact h.2
theorem zVo {T:List U3}{F:List WR}(hp:Z8 T F=0):∀ g∈F,BG T g.sig/\Wp T 3 g.sig=true:=fun g hg=>by
 have hfn:=(yc hp).2.2.2 g hg;have hs:=zD4 hfn;refine⟨.inr hs,?_⟩;unfold BW at hfn;split at hfn
 ·cases hfn
 ·rename_i hb;unfold zBu at hb;simp only[GD,GZ,Gg,not_or,Bool.not_eq_false,Gm,Decidable.not_not]at hb;unfold Wp;simp only[QF,QW];exact⟨by omega,hb.1.1.2⟩
set_option maxRecDepth 100000
def zRI:U1:=(oV (oR [oX 1 0,oK 2 (.slice none 0 0)]) (oV (oV (oR [oF 0 3 1,oL 4 3]) (o5 0 (oV (oR [oD .eql 6 4 4,oM 5 6]) (oJ 5 (oV (oR [oF 3 7 1,oL 8 7,oM 2 8]) .ret) (oV (oR [oD .eql 10 4 5,oM 9 10]) (oJ 9 (oV (oR [oF 1 11 1,oL 12 11,⟨some 13,none,(.buildSlice 1 1 [(.int .i64 0)] [(0,1,(.tmp 12))])⟩,oF 2 14 1,oL 15 14,o2 16 225 13 15,oM 2 16]) .ret) .skip)))))) (oV (oR [oK 2 (.slice none 0 0)]) .ret)))
theorem zMm (h:U0)(x:U3)(va:Value)(sa:WK h va x.parts)(h4:x.kind=4):
  WC Tryz.prog tb 195 [.agg #[.int .u8 x.kind,I x.elem,I x.many,va]] h fun r h'=>r=va/\U6 h h':=by
 obtain⟨a1,a2,a3,rfl⟩:=WW.shape sa;refine en 17 [(2,none)] zRI ?_;refine VH ?_;intro p h1 e1 o1;replace o1:U4 h h1 p [.int .u8 x.kind,I x.elem,I x.many,.slice a1 a2 a3]:=o1;refine gr ?_;exact⟨rfl,e1⟩
def zRD:U1:=(oV (oR [oN 6 0,oN 7 0]) (oV (oV (oR [oM 10 0,oM 11 1,o2 12 190 10 11,oM 8 12]) (oV (oR [oM 13 8,oC .neq 14 13 0]) (oJ 14 (oV (oR [oM 15 8,oN 6 0,oM 7 15]) .ret) .skip))) (oV (oR [oM 16 0,oM 17 1,oI 4 18 16 17,oA 4 19 18,o1 20 195 19,oM 9 20]) (oV (oV (oR [oM 21 9,oQ 22 21,oM 23 2,⟨some 24,none,(.buildSlice 1 1 [(.int .i64 0)] [(0,1,(.tmp 23))])⟩,o2 25 167 22 24,oW 26 25]) (oJ 26 (oV (oR [oN 6 0,oN 7 2]) .ret) .skip)) (oV (oR [oM 27 9,oM 28 2,oI 1 29 27 28,oL 30 29,oM 6 30,oN 7 0]) .ret)))))
theorem zNr (h:U0)(vt:Value)(T:List U3)(k n:Int)(st:Ws h vt T)(hT:T.length<=100)(hp:∀ x∈T,x.parts.length<=100)(hc:yo T=0)(hk:0<=k/\k<(T.length:Int))(h4:(T.getD k.toNat default).kind=4)(hn:0<=n/\n<((T.getD k.toNat default).parts.length:Int)):
  WC Tryz.prog tb 137 [vt,I k,I n] h fun r h'=>r= .tuple #[I ((T.getD k.toNat default).parts.getD n.toNat 0),I 0]/\U6 h h':=by
 have hm:=zBS hc hk.1 hk.2;have h8:=(zFH hm h4).1;refine en 31 [(6,none),(7,none)] zRD ?_;refine VA (zFU h vt T k st hT hp hc hk) ?_;rintro _ h2 ⟨rfl,e2⟩;have st2:=Ws.ext st e2;obtain⟨cs,⟨va,rfl,sa,hla⟩,pc,hs⟩:=ZQ (i:=k.toNat) st2 (by omega);obtain⟨t1,t2,t3,rfl⟩:=zG st2;generalize T.getD k.toNat default=x at *;obtain⟨a1,a2,a3,rfl⟩:=WW.shape sa;refine go ?_;refine VA (zMm h2 x _ sa h4) ?_;rintro _ h3 ⟨rfl,e3⟩;have sa3:=sa.ext e3;refine go ?_;refine WO.bl [n] ?_;intro v4 h4' e4 o4;have ht:yd (x.parts.length:Int) [n]=true:=by unfold yd;simp[hn.1,hn.2]
 refine go ?_;refine VA (zAX h4' v4 (x.parts.length:Int) [n] o4.sl (by simp)) ?_;rintro _ h5 ⟨rfl,e5⟩;rw[ht];have sa5:=sa3.ext (e4.trans e5);refine gr ?_;exact⟨rfl,e2.trans (e3.trans (e4.trans e5))⟩
theorem zPh {h:U0}{v:Value}{l:List Int}{n:Nat}(s:WK h v l)(hl:0<l.length)(hn:n<=l.length):∃ r,ZZ 1 v none (some n) none=some r/\WK h r (l.take n):=by
 obtain⟨h1,⟨h2,_⟩|⟨g,off,row,rfl,h3,h4,h5⟩⟩:=s
 ·omega
 have hlen:(l.take n).length=n:=by rw[GB];omega
 refine⟨.slice (some ⟨g,off+0 * 1,none⟩) (n - 0) 1,?_,by simp,.inr ⟨g,off,row,by rw[hlen];simp,h3,?_,h5⟩⟩
 ·have b1:Nat.ble 0 n=true:=QH (QS _);have b2:Nat.ble n l.length=true:=QH hn;simp only[ZZ,Gk,GA,b1,b2,Q0,Q1,cond_true,Ge]
 ·obtain⟨c1,c2⟩:=zEM h4;rw[ZB (by rw[hlen];omega),List.map_take,c2,hlen,List.take_take,G3,G3,Gi hn]
def stepL (T:List U3)(s n:Int):Int:=(((T.getD s.toNat default).parts.take n.toNat).map fun p=>((yO T p.toNat).length:Int)).sum
def zNn:U1:=(oV (oR [oB .lss 39 38 37]) (oV (oT 39 0) (oV (o5 1 (oV (oR [oI 1 40 36 38,oL 41 40,oM 11 41]) (oV (oR [oM 43 0,oM 44 11,o2 45 80 43 44,oM 42 45,oE 46 42 0,oE 47 42 1,oM 12 46,oM 13 47]) (oR [oM 48 6,oM 49 12,oQ 50 49,oB .add 51 48 50,oM 6 51])))) (oR [oC .add 52 38 1,oM 38 52]))))
def zT7:U1:=(oV (oR [oN 6 0,oN 7 0]) (oV (oV (oR [oM 15 0,oM 16 1,oM 17 2,o3 18 137 15 16 17,oM 14 18,oE 19 14 0,oE 20 14 1,oM 8 19,oM 9 20]) (oV (oR [oM 21 9,oC .neq 22 21 0]) (oJ 22 (oV (oR [oM 23 9,oN 6 0,oM 7 23]) .ret) .skip))) (oV (oV (oR [oM 24 0,oM 25 1,oI 4 26 24 25,oF 0 27 26,oL 28 27,oD .eql 29 28 5]) (oJ 29 (oV (oR [oN 6 0,oN 7 0]) .ret) .skip)) (oV (oV (oR [oM 30 0,oM 31 1,oI 4 32 30 31,oF 3 33 32,oL 34 33,oM 35 2,⟨some 36,none,(.slice 1 (.tmp 34) none (some (.tmp 35)) none)⟩,oQ 37 36,oN 38 0]) (o5 0 (.loop zNn))) (oV (oR [oM 53 6,oM 6 53,oN 7 0]) .ret)))))
theorem zNY (h:U0)(vt:Value)(T:List U3)(k n:Int)(st:Ws h vt T)(hT:T.length<=100)(hp:∀ x∈T,x.parts.length<=100)(hc:yo T=0)(hk:0<=k/\k<(T.length:Int))(h4:(T.getD k.toNat default).kind=4)(hn:0<=n/\n<((T.getD k.toNat default).parts.length:Int))(hm:h.mark<=h.n):
  WC Tryz.prog tb 86 [vt,I k,I n] h fun r h'=>(∃ e,r= .tuple #[I (stepL T k n),e])/\U6 h h':=by
 have hmy:=zBS hc hk.1 hk.2;have hp4:=zFH hmy h4;have hlow:=zC9 hc;refine en 54 [(6,none),(7,none)] zT7 ?_;refine VA (zNr h vt T k n st hT hp hc hk h4 hn) ?_;rintro _ h2 ⟨rfl,e2⟩;have st2:=Ws.ext st e2;obtain⟨cs,⟨va,rfl,sa,hla⟩,pc,hs⟩:=ZQ (i:=k.toNat) st2 (by omega);obtain⟨t1,t2,t3,rfl⟩:=zG st2;have hsteq:stepL T k n=(((T.getD k.toNat default).parts.take n.toNat).map fun p=>((yO T p.toNat).length:Int)).sum:=rfl;rw[hsteq];have hfl:∀ p∈(T.getD k.toNat default).parts,(0<=p/\p<(T.length:Int))/\(yO T p.toNat).length<=32:=fun p hpp=>by
  have h1:=hp4.2 p hpp;have h2:=hlow p.toNat (by omega);exact⟨by omega,QO (zCx (p.toNat+1) p.toNat (Q7 _) fun j hj=>(hlow j (by omega)).1) h2.2⟩
 clear hsteq;generalize T.getD k.toNat default=x at *;obtain⟨a1,a2,a3,rfl⟩:=WW.shape sa;have hp8:=hp4.1;clear hp4;obtain⟨w,hw,sw⟩:=zPh (n:=n.toNat) sa (by omega) (by omega);have hwl:(x.parts.take n.toNat).length=n.toNat:=by rw[GB];omega
 have hfl':∀ p∈x.parts.take n.toNat,(0<=p/\p<(T.length:Int))/\(yO T p.toNat).length<=32:=fun p hpp=>hfl p (GJ hpp);obtain⟨m,rfl⟩:∃ m:Nat,n=m:=⟨n.toNat,by omega⟩;rw[QU]at *;generalize x.parts.take m=l at *;replace hfl:=WY.mk hfl;replace hfl':=WY.mk hfl';replace hlow:=WY.mk hlow;obtain⟨w1,w2,w3,rfl⟩:=WW.shape sw;refine go ?_;refine Vt hw ?_;refine go ?_;refine VD [39,40,41,11,43,44,45,42,46,47,12,13,48,49,50,51,6,52,38] (by kernel_rfl) (fun i=>l.length - i) (fun i t h3=>zB t 38=I i/\i<=l.length/\U6 h2 h3/\zB t 6=I ((l.take i).map fun p=>((yO T p.toNat).length:Int)).sum/\0<=((l.take i).map fun p=>((yO T p.toNat).length:Int)).sum/\((l.take i).map fun p=>((yO T p.toNat).length:Int)).sum<=32 * i) 0 ?_ ?_
 ·exact⟨U8,QS _,U6.refl _,U8,by simp,by simp⟩
 rintro i t h3 hsame ⟨s38,hi,e3,s6,hb0,hb1⟩;have sw3:=sw.ext e3;refine go ?_;refine VE (fun hc'=> ?_) (fun hc'=> ?_)<;>simp only[DB]at hc'
 ·have hi':i<l.length:=by omega
  have hx:=hfl'.out _ (zc hi');have hsn:((l.take (i+1)).map fun p=>((yO T p.toNat).length:Int)).sum=((l.take i).map fun p=>((yO T p.toNat).length:Int)).sum+((yO T (l.getD i 0).toNat).length:Int):=by
   rw[Q4,QB hi',Q9,Gu];congr 1;simp[List.getD,QB hi']
  have e23:=e2.trans e3;refine go ?_;refine VA (zDB h3 _ T (l.getD i 0) (Ws.ext st e23) hT hp hc hx.1 (by rw[e23.mark];exact QO hm e23.n)) ?_;rintro _ h4 ⟨⟨v,rfl,ov⟩,e4⟩;have sv:=ov.sl;obtain⟨v1,v2,v3,rfl⟩:=WW.shape sv;generalize ((l.take i).map fun p=>((yO T p.toNat).length:Int)).sum=a at *;refine go ?_;exact zA (i+1) (by omega) ⟨Wu,by omega,e3.trans e4,by rw[hsn];exact U8,by rw[hsn];omega,by rw[hsn];omega⟩
 ·have hii:i=l.length:=by omega
  subst hii;rw[Qx]at *;refine gr ?_;exact⟨⟨_,rfl⟩,e2.trans e3⟩
structure We where
 kind:Int
 to:Int
 frm:Int
 n:Int
 args:List Int
instance:Inhabited We:=⟨⟨0,0,0,0,[]⟩⟩
def RCn (h:U0)(cs:List Value)(x:We):Prop:=∃ va,cs=[.int .u8 x.kind,I x.to,I x.frm,I x.n,va]/\WK h va x.args/\x.args.length<=1000
theorem RCn.ext {h h' cs x}(r:RCn h cs x)(e:U6 h h'):RCn h' cs x:=let ⟨va,a,b,c⟩:=r;⟨va,a,b.ext e,c⟩
abbrev SlO (h:U0)(v:Value)(l:List We):Prop:=Wz 5 RCn h v l
theorem SlO.ext {h h' v l}(s:SlO h v l)(e:U6 h h'):SlO h' v l:=Wz.ext (fun _ _ r=>RCn.ext r e) s e
def Wy (T:List U3)(t:Int):Bool:=decide ((T.getD t.toNat default).kind=1)
def YB (T:List U3)(F:List WR)(f:Int):List Int:=(yL T F f).parts++(zM F f).flatMap fun b=>b.ins.map fun x=>x.ty
def YI (T:List U3)(f r:Int):List Wo->Int->List Int->Int×List Int
 |[],a,l=>(a,l)
 |s::S,a,l=>if s.fn=f/\s.nr=r then (a+l.length,yO T s.ty.toNat) else YI T f r S (a+l.length) (yO T s.ty.toNat)
section
variable (T:List U3)(F:List WR)(f:Int)(ks:List Int)(r:Int)
def Wc (q:Int):Int:=((zk T F).take f.toNat).sum+q
def zKT (b:Int)(l:List Int):List We:=(List.range l.length).flatMap fun (i:Nat)=>if Wy T (l.getD i 0) then [] else [⟨1,b+i,0,0,[]⟩]
def zGA (g:Int)(ps us:List Int):List We:=(List.range ps.length).flatMap fun (i:Nat)=>if Wy T (ps.getD i 0) then [] else [⟨2,Wc T F g i,Wc T F f (us.getD i 0),0,[]⟩]
def zN8 (us:List Int):List We:=(List.range us.length).flatMap fun (i:Nat)=>[⟨2,Wc T F f r,Wc T F f (us.getD i 0),0,[]⟩]
def zFT (q:Int×List Int):List We:=⟨1,Wc T F f r,0,1+F.length+q.1,[]⟩::zKT T (zl T F+F.length+q.1) q.2
def Zw (x:Wd):List We:=
 if x.op=2\/x.op=3 then [⟨1,Wc T F f r,0,if x.op=3 then x.n+1 else 0,[]⟩]
 else if x.op=11\/x.op=12 then zFT T F f r (YI T f r (zh T F) 0 [])
 else if x.op=14\/x.op=15 then [⟨3,Wc T F f r,Wc T F f x.a,if x.op=14 then stepL T (T.getD (ks.getD x.a.toNat 0).toNat default).elem x.n else 0,[]⟩]
 else if x.op=16 then (if Wy T x.ty then [] else [⟨4,Wc T F f r,Wc T F f x.a,0,[]⟩])
 else if x.op=17 then (if Wy T (ks.getD x.b.toNat 0) then [] else [⟨5,Wc T F f x.a,Wc T F f x.b,0,[]⟩])
 else if x.op=18 then zGA T F f x.n (yL T F x.n).parts x.args++(if Wy T x.ty then [] else [⟨2,Wc T F f r,zl T F+x.n,0,[]⟩])
 else if x.op=19 then [⟨6,Wc T F f r,Wc T F f x.a,0,x.args.map (Wc T F f)⟩]
 else if x.op=22 then (if Wy T x.ty then [] else zN8 T F f r x.args)
 else []
end
def zIn (T:List U3)(F:List WR)(f:Int)(B:WT):List We:=
 if B.fin.kind=3 then (if Wy T (yL T F f).elem then [] else [⟨2,zl T F+f,Wc T F f B.fin.a,0,[]⟩]) else []
def zGG (T:List U3)(F:List WR)(f r:Int)(l:List Wd):List We:=(List.range l.length).flatMap fun (i:Nat)=>Zw T F f (YB T F f) (r+i) (l.getD i default)
def consB (T:List U3)(F:List WR)(f:Int)(L:List WT)(n:Nat):List We:=(List.range n).flatMap fun (b:Nat)=>zGG T F f ((yL T F f).parts.length+zJ (L.take b)) (L.getD b default).ins++zIn T F f (L.getD b default)
def zAd (T:List U3)(F:List WR)(n:Nat):List We:=(List.range n).flatMap fun (f:Nat)=>consB T F f (zM F f) (zM F f).length
def zBD (T:List U3)(F:List WR):List We:=if zd T F=0 then zAd T F F.length else []
theorem Z7 {α:Type}(g:Nat->List α)(n:Nat):(List.range (n+1)).flatMap g=(List.range n).flatMap g++g n:=by
 rw[Gx,List.flatMap_append];simp
structure CI (T:List U3)(F:List WR)(ks:List Int)(x:Wd):Prop where
 op:0<=x.op/\x.op<=22
 n3:x.op=3->0<=x.n/\x.n<(F.length:Int)
 a14:x.op=14\/x.op=15\/x.op=16\/x.op=17\/x.op=19->0<=x.a/\x.a<(ks.length:Int)
 k14:x.op=14->∃ s,(T.getD (ks.getD x.a.toNat 0).toNat default).elem=s/\(0<=ks.getD x.a.toNat 0/\ks.getD x.a.toNat 0<(T.length:Int))/\(0<=s/\s<(T.length:Int))/\(T.getD s.toNat default).kind=4/\0<=x.n/\x.n<((T.getD s.toNat default).parts.length:Int)
 ty:x.op=16\/x.op=18\/x.op=22->0<=x.ty/\x.ty<(T.length:Int)
 b17:x.op=17->(0<=x.b/\x.b<(ks.length:Int))/\0<=ks.getD x.b.toNat 0/\ks.getD x.b.toNat 0<(T.length:Int)
 c18:x.op=18->(0<=x.n/\x.n<(F.length:Int))/\(yL T F x.n).parts.length=x.args.length/\(0<=(F.getD x.n.toNat default).sig/\(F.getD x.n.toNat default).sig<(T.length:Int))/\∀ t∈(yL T F x.n).parts,0<=t/\t<(T.length:Int)
 args:x.op=18\/x.op=19\/x.op=22->∀ a∈x.args,0<=a/\a<(ks.length:Int)
 al:x.args.length<=20
theorem zSe:(zW 14).1=true/\(zW 15).1=true/\(zW 16).1=true/\(zW 17).1=true/\(zW 19).1=true/\(zW 17).2.1=true/\(zW 18).2.2.2.1=true/\(zW 19).2.2.2.1=true/\(zW 22).2.2.2.1=true/\(zW 14).2.1=false/\(zW 14).2.2.2.1=false/\(zW 18).1=false/\(zW 18).2.1=false/\(zW 19).2.1=false/\(zW 22).1=false/\(zW 22).2.1=false:=by decide
theorem zPg {T:List U3}{F:List WR}{f:Int}{i:Nat}(h:(W0 T F f).getD i 0≠ -1):(YB T F f).getD i 0=(W0 T F f).getD i 0/\(YB T F f).length=(W0 T F f).length:=by
 have key:∀ (L:List WT),(L.flatMap fun b=>b.ins.map fun x=>x.ty).length=(yn L).length/\∀ j,(yn L).getD j 0≠ -1->(L.flatMap fun b=>b.ins.map fun x=>x.ty).getD j 0=(yn L).getD j 0:=by
  intro L;have h1:yn L=(L.flatMap fun b=>b.ins).map Zs:=by unfold yn;rw[List.map_flatMap]
  have h2:(L.flatMap fun b=>b.ins.map fun x=>x.ty)=(L.flatMap fun b=>b.ins).map fun x=>x.ty:=by rw[List.map_flatMap]
  rw[h1,h2];refine⟨by simp,fun j hj=> ?_⟩;generalize (L.flatMap fun b=>b.ins)=l at *;simp only[QK,GU]at *;cases hx:l[j]? with
  |none=>rfl
  |some x=>
   rw[hx]at hj;simp only[QL,GA]at *;unfold Zs at *;split
   ·rfl
   ·rename_i q;rw[QC q]at hj;exact absurd rfl hj
 unfold W0 zAt at h |-;unfold YB;refine⟨?_,by rw[QM,QM,(key _).1]⟩;by_cases q:i<(yL T F f).parts.length
 ·rw[zBa q,zBa q]
 ·rw[zAj (by omega)]at h;rw[zAj (by omega),zAj (by omega)];exact(key (zM F f)).2 _ h
theorem zKr (T:List U3)(F:List WR)(f:Int):(YB T F f).length=(W0 T F f).length:=by
 unfold YB W0 zAt yn;simp
theorem zNa {T:List U3}{F:List WR}(hs:zd T F=0){f:Nat}(hf:f<F.length){b:Nat}(hb:b<(zM F f).length){i:Nat}(hi:i<((zM F f).getD b default).ins.length):
  CI T F (YB T F f) (((zM F f).getD b default).ins.getD i default):=by
 obtain⟨hp,hw⟩:=z8 hs;have Z:=zBe hp (f:=(f:Int)) (by omega);have W:=(hw f (by omega) (by omega)).2.2 b (by omega) (by omega);have h1:=W.1 i (by rw[QU];exact hi);have hBm:(zM F f).getD b default∈zM F f:=zI hb;have hV:=Z.V _ hBm _ (zI hi);have hU:=(Z.U _ hBm).ins _ (zI hi);have hc:=Z.hc;have hraw:= @zPg T F f;have hlen:=zKr T F f;have hks:=Z.ks;unfold YE zE6 at h1;rw[QU]at h1;obtain⟨g1,g2,-,-⟩:=h1;generalize ((zM F f).getD b default).ins.getD i default=x at *;have hnone:∀ r∈zi x,(W0 T F f).getD r.toNat 0≠ -1:=fun r hr e=>g1 (Qt.2 ⟨r,hr,e⟩);have hus:∀ r∈zi x,(0<=r/\r<((YB T F f).length:Int))/\(YB T F f).getD r.toNat 0=(W0 T F f).getD r.toNat 0/\0<=(YB T F f).getD r.toNat 0/\(YB T F f).getD r.toNat 0<(T.length:Int):=fun r hr=>by
  have h1:=hU.uses r hr;have h2:=hraw (hnone r hr);have h3:=hks _ (zc (l:=W0 T F f) (i:=r.toNat) (by omega));refine⟨by omega,h2.1,?_⟩;rw[h2.1];exact h3.resolve_left (hnone r hr)
 obtain⟨u14,u15,u16,u17,u19,v17,w18,w19,w22,z14,z14',z18,z18',z19,z22,z22'⟩:=zSe;have ha:x.op=14\/x.op=15\/x.op=16\/x.op=17\/x.op=19->x.a∈zi x:=fun h=>by
  unfold zi;have:(zW x.op).1=true:=by rcases h with e|e|e|e|e<;>rw[e]<;>assumption
  rw[QJ this];simp
 have hbb:x.op=17->x.b∈zi x:=fun e=>by
  unfold zi;rw[e,QJ v17];simp
 have har:x.op=18\/x.op=19\/x.op=22->∀ a∈x.args,a∈zi x:=fun h a hm=>by
  unfold zi;have:(zW x.op).2.2.2.1=true:=by rcases h with e|e|e<;>rw[e]<;>assumption
  rw[QJ this];simp[hm]
 refine⟨⟨by have:=hU.op;omega,hU.op.2⟩,fun e=>hV.n2 (.inl e),fun e=>(hus _ (ha e)).1,fun e=> ?_,fun e=> ?_,fun e=>⟨(hus _ (hbb e)).1,(hus _ (hbb e)).2.2⟩,fun e=> ?_,fun e a hm=>(hus _ (har e a hm)).1,hU.args⟩
 ·have hx:=hus _ (ha (.inl e));have hu:zi x=[x.a]:=by unfold zi;rw[e,QJ u14,z14,z14'];rfl
  rw[hu]at g2;unfold zAn zHL at g2;simp only[e,Zg,Qm,Gf]at g2;simp at g2;(try simp only[<-QK]at g2);obtain⟨g3,g4⟩:=g2;rw[<-hx.2.1]at g3 g4;have hin:BG T ((YB T F f).getD x.a.toNat 0):= .inr hx.2.2;have h5:=zEN hc hin;have h6:=zGO g3;refine⟨_,rfl,hx.2.2,?_⟩;have h7:BI T ((YB T F f).getD x.a.toNat 0)=(T.getD ((YB T F f).getD x.a.toNat 0).toNat default).elem:=by
   unfold BI at h6 |-;split
   ·rfl
   ·rename_i q;rw[QC q]at h6;exact absurd rfl h6
  unfold zE8 YR at g4;rw[h7]at g3 g4 h5 h6;refine⟨h5.resolve_left h6,?_,hV.n14 e,?_⟩
  ·unfold Wp at g3;simp only[QF,QW]at g3;exact g3.2
  ·have hk5:Wp T 5 (T.getD ((YB T F f).getD x.a.toNat 0).toNat default).elem=false:=by
    unfold Wp at g3 |-;simp only[QF,QW]at g3;rw[g3.2];simp
   rw[QC h6,g3,hk5]at g4;refine Gt fun hn=> ?_;rw[Qc hn]at g4;simp at g4
 ·have hin:=hV.ty;refine hin.resolve_left fun e1=> ?_;unfold zAn zHL at g2;rcases e with e|e|e
  ·simp[e]at g2;(try simp only[<-QK]at g2);have h1:=g2.1;rw[<-g2.2,e1]at h1;unfold zCj Wp at h1;simp at h1
  ·simp[e]at g2;have hn:=hV.n2 (.inr e);have Zn:=zBe hp (f:=x.n) hn;unfold zDH sigF at g2;simp only[QF,QW]at g2;(try simp only[<-QK]at g2);have h2:=Zn.el;unfold yL PlT at h2;rw[g2.2]at h2;omega
  ·simp[e]at g2;rw[e1]at g2;unfold zCj Wp at g2;simp at g2
 ·have hn:=hV.n2 (.inr e);have Zn:=zBe hp (f:=x.n) hn;have hu:zi x=x.args:=by unfold zi;rw[e,z18,z18',w18];simp
  rw[hu]at g2;unfold zAn zDH sigF at g2;simp[e]at g2;(try simp only[<-QK]at g2);refine⟨hn,?_,Zn.sig,fun t ht=> ?_⟩
  ·unfold yL;rw[g2.1.2];unfold Zg;simp
  ·have:=Zn.par t ht;unfold PlT at this;omega
set_option maxRecDepth 100000
section
variable {P:Program}{tab:Wg}{t:U5 Value}{h:U0}{ds:List Deferred}{rd:Option Nat}{l:List U2}{Q:WB->U0->Prop}
theorem Ui {α:Type}{c b d2 gl:Nat}{R:U0->List Value->α->Prop}{hB:U0}{v:Value}{xs:List α}{cs:List Value}(a:α)(Dn:Nat->Prop){x y:Operand}(o:WP c R b h v xs)(e0:U6 hB h)(hb:hB.n<=b)(hbn:b<=h.n)(hc0:0<c)(hl:xs.length<=100000)
  (d:Bl R h cs a Dn) (hD:∀ k,Dn k->b<=k/\k<h.n) (hv:∀ g n k,v= .slice (some ⟨g,0,none⟩) n k->¬Dn g) (hc:cs.length=c) (h1:zK cs=true) (hg:h.get gl=some (.row cs true 0)) (hgl:gl<h.n)
  (k:∀ v' h',U6 hB h'->WP c R b h' v' (xs++[a])->h.n<=h'.n->(∀ k,k<h.n->(∀ n k',v≠ .slice (some ⟨k,0,none⟩) n k')->h'.get k=h.get k)->(∀ k∈h'.wr,k∈h.wr\/b<=k)->zAU h v'->WO P tab l ⟨t.set d2 v',ds,rd⟩ h' Q)
  (hx:WG t x v:=by exact zo) (hy:WG t y (.slice (some ⟨gl,0,none⟩) 1 c):=by exact zo):
  WO P tab (⟨some d2,none,.append c x y⟩::l) ⟨t,ds,rd⟩ h Q:=by
 have hx:ev t x=v:=hx;have hy:ev t y= .slice (some ⟨gl,0,none⟩) 1 c:=hy;obtain⟨v',H',q1,q2,q3,q4,q5,q6,q7,q8,n',k',g',q9,q10⟩:=Y5 (H:=h) (gl:=gl) o hc hc0 h1 hl hbn d hD hv (QE _) hgl (fun _ _=>rfl) hg;refine WO.op v' H' rfl (by simp only[WA,hx,hy,q1]) (k v' H' ?_ q2 (by rw[q3];exact GV _) q4 q6 fun j hj=>by subst q9;cases hj;exact q10);have hvb:∀ k,k<hB.n->∀ n k',v≠ .slice (some ⟨k,0,none⟩) n k':=fun k hk n k' e=>by
  rcases o with ⟨e2,_⟩|⟨g,_,_,g1,_,e2,_⟩
  ·rw[e2]at e;cases e
  ·rw[e2]at e;cases e;omega
 have hn:=e0.n;exact⟨by rw[q3];omega,fun k hk=>by rw[q4 k (by omega) (hvb k hk)];exact e0.get k hk,fun w=>q8 (e0.wf w),q5.trans e0.mark,fun hm=>by rw[q7 (by rw[e0.mark];omega)];exact e0.wr hm⟩
end
theorem yw {α:Type}{c b:Nat}{R:U0->List Value->α->Prop}{h:U0}{v:Value}{xs:List α}(o:WP c R b h v xs):∀ g,Bj v=some g->b<=g/\g<h.n:=fun g hg=>by
 rcases o with ⟨rfl,_⟩|⟨g,_,_,g1,g2,rfl,_⟩
 ·cases hg
 ·cases hg;exact⟨g1,g2⟩
def zT3:U1:=(oR [oL 3 1,oM 4 0,oY 5 5 3 4,oS 1 1 5])
theorem zKH (hB h:U0)(b gl:Nat)(po vO:Value)(out:List We)(x:We)(cs:List Value)(Dn:Nat->Prop)(e:U6 hB h)(hb:hB.n<=b)(hbn:b<=h.n)(oo:U4 hB h po [vO])(pb:∀ g,Bj po=some g->g<b)(oO:WP 5 RCn b h vO out)(hl:out.length<=100000)
  (d:Bl RCn h cs x Dn) (hD:∀ k,Dn k->b<=k/\k<h.n) (hv:∀ g n k,vO= .slice (some ⟨g,0,none⟩) n k->¬Dn g) (hc:cs.length=5) (h1:zK cs=true) (hg:h.get gl=some (.row cs true 0)) (hgl:gl<h.n):
  WC Tryz.prog tb 26 [.slice (some ⟨gl,0,none⟩) 1 5,po] h fun r h'=>∃ vO',U6 hB h'/\U4 hB h' po [vO']/\WP 5 RCn b h' vO' (out++[x])/\WN po vO h h' vO'/\∀ k∈h'.wr,k∈h.wr\/hB.n<=k:=by
 obtain⟨v1,v2,v3,hvO⟩:∃ a n k,vO= .slice a n k:=by
  rcases oO with ⟨rfl,_⟩|⟨g,_,_,_,_,rfl,_⟩
  ·exact⟨_,_,_,rfl⟩
  ·exact⟨_,_,_,rfl⟩
 subst hvO;have hpo:=oo.within;refine en 6 [] zT3 ?_;refine Ui x Dn oO e hb hbn (by decide) hl d hD hv hc h1 hg hgl ?_;intro v' h2 e2 o2 n2 k2 w2 s2;have oo2:U4 hB h2 po [.slice v1 v2 v3]:=by
  obtain⟨g,g1,g2,rfl,g3⟩:=oo;refine⟨g,g1,QG g2 n2,rfl,(k2 g g2 fun n k' e=> ?_).trans g3⟩;have h1:=pb g rfl;have h2:=(yw oO g (by rw[e];rfl)).1;omega
 obtain⟨a1,a2,a3,rfl⟩:∃ a n k,v'= .slice a n k:=by
  rcases o2 with ⟨rfl,_⟩|⟨g,_,_,_,_,rfl,_⟩
  ·exact⟨_,_,_,rfl⟩
  ·exact⟨_,_,_,rfl⟩
 refine go ?_;refine Xf (cs:=[.slice a1 a2 a3]) oo2 e2 ?_;intro h3 e3 o3 u3 w3;refine go ?_;refine W9 ?_;refine⟨_,e3,o3,?_,⟨QO n2 u3.1,fun g hg h1 h2=> ?_,fun k hk=> .inr (s2 k hk)⟩,fun k hk=> ?_⟩
 ·refine WP.upd o2 (fun k k1 k2=>u3.2 k k2 fun e=> ?_) u3.1;have:=pb k (by rw[e];rfl);omega
 ·rw[u3.2 g (QG hg n2) fun e=>h1 (by rw[e];rfl),k2 g hg fun n k' e=>h2 (by rw[e];rfl)]
 ·rcases w3 k hk with h|h
  ·rcases w2 k h with h|h
   ·exact .inl h
   ·exact .inr (by omega)
  ·exact .inr h
theorem ye {h0 h:U0}{p:Value}{cs:List Value}(k:Nat)(o:U4 h0 h p cs):U4 h0 (inC (zC k h)) p cs:=by
 have:=o.ext (zQ k h);exact this
theorem YU {h:U0}{v:Value}{l:List Int}(k:Nat)(s:WK h v l):WK (inC (zC k h)) v l:=by
 have:=s.ext (zQ k h);exact this
theorem zJJ {h:U0}{v:Value}{l:List U3}(k:Nat)(s:Ws h v l):Ws (inC (zC k h)) v l:=by
 have:=Ws.ext s (zQ k h);exact this
structure CE (hB:U0)(b:Nat)(vt vf pu po vS vR:Value)(T:List U3)(F:List WR):Prop where
 E:Env hB vt vf T F
 hs:zd T F=0
 hm:hB.mark<=hB.n
 bn:hB.n<=b
 bu:∀ g,Bj pu=some g->g<b
 bo:∀ g,Bj po=some g->g<b
 bS:∀ g,Bj vS=some g->g<b
 bR:∀ g,Bj vR=some g->g<b
 uo:WI pu po
 uS:WI pu vS
 uR:WI pu vR
 oS:WI po vS
 oR:WI po vR
def Ze (po:Value):Value:= .func (.func 26) #[] #[po]
structure CM (hB h:U0)(b:Nat)(vt vf pu po vS vR:Value)(T:List U3)(F:List WR)(vK vO:Value)(ks:List Int)(f r:Int)(out:List We):Prop where
 e:U6 hB h
 hb:b<=h.n
 ou:U4 hB h pu [vt,vf,vS,vR,I (zl T F),vK,I f,I r,Ze po]
 oo:U4 hB h po [vO]
 oS:WP 3 RSt hB.n h vS (zh T F)
 oR:WH hB h vR ((List.range F.length).map fun i=>((zk T F).take i).sum)
 oK:WH hB h vK ks
 oO:WP 5 RCn b h vO out
 kb:∀ g,Bj vK=some g->b<=g
 ko:WI vO vK
section
variable {hB h h':U0}{b:Nat}{vt vf pu po vS vR vK vO vO':Value}{T:List U3}{F:List WR}{ks:List Int}{f r:Int}{out:List We}{x:We}
theorem CM.ext (M:CM hB h b vt vf pu po vS vR T F vK vO ks f r out)(e:U6 h h'):CM hB h' b vt vf pu po vS vR T F vK vO ks f r out:=
 ⟨M.e.trans e,QO M.hb e.n,M.ou.ext e,M.oo.ext e,WP.ext M.oS e,M.oR.ext e,M.oK.ext e,WP.ext M.oO e,M.kb,M.ko⟩
theorem Yq {h0:U0}{v w w' p:Value}{l:List Int}(o:WH h0 h v l)(k:WN p w h h' w')(d1:WI p v)(d2:WI w v):WH h0 h' v l:=by
 rcases o with o|⟨g,g1,g2,rfl,g3⟩
 ·exact .inl o
 ·exact .inr ⟨g,g1,QG g2 k.1,rfl,(k.2.1 g g2 (fun e=>d1 g e rfl) fun e=>d2 g e rfl).trans g3⟩
theorem zLy {n:Nat}{v w w' p:Value}{l:List Wo}(o:WP 3 RSt n h v l)(k:WN p w h h' w')(d1:WI p v)(d2:WI w v):WP 3 RSt n h' v l:=by
 rcases o with o|⟨g,cells,D,g1,g2,rfl,g4,g5,g6,g7,g8⟩
 ·exact .inl o
 ·exact .inr ⟨g,cells,fun _=>False,g1,QG g2 k.1,rfl,(k.2.1 g g2 (fun e=>d1 g e rfl) fun e=>d2 g e rfl).trans g4,g5,fun h=>h,fun k h=>h.elim,fun i a ha=>fun _ _ _=>(g8 i a ha).self⟩
theorem CM.add (M:CM hB h b vt vf pu po vS vR T F vK vO ks f r out)(C:CE hB b vt vf pu po vS vR T F)(k:WN po vO h h' vO')(e:U6 hB h')(oo:U4 hB h' po [vO'])(oO:WP 5 RCn b h' vO' (out++[x])):
  CM hB h' b vt vf pu po vS vR T F vK vO' ks f r (out++[x]):=by
 have hO:=yw M.oO;have low:∀ {v},(∀ g,Bj v=some g->g<b)->WI vO v:=fun hv g h1 h2=>by
  have:=hv g h2;have:=(hO g h1).1;omega
 have poK:WI po vK:=fun g h1 h2=>by
  have:=C.bo g h1;have:=M.kb g h2;omega
 refine⟨e,QO M.hb k.1,(VO M.ou k C.uo.symm (low C.bu)).1,oo,zLy M.oS k C.oS (low C.bS),Yq M.oR k C.oR (low C.bR),Yq M.oK k poK M.ko,oO,M.kb,fun g h1 h2=> ?_⟩;rcases k.2.2 g h1 with h|h
 ·exact M.ko g h h2
 ·have:=WH.within M.oK g h2;omega
end
section
variable {m N0:Nat}{cl:Bool}{K:U9->WB->U0->Prop}{t:U5 Value}{ds:List Deferred}{rd:Option Nat}
theorem WQ.add {hB hS X:U0}{b d1 d2 a2 a3:Nat}{a1:Option Addr}{vt vf pu po vS vR vK vO:Value}{T:List U3}{F:List WR}{ks:List Int}{f r:Int}{out:List We}{y z:Operand}{zero:List Value}(x:We)(Dn:Nat->Prop)(C:CE hB b vt vf pu po vS vR T F)(M:CM hB hS b vt vf pu po vS vR T F vK vO ks f r out)(eX:U6 (Am.inC (zC 1 hS)) X)(hl:out.length<=100000)
  (d:Bl RCn X [.int .u8 x.kind,I x.to,I x.frm,I x.n,.slice a1 a2 a3] x Dn) (hD:∀ k,Dn k->hS.n<k/\k<X.n)
  (k:∀ H vO' t',zCw [d1,d2] t t'->CM hB H b vt vf pu po vS vR T F vK vO' ks f r (out++[x])->WN po vO hS H vO'->K .normal ⟨t',ds,rd⟩ H)
  (hx:WG t y (.agg #[.int .u8 x.kind,I x.to,I x.frm,I x.n,.slice a1 a2 a3]):=by exact zo) (hz:zero.length=5:=by rfl) (hf:∀ u,WG (t.set d1 u) z (Ze po):=by intro u;exact zo) (hm0:m=hS.mark:=by rfl):
  WQ Tryz.prog tb m N0 [(⟨some d1,none,.buildSlice 1 5 zero [(0,5,y)]⟩,[]),(⟨some d2,none,.call z [.tmp d1]⟩,[])] hS.n cl ⟨t,ds,rd⟩ (Am.inC X) (Bp K hS):=by
 subst hm0;have hx:ev t y= .agg #[.int .u8 x.kind,I x.to,I x.frm,I x.n,.slice a1 a2 a3]:=hx;have hw:(Value.agg #[.int .u8 x.kind,I x.to,I x.frm,I x.n,.slice a1 a2 a3]).cells=[Value.int .u8 x.kind,I x.to,I x.frm,I x.n,.slice a1 a2 a3].toArray:=by rfl
 have hfill:=Yz (c:=5) (zero:=zero) hw rfl hz;have hnX:hS.n+1<=X.n:=eX.n;have e0:=M.e;have hBn:=e0.n;have hbS:=M.hb;have hbB:=C.bn;have hmk:hS.mark<=hB.n:=by rw[e0.mark];exact C.hm
 rw[WQ,QJ (show Nat.beq (zE (Wl.buildSlice 1 5 zero [(0,5,y)])) 3=true from rfl)];refine⟨rfl,.inl ⟨rfl,by omega,.row [.int .u8 x.kind,I x.to,I x.frm,I x.n,.slice a1 a2 a3] true 0,_,by simp only[yb,zn,Qm,Gf,hx];rw[hfill];rfl,?_⟩⟩;generalize hH1:(Am.inC (Am.inC X)).lay hS.n (.row [.int .u8 x.kind,I x.to,I x.frm,I x.n,.slice a1 a2 a3] true 0)=H1;have n1:H1.n=X.n:=by rw[<-hH1];rfl
 have get1:∀ c',H1.get c'=if c'=hS.n then some (.row [.int .u8 x.kind,I x.to,I x.frm,I x.n,.slice a1 a2 a3] true 0) else X.get c':=fun c'=>by rw[<-hH1];exact zR _ _ _ _
 have getX:∀ k,k<hS.n->X.get k=hS.get k:=fun k hk=>eX.get k (by show k<hS.n+1;omega);have getS:∀ k,k<hS.n->H1.get k=hS.get k:=fun k hk=>by rw[get1,QC (by omega),getX k hk]
 have oX1:WP 5 RCn b (Am.inC H1) vO out:=M.oO.upd (fun k _ hk=>getS k hk) (by show hS.n<=H1.n;omega);have d1':Bl RCn (Am.inC H1) [.int .u8 x.kind,I x.to,I x.frm,I x.n,.slice a1 a2 a3] x Dn:=d.mono (fun _ h=>h) (fun k o hd e=>by
  show H1.get k=_;have:=hD k hd;rw[get1,QC (by omega)];exact e) (by show X.n<=H1.n;omega)
 have E1:U6 {hB with mark:=H1.n,wr:=[]} (Am.inC H1):=⟨by show hB.n<=H1.n;omega,fun g hg=>(getS g (QG hg hBn)).trans (e0.get g hg),fun w g hg=>by
  have hg:H1.n<=g:=hg;show H1.get g=none;rw[get1,QC (by omega)];exact eX.wf (fun q hq=>e0.wf w q (by have hq:hS.n+1<=q:=hq;omega)) g (by omega),rfl,fun _=>rfl⟩
 have oo1:U4 {hB with mark:=H1.n,wr:=[]} (Am.inC H1) po [vO]:=by
  obtain⟨g,g1,g2,g3,g4⟩:=M.oo;exact⟨g,g1,by show g<H1.n;omega,g3,(getS g g2).trans g4⟩
 rw[WQ,QC (show ¬Nat.beq (zE (Wl.call z [.tmp d1])) 3=true from Bool.noConfusion)];refine VN (WV.func (args:=[.slice (some ⟨hS.n,0,none⟩) 1 5]) (first:=#[]) (cap:=#[po]) (zKH _ _ b hS.n po vO out x _ Dn E1 hbB (by show b<=H1.n;omega) oo1 C.bo oX1 hl d1' (fun k hd=>⟨by have:=hD k hd;omega,by have:=hD k hd;show k<H1.n;omega⟩) (fun g n k e hd=>by
  have h1:=(yw M.oO g (by rw[e];rfl)).2;have h2:=hD g hd;omega) rfl rfl (by show H1.get hS.n=_;rw[get1,QJ rfl]) (by show hS.n<H1.n;omega))) ?_ (hf _) (BH.cons (WG.tmp Wh.here) BH.nil)
 rintro _ h3 ⟨vO',e3,o3,oO3,k3,w3⟩;have hn3:H1.n<=h3.n:=k3.1;refine WO.nil ⟨⟨fun c' hc'=> ?_,hn3,.inl rfl⟩,?_⟩
 ·rcases w3 c' hc' with h|h
  ·cases h
  ·have h:hB.n<=c':=h;omega
 have kk:WN po vO hS (Am.yt hS h3) vO':=⟨by show hS.n<=h3.n;omega,fun g hg h1 h2=>(k3.2.1 g (by show g<H1.n;omega) h1 h2).trans (getS g hg),fun q hq=>by
  rcases k3.2.2 q hq with h|h
  ·exact .inl h
  ·exact .inr (by have h:H1.n<=q:=h;omega)⟩
 exact k _ vO' _ (fun j hj=>by
  simp only[zFr,QF,GZ]at hj;rw[zg,zg,QC (fun e=>by subst e;simp at hj),QC (fun e=>by subst e;simp at hj)]) (M.add C kk ⟨e3.n,e3.get,fun w=>e3.wf w,e0.mark,fun hm=>e0.wr hm⟩ o3 (oO3.upd (fun _ _ _=>rfl) (QE _))) kk
end
set_option maxRecDepth 100000
def Bo (T:List U3)(F:List WR):List Int:=(List.range F.length).map fun i=>((zk T F).take i).sum
theorem zEA {T:List U3}{F:List WR}(hs:zd T F=0){f:Int}(hf:0<=f/\f<(F.length:Int)):f<((Bo T F).length:Int)/\(Bo T F).getD f.toNat 0=((zk T F).take f.toNat).sum/\0<=((zk T F).take f.toNat).sum/\((zk T F).take f.toNat).sum<=8000/\0<=zl T F/\zl T F<=8000:=by
 obtain⟨hb,hl,h1,h8⟩:=zDk hs;have h2:=Y8 (l:=(zk T F).take f.toNat) fun x hx=>hb x (GJ hx);have h3:=Y8 hb;have h4:((zk T F).take f.toNat).length<=f.toNat:=List.length_take_le _ _;unfold Bo zl;refine⟨by simp;omega,?_,by omega,by omega,by omega,by omega⟩;have:f.toNat<F.length:=by omega
 simp[List.getD,this]
section
variable {h h0 hB:U0}{b:Nat}{vt vf pu po vS vR vK vO av:Value}{T:List U3}{F:List WR}{ks:List Int}{f r A:Int}{out:List We}
def zTr:U1:=(oV (oR [oN 4 0]) (oV (o6 [oM 5 0,(⟨some 6,none,(.nilCheck (.tmp 5))⟩,[]),oF 3 7 6,oL 8 7,oM 9 0,(⟨some 10,none,(.nilCheck (.tmp 9))⟩,[]),oF 6 11 10,oL 12 11,oI 1 13 8 12,oL 14 13,oM 15 1,oB .add 16 14 15,oM 4 16]) .ret))
theorem y9 (ou:U4 h0 h pu [vt,vf,vS,vR,I A,vK,I f,I r,av])(sR:WK h vR (Bo T F))(hs:zd T F=0)(hf:0<=f/\f<(F.length:Int))(q:Int)(hq:0<=q/\q<=1000):
  WC Tryz.prog tb 30 [pu,I q] h fun x h'=>x=I (Wc T F f q)/\h=h':=by
 obtain⟨h1,h2,h3,h4,-⟩:=zEA hs hf;unfold Wc;rw[<-h2]at h3 h4 |-;generalize Bo T F=L at *;obtain⟨gu,_,_,rfl,_⟩:=id ou;obtain⟨r1,r2,r3,rfl⟩:=WW.shape sR;refine en 17 [(4,none)] zTr ?_;refine gr ?_;exact⟨rfl,rfl⟩
def zUL:U1:=(oV (oR [oZ 4]) (oV (oR [oM 5 0,⟨some 6,none,(.nilCheck (.tmp 5))⟩,oF 0 7 6,oF 0 8 7,oL 9 8,oM 10 1,oI 4 11 9 10,oF 0 12 11,oL 13 12,oD .eql 14 13 1,oM 4 14]) .ret))
theorem YL (ou:U4 h0 h pu [vt,vf,vS,vR,I A,vK,I f,I r,av])(st:Ws h vt T)(t:Int)(ht:0<=t/\t<(T.length:Int)):
  WC Tryz.prog tb 29 [pu,I t] h fun x h'=>x= .bool (Wy T t)/\h=h':=by
 unfold Wy;obtain⟨cs,⟨va,rfl,sa,hla⟩,pc,hs⟩:=ZQ (i:=t.toNat) st (by omega);obtain⟨gu,_,_,rfl,_⟩:=id ou;obtain⟨t1,t2,t3,rfl⟩:=zG st;obtain⟨a1,a2,a3,rfl⟩:=WW.shape sa;refine en 15 [(4,none)] zUL ?_;refine rt ?_;exact⟨rfl,rfl⟩
def zS9:U1:=(oV (oR [oN 4 0]) (oV (oR [oM 5 0,⟨some 6,none,(.nilCheck (.tmp 5))⟩,oF 5 7 6,oL 8 7,oM 9 1,oI 1 10 8 9,oL 11 10,oM 4 11]) .ret))
theorem zHu (ou:U4 h0 h pu [vt,vf,vS,vR,I A,vK,I f,I r,av])(sK:WK h vK ks)(q:Int)(hq:0<=q/\q<(ks.length:Int)):
  WC Tryz.prog tb 87 [pu,I q] h fun x h'=>x=I (ks.getD q.toNat 0)/\h=h':=by
 obtain⟨gu,_,_,rfl,_⟩:=id ou;obtain⟨k1,k2,k3,rfl⟩:=WW.shape sK;refine en 12 [(4,none)] zS9 ?_;refine rt ?_;exact⟨rfl,rfl⟩
def zOH:U1:=(oV (oR [oB .lss 10 9 8]) (oV (oT 10 0) (oV (o5 1 (oV (oR [oI 1 11 7 9,oL 12 11,oM 6 12]) (oR [oM 13 4,oM 14 0,oM 15 6,o2 16 30 14 15,⟨some 17,none,(.buildSlice 1 1 [(.int .i64 0)] [(0,1,(.tmp 16))])⟩,oY 1 18 13 17,oM 4 18]))) (oR [oC .add 19 9 1,oM 9 19]))))
def zS6:U1:=(oV (oR [oK 4 (.slice none 0 0)]) (oV (oV (oR [oM 7 1,oQ 8 7,oN 9 0]) (o5 0 (.loop zOH))) (oV (oR [oM 20 4,oM 4 20]) .ret)))
theorem zId (ou:U4 h0 h pu [vt,vf,vS,vR,I A,vK,I f,I r,av])(sR:WK h vR (Bo T F))(hs:zd T F=0)(hf:0<=f/\f<(F.length:Int))(va:Value)(us:List Int)(sa:WK h va us)(ha:∀ a∈us,0<=a/\a<=1000)(hl:us.length<=1000):
  WC Tryz.prog tb 88 [pu,va] h fun x h'=>WH h h' x (us.map (Wc T F f))/\U6 h h':=by
 obtain⟨a1,a2,a3,rfl⟩:=WW.shape sa;replace ha:=WY.mk ha;replace hf:=WY.mk hf;refine en 21 [(4,none)] zS6 ?_;refine VD [10,11,12,6,13,14,15,16,17,18,4,19,9] (by kernel_rfl) (fun i=>us.length - i) (fun i t h1=>zB t 9=I i/\i<=us.length/\U6 h h1/\∃ v,zB t 4=v/\WH h h1 v ((us.take i).map (Wc T F f))) 0 ?_ ?_
 ·exact⟨U8,QS _,U6.refl _,_,U8,.inl ⟨rfl,rfl⟩⟩
 rintro i t h1 hsame ⟨s9,hi,e1,v,s4,ov⟩;have sa1:=sa.ext e1;refine go ?_;refine VE (fun hc=> ?_) (fun hc=> ?_)<;>simp only[DB]at hc
 ·have hi':i<us.length:=by omega
  have hx:=ha.out _ (zc hi');have hsn:(us.take (i+1)).map (Wc T F f)=(us.take i).map (Wc T F f)++[Wc T F f (us.getD i 0)]:=by
   rw[Q4,QB hi',Q9];congr 1;simp[List.getD,QB hi']
  have hti:((us.take i).map (Wc T F f)).length<=i:=by rw[Qp];exact List.length_take_le _ _
  refine go ?_;refine VA (y9 (ou.ext e1) (sR.ext e1) hs hf.out (us.getD i 0) hx) ?_;rintro _ _ ⟨rfl,rfl⟩;refine go ?_;refine WO.bl [Wc T F f (us.getD i 0)] ?_;intro v3 h3 e3 o3;refine go ?_;refine Vo (ov.ext e3) o3.sl (e1.trans e3) (by simp) (by simp at hti |-;omega) ?_;intro v4 h4 e4 o4 u4;refine go ?_;refine zA (i+1) (by omega) ⟨Wu,by omega,e4,v4,U8,?_⟩;rw[hsn];exact .inr (o4.since (e1.trans e3))
 ·have hii:i=us.length:=by omega
  subst hii;rw[Qx]at ov;refine gr ?_;exact⟨ov,e1⟩
end
theorem YS (g:Nat->List We)(hg:∀ i,(g i).length<=1):∀ n,((List.range n).flatMap g).length<=n
 |0=>by simp
 |n+1=>by rw[Z7,QM];have:=YS g hg n;have:=hg n;omega
theorem zAD (b:Bool)(c:We):(if b then [] else [c]).length<=1:=by cases b<;>simp
def CP (hB:U0)(b:Nat)(vt vf pu po vS vR:Value)(T:List U3)(F:List WR)(vK vO:Value)(ks:List Int)(f r:Int)(out:List We)(h h':U0):Prop:=
 ∃ vO',CM hB h' b vt vf pu po vS vR T F vK vO' ks f r out/\WN po vO h h' vO'
theorem YH {X:U0}{a b c d:Int}{D:Nat->Prop}:Bl RCn X [.int .u8 a,I b,I c,I d,.slice none 0 0] ⟨a,b,c,d,[]⟩ D:=fun hx _ _=>⟨_,rfl,WK.nil hx,by simp⟩
section
variable {h hB:U0}{b:Nat}{vt vf pu po vS vR vK vO:Value}{T:List U3}{F:List WR}{ks:List Int}{f r:Int}{out:List We}
def zUn:U1:=(oV (oR [oX 3 1]) (oV (oR [oN 4 0]) (oV (oV (oR [oF 0 5 3,oL 6 5,oD .eql 7 6 3]) (oJ 7 (oR [oF 4 8 3,oL 9 8,oC .add 10 9 1,oM 4 10]) .skip)) (o6 [oM 11 0,(⟨some 12,none,(.nilCheck (.tmp 11))⟩,[]),oF 8 13 12,oL 14 13,oM 15 0,oM 16 0,(⟨some 17,none,(.nilCheck (.tmp 16))⟩,[]),oF 7 18 17,oL 19 18,(o2 20 30 15 19,[3]),oM 21 4,(⟨some 22,none,(.build [(.int .u8 0),(.int .i64 0),(.int .i64 0),(.int .i64 0),(.slice none 0 0)] [(0,1,(.const (.int .u8 1))),(1,1,(.tmp 20)),(3,1,(.tmp 21))])⟩,[]),(⟨some 23,none,(.buildSlice 1 5 [(.int .u8 0),(.int .i64 0),(.int .i64 0),(.int .i64 0),(.slice none 0 0)] [(0,5,(.tmp 22))])⟩,[]),(⟨some 24,none,(.call (.tmp 14) [(.tmp 23)])⟩,[])]))))
theorem zOa (C:CE hB b vt vf pu po vS vR T F)(M:CM hB h b vt vf pu po vS vR T F vK vO ks f r out)(hf:0<=f/\f<(F.length:Int))(hr:0<=r/\r<=1000)(hl:out.length<=90000)(x:Wd)(a1 b1:Option Addr)(a2 a3 b2 b3:Nat)(hn:x.op=3->0<=x.n/\x.n<=1000):
  WC Tryz.prog tb 51 [pu,.agg #[.int .u8 x.op,I x.ty,I x.a,I x.b,I x.n,.slice a1 a2 a3,.slice b1 b2 b3]] h fun _ h'=>CP hB b vt vf pu po vS vR T F vK vO ks f r (out++[⟨1,Wc T F f r,0,if x.op=3 then x.n+1 else 0,[]⟩]) h h':=by
 obtain⟨gu,_,_,rfl,_⟩:=id M.ou;obtain⟨s1,s2,s3,rfl⟩:=zG M.oS.sl;obtain⟨r1,r2,r3,rfl⟩:=WW.shape M.oR.sl;obtain⟨k1,k2,k3,rfl⟩:=WW.shape M.oK.sl;refine en 25 [] zUn ?_;refine VH ?_;intro p3 h1 e1 o3;replace o3:U4 h h1 p3 [.int .u8 x.op,I x.ty,I x.a,I x.b,I x.n,.slice a1 a2 a3,.slice b1 b2 b3]:=o3;have M1:=M.ext e1;by_cases h3:x.op=3;all_goals
  first|(have hn':=hn h3)|skip
  refine go ?_
  refine VC 1 rfl rfl ?_
  have oX:=M1.ou.ext (zQ 1 h1)
  have oY:U4 hB (inC (zC 1 h1)) (.pointer (some ⟨gu,0,none⟩)) [vt,vf,.slice s1 s2 s3,.slice r1 r2 r3,I (zl T F),.slice k1 k2 k3,I f,I r,Ze po]:=oX
  have sX:=M1.oR.sl.ext (zQ 1 h1)
  have sY:WK (inC (zC 1 h1)) (.slice r1 r2 r3) (Bo T F):=sX
  refine WM ?_
  refine VA (y9 oY sY C.hs hf r hr) ?_
  rintro _ _ ⟨rfl,rfl⟩
  refine WO.nil (ZY zy ?_)
  refine WM ?_
  refine WQ.add (X:=inC (zC 1 _)) (⟨1,Wc T F f r,0,_,[]⟩:We) (fun _=>False) C M1 (U6.refl _) (by omega) YH (fun _ h=>h.elim) ?_
  intro H vO' t' hsame MH kH
  refine go ?_
  refine W9 ?_
  exact⟨vO',by simpa [h3]using MH,(WN.ext e1).trans kH⟩
end
end
end Go.Proofs.YtmejfcakhpihlaaGreatDoor
