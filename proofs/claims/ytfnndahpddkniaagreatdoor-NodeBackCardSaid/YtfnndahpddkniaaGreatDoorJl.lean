/- What functions of the program come to in the abstract machine, and plain laws about it; no statement of the seat is proved in this text. -/
import Derived.Test.YtfnndahpddkniaaGreatDoorJk
import Derived.Test.YtfnndahpddkniaaGreatDoorJb
import Derived.Test.YtfnndahpddkniaaGreatDoorJa
import Derived.Test.YtfnndahpddkniaaGreatDoorAmM
set_option linter.unusedVariables false
set_option linter.unusedSimpArgs false
set_option maxHeartbeats 2000000
namespace Go.Proofs.YtfnndahpddkniaaGreatDoor
noncomputable section
open Go.Am
set_option maxRecDepth 100000
theorem Zr:∀ {l:List Int},(∀ x∈l,0<=x/\x<=1000)->0<=l.sum/\l.sum<=1000 * l.length
 |[],_=>by simp
 |x::l,h=>by
  have:=Zr fun y hy=>h y (Qj _ hy);have:=h x (Qf ..);simp only[JC,GH];omega
theorem zOY {h0 h:AHeap} {v:Value} {l:List Int} {n:Nat} (o:OwnN h0 h v l) (hn:n<=l.length):∃ r,Za 1 v none (some n) none=some r/\SlI h r (l.take n):=by
 rcases o with ⟨rfl,rfl⟩|⟨g,g1,g2,rfl,g3⟩
 ·obtain rfl:n=0:=Nat.le_zero.1 hn;exact⟨.slice none 0 0,rfl,SlI.nil h⟩
 ·have hlen:(l.take n).length=n:=by rw[Q7];omega
  refine⟨.slice (some ⟨g,0+0 * 1,none⟩) (n - 0) 1,?_,by simp,.inr ⟨g,0,l.map I,by rw[hlen];simp,ZE g3,?_,g2⟩⟩
  ·have b1:Nat.ble 0 n=true:=QH (QV _);have b2:Nat.ble n l.length=true:=QH hn;simp only[Za,Gl,GB,b1,b2,Qw,Qz,cond_true,Gh]
  ·rw[yw (by rw[hlen];simp;omega),List.map_take,hlen];simp
def zSJ:ACode:=(oV (oR [oZ 4]) (oV (oR [oM 5 0,oC .geq 6 5 0,oM 7 6,oG 7 (oM 8 0),oG 7 (oM 9 1),oG 7 (oB .lss 10 8 9),oP 11 7 10,oM 4 11]) .ret))
theorem zDJ (h:AHeap) (i n:Int):WC Tryz.prog tb 34 [I i,I n] h fun r h'=>r= .bool (decide (0<=i/\i<n))/\h=h':=by
 refine en 12 [(4,none)] zSJ ?_;by_cases h0:0<=i
 ·refine gr ?_;exact⟨by simp[h0];rfl,rfl⟩
 ·refine gr ?_;exact⟨by simp[h0];rfl,rfl⟩
def zOR:ACode:=(oV (oR [oB .lss 12 11 10]) (oV (oT 12 0) (oV (o5 1 (oV (oR [oI 1 13 9 11,oL 14 13,oM 6 14]) (oR [oM 15 4,oM 16 6,oB .add 17 15 16,oM 4 17]))) (oR [oC .add 18 11 1,oM 11 18]))))
def zRq:ACode:=(oV (oR [oN 4 0]) (oV (oV (oR [oM 7 0,oM 8 1,⟨some 9,none,(.slice 1 (.tmp 7) none (some (.tmp 8)) none)⟩,oQ 10 9,oN 11 0]) (o5 0 (.loop zOR))) (oV (oR [oM 19 4,oM 4 19]) .ret)))
theorem zBo (h:AHeap) (v:Value) (l:List Int) (n:Nat) {h0:AHeap} (o:OwnN h0 h v l) (hn:n<=l.length) (hl:l.length<=2000) (hb:∀ x∈l,0<=x/\x<=1000):
  WC Tryz.prog tb 46 [v,I n] h fun r h'=>r=I (l.take n).sum/\h=h':=by
 have s:=o.sl;obtain⟨v1,v2,v3,rfl⟩:=SlC.shape s;obtain⟨r,hr,sr⟩:=zOY o hn;replace hb:=Hid.mk hb;refine en 20 [(4,none)] zRq ?_;refine WO.slHi hr ?_;have hlen:(l.take n).length=n:=by rw[Q7];omega
 have hbt:∀ x∈l.take n,0<=x/\x<=1000:=fun x hx=>hb.out x (GQ hx);generalize l.take n=m at *;obtain⟨r1,r2,r3,rfl⟩:=SlC.shape sr;replace hbt:=Hid.mk hbt;refine go ?_;refine WX.loopA [12,13,14,6,15,16,17,4,18,11] (by kernel_rfl) (fun i=>m.length - i) (fun i t h1=>h=h1/\zB t 11=I i/\i<=m.length/\zB t 4=I (m.take i).sum) 0 ?_ ?_
 ·exact⟨rfl,sl_,QV _,sl_⟩
 rintro i t h1 hsame ⟨rfl,s11,hi,s4⟩;have hsb:=Zr (l:=m.take i) fun x hx=>hbt.out x (GQ hx);have hli:(m.take i).length<=i:=List.length_take_le _ _;refine go ?_;refine WX.br (fun hc=> ?_) (fun hc=> ?_)<;>simp only[DB]at hc
 ·have hi':i<m.length:=by omega
  have hx:=hbt.out _ (zw hi');have hsum:(m.take (i+1)).sum=(m.take i).sum+m.getD i 0:=by
   rw[Q3,QC hi',List.sum_append];simp[List.getD,QC hi']
  refine go ?_;exact zA (i+1) (by omega) ⟨rfl,sln,by omega,by rw[hsum];exact sl_⟩
 ·have hii:i=m.length:=by omega
  subst hii;rw[GC]at s4;refine gr ?_;exact⟨rfl,rfl⟩
structure TB (h0 h:AHeap) (vR vF vS:Value) (Rg Fl:List Int) (S:List LSite):Prop where
 r:OwnN h0 h vR Rg
 f:OwnN h0 h vF Fl
 s:OwnR 3 RSt h0.n h vS S
 hR:Rg.length<=8
 hF:Fl.length<=1024
 bR:∀ x∈Rg,0<=x/\x<=1000
 bF:∀ x∈Fl,0<=x/\x<=1000
 sh:(∃ a n c,vR= .slice a n c)/\(∃ a n c,vF= .slice a n c)/\(∃ a n c,vS= .slice a n c)
theorem TB.ext {h0 h h':AHeap} {vR vF vS:Value} {Rg Fl:List Int} {S:List LSite} (B:TB h0 h vR vF vS Rg Fl S) (e:Ext h h'):TB h0 h' vR vF vS Rg Fl S:=⟨B.r.ext e,B.f.ext e,OwnR.ext B.s e,B.hR,B.hF,B.bR,B.bF,B.sh⟩
theorem TB.upC {h0 h h':AHeap} {p vR vF vS:Value} {Rg Fl:List Int} {S:List LSite} (B:TB h0 h vR vF vS Rg Fl S) (u:UpdC p h h') (hp:zET h0 p):TB h0 h' vR vF vS Rg Fl S:=
 ⟨B.r.upB u.upB (OffV.fresh B.r.since' hp).symm,B.f.upB u.upB (OffV.fresh B.f.since' hp).symm,B.s.upB YJ u.upB (OffV.fresh (zFH B.s) hp).symm,B.hR,B.hF,B.bR,B.bF,B.sh⟩
section
variable {h0 h:AHeap} {vR vF vS:Value} {Rg Fl:List Int} {S:List LSite}
def zSz:ACode:=(oV (oR [oX 1 0,oN 2 0]) (oV (oR [oF 0 3 1,oF 0 4 3,oL 5 4,oF 0 6 1,oF 0 7 6,oL 8 7,oQ 9 8,o2 10 46 5 9,oM 2 10]) .ret))
theorem zDw (B:TB h0 h vR vF vS Rg Fl S):WC Tryz.prog tb 53 [.agg #[vR,vF,vS]] h fun r h'=>r=I Rg.sum/\Ext h h':=by
 obtain⟨⟨r1,r2,r3,rfl⟩,⟨f1,f2,f3,rfl⟩,⟨s1,s2,s3,rfl⟩⟩:=B.sh;refine en 11 [(2,none)] zSz ?_;refine WO.bx ?_;intro p h1 e1 o1;replace o1:OwnC h h1 p [.slice r1 r2 r3,.slice f1 f2 f3,.slice s1 s2 s3]:=o1;have B1:=B.ext e1;have sR:=B1.r.sl;have hR:=B.hR;refine go ?_;refine WO.con (zBo h1 _ Rg Rg.length B1.r (QE _) (by omega) B.bR) ?_;rintro _ h2 ⟨rfl,rfl⟩;rw[GC];refine gr ?_;exact⟨rfl,e1⟩
def zS7:ACode:=(oV (oR [oX 1 0,oN 2 0]) (oV (oR [oF 0 3 1,oF 0 4 3,oL 5 4,oQ 6 5,⟨some 7,none,(.bin .add (.const (.int .i64 1)) (.tmp 6))⟩,oM 2 7]) .ret))
theorem Yl (B:TB h0 h vR vF vS Rg Fl S):WC Tryz.prog tb 38 [.agg #[vR,vF,vS]] h fun r h'=>r=I (1+Rg.length)/\Ext h h':=by
 obtain⟨⟨r1,r2,r3,rfl⟩,⟨f1,f2,f3,rfl⟩,⟨s1,s2,s3,rfl⟩⟩:=B.sh;refine en 8 [(2,none)] zS7 ?_;refine WO.bx ?_;intro p h1 e1 o1;replace o1:OwnC h h1 p [.slice r1 r2 r3,.slice f1 f2 f3,.slice s1 s2 s3]:=o1;have B1:=B.ext e1;have sR:=B1.r.sl;have hR:=B.hR;refine gr ?_;exact⟨rfl,e1⟩
def zRw:ACode:=(oV (oR [oX 1 0,oN 2 0]) (oV (o6 [oA 3 3 1,o1 4 53 3,oF 0 5 1,oF 0 6 5,(oL 7 6,[1]),oQ 8 7,oB .add 9 4 8,oM 2 9]) .ret))
theorem zEi (B:TB h0 h vR vF vS Rg Fl S) (hm:h.mark<=h.n):WC Tryz.prog tb 47 [.agg #[vR,vF,vS]] h fun r h'=>r=I (Rg.sum+Rg.length)/\Ext h h':=by
 obtain⟨⟨r1,r2,r3,rfl⟩,⟨f1,f2,f3,rfl⟩,⟨s1,s2,s3,rfl⟩⟩:=B.sh;have hsb:=Zr B.bR;have hR:=B.hR;refine en 10 [(2,none)] zRw ?_;refine WO.bx ?_;intro p h1 e1 o1;replace o1:OwnC h h1 p [.slice r1 r2 r3,.slice f1 f2 f3,.slice s1 s2 s3]:=o1;have B1:=B.ext e1;have sR:=B1.r.sl;refine go ?_;refine WX.regionU2 0 rfl rfl ?_;have BX:=B1.ext (zZ 0 h1);have o1X:=o1.ext (zZ 0 h1);have sRX:=BX.r.sl;have o1Y:OwnC h (inC (zF 0 h1)) p [.slice r1 r2 r3,.slice f1 f2 f3,.slice s1 s2 s3]:=o1X;have sRY:SlI (inC (zF 0 h1)) (.slice r1 r2 r3) Rg:=sRX;have BY:TB h0 (inC (zF 0 h1)) (.slice r1 r2 r3) (.slice f1 f2 f3) (.slice s1 s2 s3) Rg Fl S:=⟨BX.r,BX.f,BX.s,B.hR,B.hF,B.bR,B.bF,B.sh⟩;refine goU ?_;refine WO.con (zDw BY) ?_;rintro _ X2 ⟨rfl,e2⟩;refine nE e2 ?_;have o2Z:=o1Y.ext e2;have o2Y:OwnC h (inC X2) p [.slice r1 r2 r3,.slice f1 f2 f3,.slice s1 s2 s3]:=o2Z;have s2Z:=sRY.ext e2;have s2Y:SlI (inC X2) (.slice r1 r2 r3) Rg:=s2Z;have e2':=(zZ 0 h1).trans (yb (h:=h1) e2);refine goU ?_;refine zGt (j:=0+0) o1 (QE _) ?_;refine goU ?_;refine gr ?_;exact⟨rfl,e1.trans e2'⟩
def zSn:ACode:=(oV (oR [oX 3 0,oN 6 0,oZ 7]) (oV (oV (oR [oM 8 1,oF 0 9 3,oF 1 10 9,oL 11 10,oQ 12 11,o2 13 34 8 12,oW 14 13,oM 15 14,oH 15 (oM 16 2),oH 15 (oF 0 17 3),oH 15 (oF 1 18 17),oH 15 (oL 19 18),oH 15 (oM 20 1),oH 15 (oI 1 21 19 20),oH 15 (oL 22 21),oH 15 (o2 23 34 16 22),oH 15 (oW 24 23),oO 25 15 24]) (oJ 25 (oV (oR [oN 6 0,oZ 7]) .ret) .skip)) (oV (oR [oF 0 26 3,oF 1 27 26,oL 28 27,oM 29 1,o2 30 46 28 29,oM 31 2,oB .add 32 30 31,oM 6 32,oK 7 (.bool true)]) .ret)))
theorem zMU (B:TB h0 h vR vF vS Rg Fl S) (s i:Int):WC Tryz.prog tb 37 [.agg #[vR,vF,vS],I s,I i] h fun r h'=>r= .tuple #[I (if (0<=s/\s<(Fl.length:Int))/\0<=i/\i<Fl.getD s.toNat 0 then (Fl.take s.toNat).sum+i else 0),.bool (decide ((0<=s/\s<(Fl.length:Int))/\0<=i/\i<Fl.getD s.toNat 0))]/\Ext h h':=by
 obtain⟨⟨r1,r2,r3,rfl⟩,⟨f1,f2,f3,rfl⟩,⟨s1,s2,s3,rfl⟩⟩:=B.sh;have hF:=B.hF;refine en 33 [(6,none),(7,none)] zSn ?_;refine WO.bx ?_;intro p h1 e1 o1;replace o1:OwnC h h1 p [.slice r1 r2 r3,.slice f1 f2 f3,.slice s1 s2 s3]:=o1;have B1:=B.ext e1;have sF:=B1.f.sl;refine go ?_;refine WO.con (zDJ h1 s Fl.length) ?_;rintro _ _ ⟨rfl,rfl⟩;by_cases hs:0<=s/\s<(Fl.length:Int);case neg=>
  rw[QW hs,QD (fun e=>hs e.1),QW (fun e=>hs e.1)];refine gr ?_;exact⟨rfl,e1⟩
 rw[QY hs];have hx:=B.bF _ (zw (l:=Fl) (i:=s.toNat) (by omega));refine go ?_;refine WO.con (zDJ h1 i (Fl.getD s.toNat 0)) ?_;rintro _ _ ⟨rfl,rfl⟩;by_cases hi:0<=i/\i<Fl.getD s.toNat 0;case neg=>
  rw[QW hi,QD (fun e=>hi e.2),QW (fun e=>hi e.2)];refine gr ?_;exact⟨rfl,e1⟩
 rw[QY hi,QI ⟨hs,hi⟩,QY (And.intro hs hi)];have hsb:=Zr (l:=Fl.take s.toNat) fun x hx=>B.bF x (GQ hx);have hlt:(Fl.take s.toNat).length<=1024:=by rw[Q7];omega
 obtain⟨k,rfl⟩:∃ k:Nat,s=k:=⟨s.toNat,by omega⟩;rw[Qa]at *;refine go ?_;refine WO.con (zBo h1 _ Fl k B1.f (by omega) (by omega) B.bF) ?_;rintro _ _ ⟨rfl,rfl⟩;refine gr ?_;exact⟨rfl,e1⟩
end
set_option maxRecDepth 100000
section
variable {h:AHeap} {vt vf:Value} {T:List LType} {F:List LFn}
theorem zJD {h h':AHeap} {vR vF vS:Value} (hs:zY T F=0) (r:OwnN h h' vR (if zY T F=0 then yF T F else [])) (q:OwnN h h' vF (if zY T F=0 then zj T F else [])) (s:OwnR 3 RSt h.n h' vS (if zY T F=0 then yT T F else []))
  (sh:(∃ a n c,vR= .slice a n c)/\(∃ a n c,vF= .slice a n c)/\(∃ a n c,vS= .slice a n c)):TB h h' vR vF vS (yF T F) (zj T F) (yT T F):=by
 rw[QI hs]at r q s;have hp:=(ZP hs).1;obtain⟨hc,hF1,hF8,hfn⟩:=ZA hp;refine⟨r,q,s,by unfold yF;simpa using hF8,by unfold zj;rw[Q8];exact zBX hs,fun x hx=> ?_,fun x hx=> ?_,sh⟩
 ·unfold yF at hx;obtain⟨g,hg,rfl⟩:=Q6.1 hx;obtain⟨i,hi,rfl⟩:=YE hg;have Z:=zK2 hp (f:=(i:Int)) (by omega);have h1:=Z.many;have h2:=Z.par4;have h3:=zBw (F.getD i default).blocks;unfold yJ at h1;unfold Yj at h2;rw[Qa]at h1 h2;omega
 ·unfold zj at hx;obtain⟨s,hs',rfl⟩:=Q6.1 hx;have h1:=zCS hs s hs';have hl:=zI5 hc;have h2:=zFp (s.ty.toNat+1) s.ty.toNat (GN _) fun j hj=>(hl j (by omega)).1;have h3:=(hl s.ty.toNat (by omega)).2;omega
def zRm (T:List LType) (F:List LFn):Int:=(yF T F).sum
def zB9 (T:List LType) (F:List LFn):Int:=(yF T F).sum+F.length
def Zo (F:List LFn):Int:=1+F.length
def zSB:ACode:=(oV (oR [oX 2 0,oN 4 0,oN 5 0]) (oV (oR [oA 2 9 2,o1 10 33 9,oM 8 10,oE 11 8 0,oE 12 8 1,⟨some 6,none,(.alloc [(.slice none 0 0),(.slice none 0 0),(.slice none 0 0)])⟩,oS 3 6 11,oM 7 12]) (oV (o5 0 (oV (oR [oM 14 7,oC .neq 15 14 0,oM 13 15]) (oJ 13 (oV (oR [oM 16 7,oN 4 0,oM 5 16]) .ret) (oV (oR [oM 18 1,oF 0 19 6,oF 0 20 19,oL 21 20,oQ 22 21,o2 23 34 18 22,oW 24 23,oM 17 24]) (oJ 17 (oV (oR [oN 4 0,oN 5 2]) .ret) .skip))))) (oV (oR [oA 3 25 6,o1 26 53 25,oM 27 1,oB .add 28 26 27,oM 4 28,oN 5 0]) .ret))))
theorem zIS (E:Env h vt vf T F) (f:Int):WC Tryz.prog tb 20 [.agg #[vt,vf],I f] h fun r h'=>r= .tuple #[I (if zY T F=0/\0<=f/\f<(F.length:Int) then zRm T F+f else 0),I (if zY T F≠0 then zY T F else if 0<=f/\f<(F.length:Int) then 0 else 2)]/\Ext h h':=by
 refine en 29 [(4,none),(5,none)] zSB ?_;refine WO.bx ?_;intro p h1 e1 o1;replace o1:OwnC h h1 p [vt,vf]:=o1;refine go ?_;refine WO.con (Y7 h1 vt vf T F (E.ext e1)) ?_;rintro _ h2 ⟨⟨vR,vF,vS,rfl,⟨r1,r2,r3,rfl⟩,⟨f1,f2,f3,rfl⟩,⟨s1,s2,s3,rfl⟩,oR,oF,sS⟩,e2⟩;refine go ?_;refine WO.al ?_;intro p6 h3 e3 o3;refine go ?_;refine WO.stC0 (cs:=[.slice r1 r2 r3,.slice f1 f2 f3,.slice s1 s2 s3]) o3 e3 ?_;intro h4 e4 o4 _;have e04:=e1.trans (e2.trans e4);by_cases hs:zY T F=0;case neg=>
  have hs':zY T F≠0:=hs;rw[QD (fun e=>hs e.1),QI hs];refine gr ?_;exact⟨rfl,e04⟩
 have B:=(zJD hs oR oF sS ⟨⟨_,_,_,rfl⟩,⟨_,_,_,rfl⟩,⟨_,_,_,rfl⟩⟩).ext e4;have sR:=B.r.sl;have hRl:(yF T F).length=F.length:=by unfold yF;simp
 rw[hs];refine go ?_;refine WO.con (zDJ h4 f (yF T F).length) ?_;rintro _ _ ⟨rfl,rfl⟩;rw[hRl];by_cases hf:0<=f/\f<(F.length:Int);case neg=>
  rw[QW hf,QD (fun e=>hf e.2),QD (fun e=>e rfl),QD hf];refine gr ?_;exact⟨rfl,e04⟩
 rw[QY hf,QI ⟨rfl,hf⟩,QD (fun e=>e rfl),QI hf];have hsb:=Zr B.bR;have hR8:=B.hR;refine go ?_;refine WO.con (zDw B) ?_;rintro _ h5 ⟨rfl,e5⟩;refine gr ?_;exact⟨rfl,e04.trans e5⟩
def zEe (T:List LType) (F:List LFn) (s i:Int):Prop:=(0<=s/\s<((zj T F).length:Int))/\0<=i/\i<(zj T F).getD s.toNat 0
instance (T:List LType) (F:List LFn) (s i:Int):Decidable (zEe T F s i):=by unfold zEe;infer_instance
def Zw (T:List LType) (F:List LFn) (s i:Int):Int:=if zY T F≠0 then zY T F else if zEe T F s i then 0 else 2
def Yc (T:List LType) (F:List LFn) (s i:Int):Int:=if zY T F=0/\zEe T F s i then ((zj T F).take s.toNat).sum+i else 0
def zSH:ACode:=(oV (oR [oX 3 0,⟨some 6,none,(.alloc [(.slice none 0 0),(.slice none 0 0),(.slice none 0 0)])⟩,oN 7 0,oN 8 0]) (oV (oV (oR [oA 2 11 3,o1 12 33 11,oM 10 12,oE 13 10 0,oE 14 10 1,oS 3 6 13,oM 8 14]) (oV (oR [oM 15 8,oC .neq 16 15 0]) (oJ 16 (oV (oR [oA 3 17 6,oM 18 8,oS 3 6 17,oN 7 0,oM 8 18]) .ret) .skip))) (oV (oR [oA 3 20 6,oM 21 1,oM 22 2,o3 23 37 20 21 22,oM 19 23,oE 24 19 0,oE 25 19 1,oM 7 24,oM 9 25]) (oV (oV (oR [oM 26 9,oW 27 26]) (oJ 27 (oV (oR [oA 3 28 6,oS 3 6 28,oN 7 0,oN 8 2]) .ret) .skip)) (oV (oR [oA 3 29 6,oM 30 7,oS 3 6 29,oM 7 30,oN 8 0]) .ret)))))
theorem zFV (E:Env h vt vf T F) (s i:Int):WC Tryz.prog tb 54 [.agg #[vt,vf],I s,I i] h fun r h'=>(∃ vR vF vS,r= .tuple #[.agg #[vR,vF,vS],I (Yc T F s i),I (Zw T F s i)]/\(zY T F=0->TB h h' vR vF vS (yF T F) (zj T F) (yT T F))/\(∃ a n c,vR= .slice a n c)/\(∃ a n c,vF= .slice a n c)/\(∃ a n c,vS= .slice a n c))/\Ext h h':=by
 unfold Yc Zw;refine en 31 [(6,some (true,3)),(7,none),(8,none)] zSH ?_;refine WO.bx ?_;intro p h1 e1 o1;replace o1:OwnC h h1 p [vt,vf]:=o1;refine go ?_;refine WO.al ?_;intro p6 h2 e2 o2;have e12:=e1.trans e2;have o12:=o1.ext e2;refine go ?_;refine WO.con (Y7 h2 vt vf T F (E.ext e12)) ?_;rintro _ h3 ⟨⟨vR,vF,vS,rfl,⟨r1,r2,r3,rfl⟩,⟨f1,f2,f3,rfl⟩,⟨s1,s2,s3,rfl⟩,oR,oF,sS⟩,e3⟩;have o23:=o2.ext e3;have hp6:=o2.within;refine go ?_;refine WO.stC0 (cs:=[.slice r1 r2 r3,.slice f1 f2 f3,.slice s1 s2 s3]) o23 (e2.trans e3) ?_;intro h4 e4 o4 u4;have o14:=o1.ext e4;by_cases hs:zY T F=0;case neg=>
  have hs':zY T F≠0:=hs;rw[QD (fun e=>hs e.1),QI hs];refine go ?_;refine WO.stC0 o4 e4 ?_;intro h5 e5 o5 u5;refine go ?_;refine rt ?_ (Res.consA sl_ o5 rfl (Res.cons sl_ (Res.cons sl_ Res.nil)));exact⟨⟨_,_,_,rfl,fun e=>absurd e hs,⟨_,_,_,rfl⟩,⟨_,_,_,rfl⟩,⟨_,_,_,rfl⟩⟩,e1.trans e5⟩
 have B:=(zJD hs oR oF sS ⟨⟨_,_,_,rfl⟩,⟨_,_,_,rfl⟩,⟨_,_,_,rfl⟩⟩).upC u4 hp6;rw[hs];refine go ?_;refine WO.con (zMU B s i) ?_;rintro _ h5 ⟨rfl,e5⟩;have B5:=B.ext e5;have o5:=o4.ext e5;have e15:=e4.trans e5;have hfin:∀ {h6},UpdC p6 h5 h6->TB h h6 (.slice r1 r2 r3) (.slice f1 f2 f3) (.slice s1 s2 s3) (yF T F) (zj T F) (yT T F):=fun u=>by
  have q:=B5.upC u hp6;exact⟨q.r.since e12,q.f.since e12,q.s.base e12.n,q.hR,q.hF,q.bR,q.bF,q.sh⟩
 replace hfin:=Hid.mk @hfin;by_cases hi:zEe T F s i;case neg=>
  have hi':¬((0<=s/\s<((zj T F).length:Int))/\0<=i/\i<(zj T F).getD s.toNat 0):=hi;rw[QD hi',QW hi',QD (fun e=>hi e.2),QD (fun e=>e rfl),QD hi];refine go ?_;refine WO.stC0 o5 e15 ?_;intro h6 e6 o6 u6;refine go ?_;refine rt ?_ (Res.consA sl_ o6 rfl (Res.cons sl_ (Res.cons sl_ Res.nil)));exact⟨⟨_,_,_,rfl,fun _=>hfin.out u6,⟨_,_,_,rfl⟩,⟨_,_,_,rfl⟩,⟨_,_,_,rfl⟩⟩,e1.trans e6⟩
 have hi':((0<=s/\s<((zj T F).length:Int))/\0<=i/\i<(zj T F).getD s.toNat 0):=hi;rw[QI hi',QY hi',QI ⟨rfl,hi⟩,QD (fun e=>e rfl),QI hi];generalize ((zj T F).take s.toNat).sum+i=v at *;refine go ?_;refine WO.stC0 o5 e15 ?_;intro h6 e6 o6 u6;refine go ?_;refine rt ?_ (Res.consA sl_ o6 rfl (Res.cons sl_ (Res.cons sl_ Res.nil)));exact⟨⟨_,_,_,rfl,fun _=>hfin.out u6,⟨_,_,_,rfl⟩,⟨_,_,_,rfl⟩,⟨_,_,_,rfl⟩⟩,e1.trans e6⟩
theorem zDk {s i:Int} (h:Zw T F s i=0):zY T F=0/\zEe T F s i:=by
 unfold Zw at h;split at h
 ·rename_i q;exact absurd h q
 ·rename_i q;split at h
  ·exact⟨Classical.not_not.1 q,by assumption⟩
  ·cases h
theorem zHg {h0 h:AHeap} {vR vF vS:Value} {s i:Int} (B:TB h0 h vR vF vS (yF T F) (zj T F) (yT T F)):0<=Yc T F s i/\Yc T F s i<=10000000:=by
 unfold Yc;split
 ·rename_i q;have hsb:=Zr (l:=(zj T F).take s.toNat) fun x hx=>B.bF x (GQ hx);have hlt:((zj T F).take s.toNat).length<=1024:=QS (by rw[Q7];omega) B.hF;have h1:=q.2;unfold zEe at h1;have h2:=B.bF _ (zw (l:=zj T F) (i:=s.toNat) (by omega));omega
 ·omega
def zTJ:ACode:=(oV (oR [oX 3 0,oN 6 0,oN 7 0]) (oV (oR [oA 2 12 3,oM 13 1,oM 14 2,o3 15 54 12 13 14,oM 11 15,oE 16 11 0,oE 17 11 1,oE 18 11 2,⟨some 8,none,(.alloc [(.slice none 0 0),(.slice none 0 0),(.slice none 0 0)])⟩,oS 3 8 16,oM 9 17,oM 10 18]) (oV (oV (oR [oM 19 10,oC .neq 20 19 0]) (oJ 20 (oV (oR [oM 21 10,oN 6 0,oM 7 21]) .ret) .skip)) (oV (oR [oA 3 22 8,o1 23 47 22,oM 24 9,oB .add 25 23 24,oM 6 25,oN 7 0]) .ret))))
theorem zMB (E:Env h vt vf T F) (s i:Int):WC Tryz.prog tb 22 [.agg #[vt,vf],I s,I i] h fun r h'=>r= .tuple #[I (if zY T F=0/\zEe T F s i then (zB9 T F)+Yc T F s i else 0),I (Zw T F s i)]/\Ext h h':=by
 have hRl:(yF T F).length=F.length:=by unfold yF;simp
 refine en 26 [(6,none),(7,none)] zTJ ?_;refine WO.bx ?_;intro p h1 e1 o1;replace o1:OwnC h h1 p [vt,vf]:=o1;refine go ?_;refine WO.con (zFV (E.ext e1) s i) ?_;rintro _ h2 ⟨⟨vR,vF,vS,rfl,hB,⟨r1,r2,r3,rfl⟩,⟨f1,f2,f3,rfl⟩,⟨s1,s2,s3,rfl⟩⟩,e2⟩;refine go ?_;refine WO.al ?_;intro p8 h3 e3 o3;refine go ?_;refine WO.stC0 (cs:=[.slice r1 r2 r3,.slice f1 f2 f3,.slice s1 s2 s3]) o3 e3 ?_;intro h4 e4 o4 _;have e04:=e1.trans (e2.trans e4);by_cases he:Zw T F s i=0;case neg=>
  have he':Zw T F s i≠0:=he;rw[QD (fun e=>he (by unfold Zw;rw[QD (fun q=>q e.1),QI e.2]))];refine gr ?_;exact⟨rfl,e04⟩
 have hso:=zDk he;have B:=(hB hso.1).ext e4;have hb:=zHg (s:=s) (i:=i) B;have hsb:=Zr B.bR;have hR8:=B.hR;rw[he,QI hso];unfold zB9;generalize Yc T F s i=v at *;refine go ?_;refine WO.con (zEi B (yD e04 E.hm)) ?_;rintro _ h5 ⟨rfl,e5⟩;rw[hRl];refine gr ?_;exact⟨rfl,e04.trans e5⟩
def zTD:ACode:=(oV (oR [oX 3 0,oN 6 0,oN 7 0]) (oV (oR [oA 2 12 3,oM 13 1,oM 14 2,o3 15 54 12 13 14,oM 11 15,oE 16 11 0,oE 17 11 1,oE 18 11 2,⟨some 8,none,(.alloc [(.slice none 0 0),(.slice none 0 0),(.slice none 0 0)])⟩,oS 3 8 16,oM 9 17,oM 10 18]) (oV (oV (oR [oM 19 10,oC .neq 20 19 0]) (oJ 20 (oV (oR [oM 21 10,oN 6 0,oM 7 21]) .ret) .skip)) (oV (oR [oA 3 22 8,o1 23 38 22,oM 24 9,oB .add 25 23 24,oM 6 25,oN 7 0]) .ret))))
theorem zI8 (E:Env h vt vf T F) (s i:Int):WC Tryz.prog tb 24 [.agg #[vt,vf],I s,I i] h fun r h'=>r= .tuple #[I (if zY T F=0/\zEe T F s i then (Zo F)+Yc T F s i else 0),I (Zw T F s i)]/\Ext h h':=by
 have hRl:(yF T F).length=F.length:=by unfold yF;simp
 refine en 26 [(6,none),(7,none)] zTD ?_;refine WO.bx ?_;intro p h1 e1 o1;replace o1:OwnC h h1 p [vt,vf]:=o1;refine go ?_;refine WO.con (zFV (E.ext e1) s i) ?_;rintro _ h2 ⟨⟨vR,vF,vS,rfl,hB,⟨r1,r2,r3,rfl⟩,⟨f1,f2,f3,rfl⟩,⟨s1,s2,s3,rfl⟩⟩,e2⟩;refine go ?_;refine WO.al ?_;intro p8 h3 e3 o3;refine go ?_;refine WO.stC0 (cs:=[.slice r1 r2 r3,.slice f1 f2 f3,.slice s1 s2 s3]) o3 e3 ?_;intro h4 e4 o4 _;have e04:=e1.trans (e2.trans e4);by_cases he:Zw T F s i=0;case neg=>
  have he':Zw T F s i≠0:=he;rw[QD (fun e=>he (by unfold Zw;rw[QD (fun q=>q e.1),QI e.2]))];refine gr ?_;exact⟨rfl,e04⟩
 have hso:=zDk he;have B:=(hB hso.1).ext e4;have hb:=zHg (s:=s) (i:=i) B;have hsb:=Zr B.bR;have hR8:=B.hR;rw[he,QI hso];unfold Zo;generalize Yc T F s i=v at *;refine go ?_;refine WO.con (Yl B) ?_;rintro _ h5 ⟨rfl,e5⟩;rw[hRl];refine gr ?_;exact⟨rfl,e04.trans e5⟩
end
set_option maxRecDepth 100000
section
variable {h:AHeap} {vt vf:Value} {T:List LType} {F:List LFn}
def zRp:ACode:=(oV (oR [oX 1 0,oN 2 0,oN 3 0,oN 4 0]) (oV (oR [oA 2 8 1,o1 9 33 8,oM 7 9,oE 10 7 0,oE 11 7 1,⟨some 5,none,(.alloc [(.slice none 0 0),(.slice none 0 0),(.slice none 0 0)])⟩,oS 3 5 10,oM 4 11]) (oV (oV (oR [oM 12 4,oC .neq 13 12 0]) (oJ 13 (oV (oR [oM 14 4,oN 2 0,oN 3 0,oM 4 14]) .ret) .skip)) (oV (oR [oF 0 15 5,oF 1 16 15,oL 17 16,oF 0 18 5,oF 1 19 18,oL 20 19,oQ 21 20,o2 22 46 17 21,oM 6 22]) (oV (o6 [oA 3 23 5,o1 24 47 23,oM 25 6,oB .add 26 24 25,(oA 3 27 5,[1]),o1 28 38 27,oM 29 6,oB .add 30 28 29,oM 2 26,oM 3 30,oN 4 0]) .ret)))))
theorem zN7 (E:Env h vt vf T F):WC Tryz.prog tb 16 [.agg #[vt,vf]] h fun r h'=>r= .tuple #[I (if zY T F=0 then zB9 T F+(zj T F).sum else 0),I (if zY T F=0 then Zo F+(zj T F).sum else 0),I (zY T F)]/\Ext h h':=by
 have hRl:(yF T F).length=F.length:=by unfold yF;simp
 refine en 31 [(2,none),(3,none),(4,none)] zRp ?_;refine WO.bx ?_;intro p h1 e1 o1;replace o1:OwnC h h1 p [vt,vf]:=o1;refine go ?_;refine WO.con (Y7 h1 vt vf T F (E.ext e1)) ?_;rintro _ h2 ⟨⟨vR,vF,vS,rfl,⟨r1,r2,r3,rfl⟩,⟨f1,f2,f3,rfl⟩,⟨s1,s2,s3,rfl⟩,oR,oF,sS⟩,e2⟩;refine go ?_;refine WO.al ?_;intro p5 h3 e3 o3;refine go ?_;refine WO.stC0 (cs:=[.slice r1 r2 r3,.slice f1 f2 f3,.slice s1 s2 s3]) o3 e3 ?_;intro h4 e4 o4 _;have e04:=e1.trans (e2.trans e4);by_cases hs:zY T F=0;case neg=>
  have hs':zY T F≠0:=hs;rw[QD hs,QD hs];refine gr ?_;exact⟨rfl,e04⟩
 have B:=(zJD hs oR oF sS ⟨⟨_,_,_,rfl⟩,⟨_,_,_,rfl⟩,⟨_,_,_,rfl⟩⟩).ext e4;have sF:=B.f.sl;have hF1:=B.hF;have hR8:=B.hR;have hsb:=Zr B.bF;have hsr:=Zr B.bR;rw[QI hs,QI hs,hs];refine go ?_;refine WO.con (zBo h4 _ (zj T F) (zj T F).length B.f (QE _) (by omega) B.bF) ?_;rintro _ _ ⟨rfl,rfl⟩;rw[GC];refine go ?_;refine WX.regionU2 0 rfl rfl ?_;have o4X:=o4.ext (zZ 0 h4);have o4Y:OwnC h2 (inC (zF 0 h4)) p5 [.slice r1 r2 r3,.slice f1 f2 f3,.slice s1 s2 s3]:=o4X;have BX:=B.ext (zZ 0 h4);have BY:TB h1 (inC (zF 0 h4)) (.slice r1 r2 r3) (.slice f1 f2 f3) (.slice s1 s2 s3) (yF T F) (zj T F) (yT T F):=⟨BX.r,BX.f,BX.s,B.hR,B.hF,B.bR,B.bF,B.sh⟩;refine goU ?_;refine WO.con (zEi BY (QE _)) ?_;rintro _ X5 ⟨rfl,e5⟩;refine nE e5 ?_;have o5Z:=o4Y.ext e5;have o5Y:OwnC h2 (inC X5) p5 [.slice r1 r2 r3,.slice f1 f2 f3,.slice s1 s2 s3]:=o5Z;have B5:=BY.ext e5;have B5Y:TB h1 (inC X5) (.slice r1 r2 r3) (.slice f1 f2 f3) (.slice s1 s2 s3) (yF T F) (zj T F) (yT T F):=⟨B5.r,B5.f,B5.s,B.hR,B.hF,B.bR,B.bF,B.sh⟩;have e5':=(zZ 0 h4).trans (yb (h:=h4) e5);unfold zB9 Zo;refine goU ?_;refine zOS o4 (QE _) ?_;refine goU ?_;refine WO.con (Yl B5Y) ?_;rintro _ X6 ⟨rfl,e6⟩;refine nE e6 ?_;rw[hRl];refine gUr ?_;have e6':=e5'.trans (yb (h:=h4) e6);exact⟨rfl,e04.trans e6'⟩
end
set_option maxRecDepth 100000
def yn:List Int->Int->Int×Int
 |[],k=>(0,k)
 |x::l,k=>if x<=k then ((yn l (k - x)).1+1,(yn l (k - x)).2) else (0,k)
theorem zFM:∀ {l:List Int} {k:Int},0<=k->k<l.sum->(0<=(yn l k).1/\(yn l k).1<(l.length:Int))/\(0<=(yn l k).2/\(yn l k).2<l.getD (yn l k).1.toNat 0)/\(l.take (yn l k).1.toNat).sum+(yn l k).2=k
 |[],k,h0,h1=>by simp at h1;omega
 |x::l,k,h0,h1=>by
  unfold yn;split
  ·rename_i hx;simp only[JC]at h1;obtain⟨a,b,c⟩:=zFM (l:=l) (k:=k - x) (by omega) (by omega);have e:((yn l (k - x)).1+1).toNat=(yn l (k - x)).1.toNat+1:=by omega
   simp only[GH];rw[e,List.getD_cons_succ,Qu,JC];refine⟨by omega,b,by omega⟩
  ·rename_i hx;simp only[GH];refine⟨by omega,⟨h0,by simp;omega⟩,by simp⟩
section
variable {h:AHeap} {vt vf:Value} {T:List LType} {F:List LFn}
def ofR (T:List LType) (F:List LFn) (n:Int):Int×Int×Int×Int:=
 if zY T F≠0 then (0,0,0,zY T F) else if ¬(0<=n/\n<Zo F+(zj T F).sum) then (0,0,0,2) else if n=0 then (0,0,0,0) else if n<Zo F then (1,n - 1,0,0) else (2,(yn (zj T F) (n - Zo F)).1,(yn (zj T F) (n - Zo F)).2,0)
def zNd:ACode:=(oV (oV (oR [oM 49 6,oF 0 50 8,oF 1 51 50,oL 52 51,oM 53 5,oI 1 54 52 53,oL 55 54,oB .geq 56 49 55]) (oT 56 1)) (o5 2 (oV (oR [oM 57 6,oF 0 58 8,oF 1 59 58,oL 60 59,oM 61 5,oI 1 62 60 61,oL 63 62,oB .sub 64 57 63,oM 6 64]) (oR [oM 65 5,oC .add 66 65 1,oM 5 66]))))
def zSk:ACode:=(oV (oR [oX 2 0,oK 4 (.int .u8 0),oN 5 0,oN 6 0,oN 7 0]) (oV (oR [oA 2 11 2,o1 12 33 11,oM 10 12,oE 13 10 0,oE 14 10 1,⟨some 8,none,(.alloc [(.slice none 0 0),(.slice none 0 0),(.slice none 0 0)])⟩,oS 3 8 13,oM 7 14]) (oV (oR [oF 0 15 8,oF 1 16 15,oL 17 16,oF 0 18 8,oF 1 19 18,oL 20 19,oQ 21 20,o2 22 46 17 21,oM 9 22]) (oV (o5 0 (oV (oR [oM 24 7,oC .neq 25 24 0,oM 23 25]) (oJ 23 (oV (oR [oM 26 7,oK 4 (.int .u8 0),oN 5 0,oN 6 0,oM 7 26]) .ret) (oV (oR [oM 28 1,oA 3 29 8,o1 30 38 29,oM 31 9,oB .add 32 30 31,o2 33 34 28 32,oW 34 33,oM 27 34]) (oJ 27 (oV (oR [oK 4 (.int .u8 0),oN 5 0,oN 6 0,oN 7 2]) .ret) (oV (oR [oM 36 1,oC .eql 37 36 0,oM 35 37]) (oJ 35 (oV (oR [oK 4 (.int .u8 0),oN 5 0,oN 6 0,oN 7 0]) .ret) (oV (oR [oM 39 1,oA 3 40 8,o1 41 38 40,oB .lss 42 39 41,oM 38 42]) (oJ 38 (oV (oR [oM 43 1,oC .sub 44 43 1,oK 4 (.int .u8 1),oM 5 44,oN 6 0,oN 7 0]) .ret) .skip))))))))) (oV (oR [oM 45 1,oA 3 46 8,o1 47 38 46,oB .sub 48 45 47,oM 6 48]) (oV (o5 1 (.loop zNd)) (oV (oR [oM 67 5,oM 68 6,oK 4 (.int .u8 2),oM 5 67,oM 6 68,oN 7 0]) .ret)))))))
theorem zTM (E:Env h vt vf T F) (n:Int):WC Tryz.prog tb 26 [.agg #[vt,vf],I n] h fun r h'=>r= .tuple #[.int .u8 (ofR T F n).1,I (ofR T F n).2.1,I (ofR T F n).2.2.1,I (ofR T F n).2.2.2]/\Ext h h':=by
 unfold ofR;have hRl:(yF T F).length=F.length:=by unfold yF;simp
 refine en 69 [(4,none),(5,none),(6,none),(7,none)] zSk ?_;refine WO.bx ?_;intro p h1 e1 o1;replace o1:OwnC h h1 p [vt,vf]:=o1;refine go ?_;refine WO.con (Y7 h1 vt vf T F (E.ext e1)) ?_;rintro _ h2 ⟨⟨vR,vF,vS,rfl,⟨r1,r2,r3,rfl⟩,⟨f1,f2,f3,rfl⟩,⟨s1,s2,s3,rfl⟩,oR,oF,sS⟩,e2⟩;refine go ?_;refine WO.al ?_;intro p8 h3 e3 o3;refine go ?_;refine WO.stC0 (cs:=[.slice r1 r2 r3,.slice f1 f2 f3,.slice s1 s2 s3]) o3 e3 ?_;intro h4 e4 o4 _;have e04:=e1.trans (e2.trans e4);by_cases hs:zY T F=0;case neg=>
  have hs':zY T F≠0:=hs;rw[QD hs]at oF;have oF4:=oF.ext e4;have sF4:=oF4.sl;rw[QI hs];refine go ?_;refine WO.con (zBo h4 _ [] ([]:List Int).length oF4 (QE _) (by simp) (fun x hx=>by cases hx)) ?_;rintro _ _ ⟨rfl,rfl⟩;refine gr ?_;exact⟨rfl,e04⟩
 have B:=(zJD hs oR oF sS ⟨⟨_,_,_,rfl⟩,⟨_,_,_,rfl⟩,⟨_,_,_,rfl⟩⟩).ext e4;have sF:=B.f.sl;have hF1:=B.hF;have hR8:=B.hR;have hsb:=Zr B.bF;have hbF:=Hid.mk B.bF;rw[QD (fun e=>e hs),hs];refine go ?_;refine WO.con (zBo h4 _ (zj T F) (zj T F).length B.f (QE _) (by omega) B.bF) ?_;rintro _ _ ⟨rfl,rfl⟩;rw[GC];refine go ?_;refine WO.con (Yl B) ?_;rintro _ h5 ⟨rfl,e5⟩;rw[hRl];have o5:=o4.ext e5;have B5:=B.ext e5;have e05:=e04.trans e5;refine go ?_;refine WO.con (zDJ h5 n (1+F.length+(zj T F).sum)) ?_;rintro _ _ ⟨rfl,rfl⟩;by_cases hn:0<=n/\n<1+F.length+(zj T F).sum;case neg=>
  rw[QW hn,QI (by unfold Zo;exact hn)];refine gr ?_;exact⟨rfl,e05⟩
 rw[QY hn,QD (by unfold Zo;exact fun q=>q hn)];by_cases h0:n=0
 ·rw[QI h0];refine gr ?_;exact⟨rfl,e05⟩
 rw[QD h0];refine go ?_;refine WO.con (Yl B5) ?_;rintro _ h6 ⟨rfl,e6⟩;rw[hRl];have o6:=o5.ext e6;have B6:=B5.ext e6;have e06:=e05.trans e6;by_cases h1:n<Zo F
 ·rw[QI h1];unfold Zo at h1;refine gr ?_;exact⟨rfl,e06⟩
 rw[QD h1];unfold Zo at h1 |-;refine go ?_;refine WO.con (Yl B6) ?_;rintro _ h7 ⟨rfl,e7⟩;rw[hRl];have o7:=o6.ext e7;have B7:=B6.ext e7;have e07:=e06.trans e7;obtain⟨k,hk⟩:∃ k:Int,k=n - (1+F.length):=⟨_,rfl⟩;have hk0:0<=k/\k<(zj T F).sum:=by omega
 rw[<-hk];generalize zj T F=L at *;have sF7:=B7.f.sl;refine go ?_;rw[<-hk];refine WX.loopA [49,50,51,52,53,54,55,56,57,58,59,60,61,62,63,64,6,65,66,5] (by kernel_rfl) (fun i=>L.length - i) (fun i t h8=>h7=h8/\zB t 5=I i/\i<L.length/\zB t 6=I (k - (L.take i).sum)/\0<=k - (L.take i).sum/\yn L k=((yn (L.drop i) (k - (L.take i).sum)).1+i,(yn (L.drop i) (k - (L.take i).sum)).2)) 0 ?_ ?_
 ·have hl:0<L.length:=by
   cases L with
   |nil=>simp at hk0;omega
   |cons _ _=>simp
  refine⟨rfl,sl_,hl,?_,by simp;omega,by simp⟩;rw[Q9,List.sum_nil,Int.sub_zero];exact sl_
 rintro i t h8 hsame ⟨rfl,s5,hi,s6,hp,hq⟩;have hxi:=hbF.out _ (zw hi);have hsum:(L.take (i+1)).sum=(L.take i).sum+L.getD i 0:=by
  rw[Q3,QC hi,List.sum_append];simp[List.getD,QC hi]
 have hdr:L.drop i=L.getD i 0::L.drop (i+1):=by
  rw[GG hi];simp[List.getD,QC hi]
 have htb:=Zr (l:=L.take i) fun x hx=>hbF.out x (GQ hx);refine go ?_;refine WX.br (fun hc=> ?_) (fun hc=> ?_)<;>simp only[DB]at hc
 ·have hi1:i+1<L.length:=by
   refine Gp fun q=> ?_;have e:L.take (i+1)=L:=Qr (by omega);rw[e]at hsum;omega
  refine go ?_;refine zA (i+1) (by omega) ⟨rfl,sln,hi1,?_,by omega,?_⟩
  ·rw[hsum,<-Int.sub_sub];exact sl_
  ·rw[hq,hdr,hsum,<-Int.sub_sub];conv=>lhs;rw[yn,QI (by omega)]
   simp only;congr 1;omega
 ·refine gr ?_;rw[hq,hdr,yn,QD (by omega)];exact⟨by simp;rfl,e07⟩
end
set_option maxRecDepth 100000
theorem zQL {T:List LType} {F:List LFn} (hs:zY T F=0):(∀ x∈yF T F,0<=x/\x<=1000)/\(yF T F).length=F.length/\1<=F.length/\F.length<=8:=by
 have hp:=(ZP hs).1;obtain⟨hc,hF1,hF8,hfn⟩:=ZA hp;refine⟨fun x hx=> ?_,by unfold yF;simp,by omega,by omega⟩;unfold yF at hx;obtain⟨g,hg,rfl⟩:=Q6.1 hx;obtain⟨i,hi,rfl⟩:=YE hg;have Z:=zK2 hp (f:=(i:Int)) (by omega);have h1:=Z.many;have h2:=Z.par4;have h3:=zBw (F.getD i default).blocks;unfold yJ at h1;unfold Yj at h2;rw[Qa]at h1 h2;omega
set_option maxRecDepth 100000
def zR6:ACode:=(oV (oR [oX 3 0,oX 5 2,oN 6 0,oN 7 0]) (oV (oR [oA 2 18 3,o1 19 33 18,oM 17 19,oE 20 17 0,oE 21 17 1,⟨some 8,none,(.alloc [(.slice none 0 0),(.slice none 0 0),(.slice none 0 0)])⟩,oS 3 8 20,oM 9 21]) (oV (oV (oR [oM 22 9,oC .neq 23 22 0]) (oJ 23 (oV (oR [oM 24 9,oN 6 0,oM 7 24]) .ret) .skip)) (oV (o5 0 (oV (oR [oF 0 26 5,oL 27 26,oD .eql 28 27 3,oM 29 28,oG 29 (oF 1 30 5),oG 29 (oL 31 30),oG 29 (oC .geq 32 31 0),oP 33 29 32,oM 34 33,oG 34 (oF 1 35 5),oG 34 (oL 36 35),oG 34 (oF 0 37 8),oG 34 (oF 0 38 37),oG 34 (oL 39 38),oG 34 (oQ 40 39),oG 34 (oB .leq 41 36 40),oP 42 34 41,oM 25 42]) (oJ 25 (oV (oR [oF 1 43 5,oL 44 43,oM 6 44,oN 7 0]) .ret) (oV (oR [oF 0 46 5,oL 47 46,oD .eql 48 47 2,oM 49 48,oG 49 (oF 2 50 5),oG 49 (oL 51 50),oG 49 (oC .eql 52 51 0),oP 53 49 52,oM 45 53]) (oJ 45 (oV (oR [oN 6 0,oN 7 0]) .ret) (oV (oR [oF 0 55 5,oL 56 55,oD .neq 57 56 3,oM 58 57,oG 58 (oF 0 59 5),oG 58 (oL 60 59),oG 58 (oD .neq 61 60 2),oP 62 58 61,oM 54 62]) (oJ 54 (oV (oR [oN 6 0,oN 7 6]) .ret) (oV (o6 [oF 0 64 5,oL 65 64,oD .eql 66 65 3,oM 67 66,oH 67 (oF 2 68 5),oH 67 (oL 69 68),oH 67 (oC .sub 70 69 1),oH 67 (oM 71 1),oH 67 (oQ 72 71),oH 67 (o2 73 34 70 72),oH 67 (oW 74 73),oO 75 67 74,oM 76 75,oH 76 (oM 77 1),oH 76 (oF 2 78 5),oH 76 (oL 79 78),oH 76 (oC .sub 80 79 1),oH 76 (oI 5 81 77 80),oH 76 (oF 0 82 81),oH 76 (oL 83 82),oH 76 (oF 2 84 8),oH 76 (oL 85 84),oH 76 (oQ 86 85),oH 76 (o2 87 34 83 86),oH 76 (oW 88 87),oO 89 76 88,oM 63 89]) (oJ 63 (oV (oR [oN 6 0,oN 7 2]) .ret) .skip))))))))) (oV (oR [oM 90 1,oF 2 91 5,oL 92 91,oC .sub 93 92 1,oI 5 94 90 93,oF 0 95 94,oL 96 95,oM 10 96]) (oV (oV (o6 [oF 0 98 3,oL 99 98,oF 2 100 8,oL 101 100,oM 102 10,oI 3 103 101 102,oF 2 104 103,oL 105 104,o2 106 35 99 105,oM 97 106,oE 107 97 0,oE 108 97 1,oM 11 107,oM 12 108]) (oV (oR [oF 3 109 5,oL 110 109,oM 111 11,oQ 112 111,o2 113 34 110 112,oW 114 113]) (oJ 114 (oV (oR [oN 6 0,oN 7 2]) .ret) .skip))) (oV (o6 [oF 0 116 3,oL 117 116,oF 2 118 8,oL 119 118,oM 120 10,oI 3 121 119 120,oF 2 122 121,oL 123 122,oF 3 124 5,oL 125 124,o3 126 36 117 123 125,oM 115 126,oE 127 115 0,oE 128 115 1,oM 13 127,oM 14 128]) (oV (oR [oA 3 130 8,oM 131 10,oM 132 13,o3 133 37 130 131 132,oM 129 133,oE 134 129 0,oE 135 129 1,oM 15 134,oM 16 135]) (oV (oR [oA 3 136 8,o1 137 38 136,oM 138 15,oB .add 139 137 138,oM 6 139,oN 7 0]) .ret)))))))))
theorem zIA (h:AHeap) (vt vf:Value) (T:List LType) (F:List LFn) (E:Env h vt vf T F) (f:Int) (hs:zY T F=0) (hf:0<=f/\f<=(F.length:Int)):WC Tryz.prog tb 12 [.agg #[vt,vf],.slice none 0 0,.agg #[.int .u8 3,I f,I 0,I 0]] h fun r h'=>r= .tuple #[I f,I 0]/\Ext h h':=by
 have hRl:(yF T F).length=F.length:=by unfold yF;simp
 refine en 140 [(6,none),(7,none)] zR6 ?_;refine WO.bx ?_;intro p h1 e1 o1;replace o1:OwnC h h1 p [vt,vf]:=o1;refine go ?_;refine WO.bx ?_;intro p5 h2 e2 o2;replace o2:OwnC h1 h2 p5 [.int .u8 3,I f,I 0,I 0]:=o2;have o12:=o1.ext e2;have e02:=e1.trans e2;refine go ?_;refine WO.con (Y7 h2 vt vf T F (E.ext e02)) ?_;rintro _ h3 ⟨⟨vR,vF,vS,rfl,⟨r1,r2,r3,rfl⟩,⟨f1,f2,f3,rfl⟩,⟨s1,s2,s3,rfl⟩,oR,oF,sS⟩,e3⟩;have o23:=o2.ext e3;refine go ?_;refine WO.al ?_;intro p8 h4 e4 o4;refine go ?_;refine WO.stC0 (cs:=[.slice r1 r2 r3,.slice f1 f2 f3,.slice s1 s2 s3]) o4 e4 ?_;intro h5 e5 o5 _;have o25:=o23.ext e5;have e05:=e02.trans (e3.trans e5);rw[QI hs]at oR;have sR:=(oR.ext e5).sl;rw[hs];have hfl:f<=((yF T F).length:Int):=by omega
 refine gr ?_;exact⟨rfl,e05⟩
set_option maxRecDepth 100000
theorem zQ6 {T:List LType} {F:List LFn} (hs:zY T F=0):(∀ x∈zj T F,0<=x/\x<=1000)/\(zj T F).length<=1024:=by
 have hp:=(ZP hs).1;obtain⟨hc,hF1,hF8,hfn⟩:=ZA hp;refine⟨fun x hx=> ?_,by unfold zj;rw[Q8];exact zBX hs⟩;unfold zj at hx;obtain⟨s,hs',rfl⟩:=Q6.1 hx;have h1:=zCS hs s hs';have hl:=zI5 hc;have h2:=zFp (s.ty.toNat+1) s.ty.toNat (GN _) fun j hj=>(hl j (by omega)).1;have h3:=(hl s.ty.toNat (by omega)).2;omega
def zTy:ACode:=(oV (oR [oX 2 0,oZ 4]) (oV (oR [⟨some 21,none,(.call (.func 28) [])⟩,oM 5 21]) (oV (oV (oR [oA 2 22 2,⟨some 23,none,(.call (.func 8) [(.tmp 22),(.const (.int .i64 100))])⟩,oM 24 23,oH 24 (oM 25 5),oH 24 (oW 26 25),oO 27 24 26]) (oJ 27 (oV (oR [oM 28 5,oM 4 28]) .ret) .skip)) (oV (oR [oA 2 30 2,oM 31 1,o2 32 26 30 31,oM 29 32,oE 33 29 0,oE 34 29 1,oE 35 29 2,oE 36 29 3,oM 6 33,oM 7 34,oM 8 35,oM 9 36]) (oV (oR [oA 2 38 2,o1 39 16 38,oM 37 39,oE 40 37 0,oE 41 37 1,oE 42 37 2,oM 10 40,oM 11 41,oM 12 42]) (oV (oV (oR [oM 43 9,oC .neq 44 43 0]) (oJ 44 (oV (oR [oM 45 5,oM 46 45,oG 46 (oM 47 6),oG 46 (oD .eql 48 47 0),oP 49 46 48,oM 50 49,oG 50 (oM 51 7),oG 50 (oC .eql 52 51 0),oP 53 50 52,oM 54 53,oG 54 (oM 55 8),oG 54 (oC .eql 56 55 0),oP 57 54 56,oM 4 57]) .ret) .skip)) (oV (oV (oR [oM 58 12,oC .neq 59 58 0,oM 60 59,oH 60 (oM 61 1),oH 60 (oC .lss 62 61 0),oO 63 60 62,oM 64 63,oH 64 (oM 65 1),oH 64 (oM 66 11),oH 64 (oB .geq 67 65 66),oO 68 64 67]) (oJ 68 (oV (oR [oZ 4]) .ret) .skip)) (oV (oV (oR [oM 69 6]) (o5 0 (oV (oR [oD .eql 71 69 0,oM 70 71]) (oJ 70 (oV (oR [oM 72 5,oM 73 72,oG 73 (oM 74 1),oG 73 (oC .eql 75 74 0),oP 76 73 75,oM 4 76]) .ret) (oV (oR [oD .eql 78 69 1,oM 77 78]) (oJ 77 (oV (oR [oA 2 80 2,oM 81 7,oC .add 82 81 1,⟨some 83,none,(.build [(.int .u8 0),(.int .i64 0),(.int .i64 0),(.int .i64 0)] [(0,1,(.const (.int .u8 3))),(1,1,(.tmp 82))])⟩,⟨some 84,none,(.call (.func 12) [(.tmp 80),(.const (.slice none 0 0)),(.tmp 83)])⟩,oM 79 84,oE 85 79 0,oE 86 79 1,oM 13 85,oM 14 86]) (oV (oR [oM 87 5,oM 88 87,oG 88 (oM 89 14),oG 88 (oC .eql 90 89 0),oP 91 88 90,oM 92 91,oG 92 (oM 93 13),oG 92 (oM 94 1),oG 92 (oB .eql 95 93 94),oP 96 92 95,oM 97 96,oG 97 (oM 98 7),oG 97 (oC .geq 99 98 0),oP 100 97 99,oM 101 100,oG 101 (oM 102 7),oG 101 (oF 1 103 2),oG 101 (oL 104 103),oG 101 (oQ 105 104),oG 101 (oB .lss 106 102 105),oP 107 101 106,oM 4 107]) .ret)) .skip)))))) (oV (oR [oA 2 109 2,oM 110 7,oM 111 8,o3 112 24 109 110 111,oM 108 112,oE 113 108 0,oE 114 108 1,oM 15 113,oM 16 114]) (oV (oR [oA 2 116 2,oM 117 7,oM 118 8,o3 119 22 116 117 118,oM 115 119,oE 120 115 0,oE 121 115 1,oM 17 120,oM 18 121]) (oV (oR [oA 2 123 2,oF 1 124 2,oL 125 124,oQ 126 125,oC .sub 127 126 1,o2 128 20 123 127,oM 122 128,oE 129 122 0,oE 130 122 1,oM 19 129,oM 20 130]) (oV (oR (oM 131 5::oM 132 131::oG 132 (oM 133 16)::oG 132 (oC .eql 134 133 0)::oP 135 132 134::oM 136 135::oG 136 (oM 137 18)::oG 136 (oC .eql 138 137 0)::oP 139 136 138::oM 140 139::oG 140 (oM 141 20)::oG 140 (oC .eql 142 141 0)::oP 143 140 142::oM 144 143::oG 144 (oM 145 15)::oG 144 (oM 146 1)::oG 144 (oB .eql 147 145 146)::oP 148 144 147::oM 149 148::oG 149 (oM 150 17)::oG 149 (oM 151 19)::oG 149 (oB .sub 152 150 151)::oG 149 (oM 153 15)::oG 149 (oF 1 154 2)::oG 149 (oL 155 154)::oG 149 (oQ 156 155)::oG 149 (oB .sub 157 153 156)::oG 149 (oB .eql 158 152 157)::oP 159 149 158::oM 160 159::oG 160 (oM 161 10)::oG 160 (oM 162 17)::oG 160 (oB .sub 163 161 162)::oG 160 (oM 164 11)::oG 160 (oM 165 15)::oG 160 (oB .sub 166 164 165)::oG 160 (oB .eql 167 163 166)::oP 168 160 167::oM 4 168::[])) .ret))))))))))))
theorem zHn (h:AHeap) (vt vf:Value) (T:List LType) (F:List LFn) (n:Int) (tt:Tbl h) (hm:h.mark<=h.n) (st:SlT h vt T) (sf:SlF h vf F) (hT:(T.length:Int)<=1152921504606846976) (hF:(F.length:Int)<=1152921504606846976):
  WC Tryz.prog tb 7 [.agg #[vt,vf],I n] h fun r h'=>r= .bool true:=by
 refine en 169 [(4,none)] zTy ?_;refine WO.bx ?_;intro p h1 e1 o1;refine go ?_;refine WO.con (zNy h1 (tt.ext e1).1) ?_;rintro _ _ ⟨rfl,rfl⟩;refine go ?_;refine WO.con (zLi h1 vt vf T F 100 (by omega) (st.ext e1) (SlF.ext sf e1) (by omega) (by omega)) ?_;rintro rr h2 ⟨hr,e2⟩;replace o1:OwnC h h1 p [vt,vf]:=o1;have o2:=o1.ext e2;rcases hr with rfl|⟨rfl,sm,si⟩
 ·refine gr ?_;rfl
 have E:Env h2 vt vf T F:=⟨(tt.ext e1).ext e2,yD e2 (yD e1 hm),sm,(st.ext e1).ext e2,SlF.ext (SlF.ext sf e1) e2⟩;clear st sf tt hm e1 e2;refine go ?_;refine WO.con (zTM E n) ?_;rintro _ h3 ⟨rfl,e3⟩;have o3:=o2.ext e3;have E3:=E.ext e3;refine go ?_;refine WO.con (zN7 E3) ?_;rintro _ h4 ⟨rfl,e4⟩;have o4:=o3.ext e4;have E4:=E3.ext e4;have sf4:=E4.sf;obtain⟨g1,g2,g3,rfl⟩:=zT sf4;unfold ofR;by_cases hs:zY T F=0;case neg=>
  have hs':zY T F≠0:=hs;rw[QI hs,QD hs,QD hs];refine gr ?_;rfl
 obtain⟨hb,hl,hF1,hF8⟩:=zQL hs;rw[QD (fun e=>e hs),QI hs,QI hs,hs];by_cases hn:0<=n/\n<Zo F+(zj T F).sum;case neg=>
  rw[QI hn];dsimp only;refine gr ?_;rfl
 rw[QD (fun q=>q hn)];have hob:Zo F=1+F.length:=rfl;have hfb:=zQ6 hs;have hsf:=Zr hfb.1;have hsr:=Zr hb;have hce:zB9 T F=(yF T F).sum+F.length:=rfl;have han:zRm T F=(yF T F).sum:=rfl;by_cases h0:n=0
 ·rw[QI h0];dsimp only;refine gr ?_;rw[QY h0];rfl
 rw[QD h0];by_cases h1':n<Zo F
 ·rw[QI h1'];dsimp only;refine go ?_;refine WO.con (zIA h4 _ _ T F E4 (n - 1+1) hs (by omega)) ?_;rintro _ h5 ⟨rfl,e5⟩;have o5:=o4.ext e5;have sf5:=SlF.ext sf4 e5;refine gr ?_;rw[QY (show n - 1<(F.length:Int) by omega)];rfl
 rw[QD h1'];dsimp only;have hso:=zFM (l:=zj T F) (k:=n - Zo F) (by omega) (by omega);generalize (yn (zj T F) (n - Zo F)).1=s at *;generalize (yn (zj T F) (n - Zo F)).2=i at *;have hin:zEe T F s i:=hso.1.imp id id |> fun a=>⟨a,hso.2.1⟩;have hE:Zw T F s i=0:=by unfold Zw;rw[QD (fun e=>e hs),QI hin]
 have hV:Yc T F s i=n - Zo F:=by unfold Yc;rw[QI ⟨hs,hin⟩];exact hso.2.2
 refine go ?_;refine WO.con (zI8 E4 s i) ?_;rintro _ h5 ⟨rfl,e5⟩;have o5:=o4.ext e5;have E5:=E4.ext e5;rw[hE,hV,QI ⟨hs,hin⟩];refine go ?_;refine WO.con (zMB E5 s i) ?_;rintro _ h6 ⟨rfl,e6⟩;have o6:=o5.ext e6;have E6:=E5.ext e6;have sf6:=E6.sf;rw[hE,hV,QI ⟨hs,hin⟩];refine go ?_;refine WO.con (zIS E6 ((F.length:Int) - 1)) ?_;rintro _ h7 ⟨rfl,e7⟩;have o7:=o6.ext e7;have E7:=E6.ext e7;have sf7:=E7.sf;rw[QI ⟨hs,by omega,by omega⟩,QD (fun e=>e hs),QI ⟨by omega,by omega⟩];refine gr ?_;rw[QY (by omega)];rfl
def laidL:List (Nat×List Value):=[(0,y9)]
set_option maxRecDepth 1000000 in
theorem zr:(laidL.all fun x=>Nat.ble (x.1+1) Tryz.prog.globals.size&&yQ x.2)=true:=by kernel_rfl
def tab0:Tab:=zJW Tryz.prog
theorem ok0:tab0.Ok Tryz.prog:=zIb _
def q0:TL:=(.sl 7 3 (.cl (.int .u8 11) (.cl (.int .i64 1) (.cl (.int .i64 0) (.cl (.int .i64 0) (.cl (.int .i64 0) (.cl (.slice none 0 0) (.cl (.slice none 0 0) (.cl (.int .u8 12) (.cl (.int .i64 1) (.cl (.int .i64 0) (.cl (.int .i64 0) (.cl (.int .i64 0) (.cl (.slice none 0 0) (.cl (.slice none 0 0) (.cl (.int .u8 1) (.cl (.int .i64 0) (.cl (.int .i64 0) (.cl (.int .i64 0) (.cl (.int .i64 1) (.cl (.slice none 0 0) (.cl (.slice none 0 0) .nil))))))))))))))))))))) (.cl (.int .u8 3) (.cl (.int .i64 2) (.cl (.int .i64 0) (.cl (.int .i64 0) .nil)))))
def q1:TL:=(.sl 7 1 (.cl (.int .u8 1) (.cl (.int .i64 0) (.cl (.int .i64 0) (.cl (.int .i64 0) (.cl (.int .i64 1) (.cl (.slice none 0 0) (.cl (.slice none 0 0) .nil))))))) (.cl (.int .u8 3) (.cl (.int .i64 0) (.cl (.int .i64 0) (.cl (.int .i64 0) .nil)))))
def q2:TL:=(.cl (.int .u8 1) (.cl (.int .i64 0) (.cl (.int .i64 0) (.cl (.slice none 0 0) (.cl (.int .u8 2) (.cl (.int .i64 2) (.cl (.int .i64 0) (.cl (.slice none 0 0) (.cl (.int .u8 4) (.cl (.int .i64 0) (.cl (.int .i64 0) (.sl 1 2 (.cl (.int .i64 0) (.cl (.int .i64 1) .nil)) (.cl (.int .u8 3) (.cl (.int .i64 0) (.cl (.int .i64 0) (.cl (.slice none 0 0) .nil))))))))))))))))
def q3:TL:=(.sl 4 4 q2 (.sl 2 2 (.cl (.int .i64 3) (.sl 5 1 q0 (.cl (.int .i64 3) (.sl 5 1 q1 .nil)))) .nil))
def zMc:TL×TL:=((.ag q3 (.ag (.cl (.int .i64 3) (.sl 5 1 q0 .nil)) .nil)),(.cl (.bool true) .nil))
set_option maxRecDepth 1000000 in
theorem zSN:evM Tryz.prog tab0 700 103 laidL zMc=some (.bool true):=by kernel_rfl
def zMl:TL×TL:=((.ag q3 (.ag (.cl (.int .i64 3) (.sl 5 1 q1 .nil)) .nil)),(.cl (.bool true) .nil))
set_option maxRecDepth 1000000 in
theorem zR4:evM Tryz.prog tab0 700 103 laidL zMl=some (.bool true):=by kernel_rfl
def zUR:List (TL×TL):=[zMc,zMl]
def tab1:Tab:=tab0.know 103 (YN laidL zUR)
theorem ok1:tab1.Ok Tryz.prog:=ok0.know Tryz.checked.mixed (n:=700) zr (List.forall_mem_cons.2 ⟨zSN,List.forall_mem_cons.2 ⟨zR4,fun p hp=>by cases hp⟩⟩)
def zOe:TL×TL:=((.sl 4 4 q2 (.cl (.int .i64 0) (.cl (.slice none 0 0) .nil))),(.cl (.int .i64 1) (.cl (.bool true) .nil)))
set_option maxRecDepth 1000000 in
theorem zTB:evM Tryz.prog tab1 700 107 laidL zOe=some (.bool true):=by kernel_rfl
def zOX:TL×TL:=((.sl 4 4 q2 (.cl (.int .i64 1) (.sl 1 1 (.cl (.int .i64 1) .nil) .nil))),(.cl (.int .i64 1) (.cl (.bool true) .nil)))
set_option maxRecDepth 1000000 in
theorem zRs:evM Tryz.prog tab1 700 107 laidL zOX=some (.bool true):=by kernel_rfl
def zNa:TL×TL:=((.sl 4 4 q2 (.cl (.int .i64 2) (.sl 1 2 (.cl (.int .i64 1) (.cl (.int .i64 1) .nil)) .nil))),(.cl (.int .i64 2) (.cl (.bool true) .nil)))
set_option maxRecDepth 1000000 in
theorem zSA:evM Tryz.prog tab1 700 107 laidL zNa=some (.bool true):=by kernel_rfl
def zN2:TL×TL:=((.sl 4 4 q2 (.cl (.int .i64 3) (.sl 1 3 (.cl (.int .i64 1) (.cl (.int .i64 1) (.cl (.int .i64 2) .nil))) .nil))),(.cl (.int .i64 1) (.cl (.bool true) .nil)))
set_option maxRecDepth 1000000 in
theorem zS3:evM Tryz.prog tab1 700 107 laidL zN2=some (.bool true):=by kernel_rfl
def zUB:List (TL×TL):=[zOe,zOX,zNa,zN2]
def tab2:Tab:=tab1.know 107 (YN laidL zUB)
theorem ok2:tab2.Ok Tryz.prog:=ok1.know Tryz.checked.mixed (n:=700) zr (List.forall_mem_cons.2 ⟨zTB,List.forall_mem_cons.2 ⟨zRs,List.forall_mem_cons.2 ⟨zSA,List.forall_mem_cons.2 ⟨zS3,fun p hp=>by cases hp⟩⟩⟩⟩)
def zRY:TL×TL:=((.sl 4 4 q2 .nil),(.cl (.int .i64 0) .nil))
set_option maxRecDepth 1000000 in
theorem zT2:evM Tryz.prog tab2 700 83 laidL zRY=some (.bool true):=by kernel_rfl
def l83:List (TL×TL):=[zRY]
def tab3:Tab:=tab2.know 83 (YN laidL l83)
theorem ok3:tab3.Ok Tryz.prog:=ok2.know Tryz.checked.mixed (n:=700) zr (List.forall_mem_cons.2 ⟨zT2,fun p hp=>by cases hp⟩)
def zRk:TL×TL:=((.ag q3 .nil),(.cl (.int .i64 0) .nil))
set_option maxRecDepth 1000000 in
theorem zTn:evM Tryz.prog tab3 700 77 laidL zRk=some (.bool true):=by kernel_rfl
def l77:List (TL×TL):=[zRk]
def tab4:Tab:=tab3.know 77 (YN laidL l77)
theorem ok4:tab4.Ok Tryz.prog:=ok3.know Tryz.checked.mixed (n:=700) zr (List.forall_mem_cons.2 ⟨zTn,fun p hp=>by cases hp⟩)
def zRi:TL×TL:=((.ag q3 (.cl (.int .i64 0) .nil)),(.cl (.int .i64 3) (.cl (.int .i64 0) .nil)))
set_option maxRecDepth 1000000 in
theorem zTk:evM Tryz.prog tab4 700 59 laidL zRi=some (.bool true):=by kernel_rfl
def zRR:TL×TL:=((.ag q3 (.cl (.int .i64 1) .nil)),(.cl (.int .i64 1) (.cl (.int .i64 0) .nil)))
set_option maxRecDepth 1000000 in
theorem zTV:evM Tryz.prog tab4 700 59 laidL zRR=some (.bool true):=by kernel_rfl
def l59:List (TL×TL):=[zRi,zRR]
def tab5:Tab:=tab4.know 59 (YN laidL l59)
theorem ok5:tab5.Ok Tryz.prog:=ok4.know Tryz.checked.mixed (n:=700) zr (List.forall_mem_cons.2 ⟨zTk,List.forall_mem_cons.2 ⟨zTV,fun p hp=>by cases hp⟩⟩)
def zOb:TL×TL:=((.ag q3 (.cl (.int .i64 0) .nil)),(.sl 1 1 (.cl (.int .i64 0) .nil) (.cl (.int .i64 0) .nil)))
set_option maxRecDepth 1000000 in
theorem zSu:evM Tryz.prog tab5 700 136 laidL zOb=some (.bool true):=by kernel_rfl
def zMA:TL×TL:=((.ag q3 (.cl (.int .i64 1) .nil)),(.sl 1 1 (.cl (.int .i64 0) .nil) (.cl (.int .i64 0) .nil)))
set_option maxRecDepth 1000000 in
theorem zSo:evM Tryz.prog tab5 700 136 laidL zMA=some (.bool true):=by kernel_rfl
def zUP:List (TL×TL):=[zOb,zMA]
def tab6:Tab:=tab5.know 136 (YN laidL zUP)
theorem ok6:tab6.Ok Tryz.prog:=ok5.know Tryz.checked.mixed (n:=700) zr (List.forall_mem_cons.2 ⟨zSu,List.forall_mem_cons.2 ⟨zSo,fun p hp=>by cases hp⟩⟩)
def zNS:TL×TL:=((.ag q3 (.cl (.int .i64 0) (.cl (.int .i64 0) .nil))),(.cl (.slice none 0 0) (.cl (.int .i64 0) .nil)))
set_option maxRecDepth 1000000 in
theorem zTF:evM Tryz.prog tab6 700 179 laidL zNS=some (.bool true):=by kernel_rfl
def zOM:TL×TL:=((.ag q3 (.cl (.int .i64 1) (.cl (.int .i64 0) .nil))),(.cl (.slice none 0 0) (.cl (.int .i64 0) .nil)))
set_option maxRecDepth 1000000 in
theorem zST:evM Tryz.prog tab6 700 179 laidL zOM=some (.bool true):=by kernel_rfl
def zUA:List (TL×TL):=[zNS,zOM]
def tab7:Tab:=tab6.know 179 (YN laidL zUA)
theorem ok7:tab7.Ok Tryz.prog:=ok6.know Tryz.checked.mixed (n:=700) zr (List.forall_mem_cons.2 ⟨zTF,List.forall_mem_cons.2 ⟨zST,fun p hp=>by cases hp⟩⟩)
def zMX:TL×TL:=((.ag q3 (.cl (.int .i64 0) .nil)),(.sl 1 1 (.cl (.int .i64 0) .nil) (.cl (.int .i64 0) .nil)))
set_option maxRecDepth 1000000 in
theorem zSV:evM Tryz.prog tab7 700 228 laidL zMX=some (.bool true):=by kernel_rfl
def zNV:TL×TL:=((.ag q3 (.cl (.int .i64 1) .nil)),(.sl 1 1 (.cl (.int .i64 0) .nil) (.cl (.int .i64 0) .nil)))
set_option maxRecDepth 1000000 in
theorem zTA:evM Tryz.prog tab7 700 228 laidL zNV=some (.bool true):=by kernel_rfl
def zUO:List (TL×TL):=[zMX,zNV]
def tab8:Tab:=tab7.know 228 (YN laidL zUO)
theorem ok8:tab8.Ok Tryz.prog:=ok7.know Tryz.checked.mixed (n:=700) zr (List.forall_mem_cons.2 ⟨zSV,List.forall_mem_cons.2 ⟨zTA,fun p hp=>by cases hp⟩⟩)
def zMh:TL×TL:=((.ag q3 (.cl (.int .i64 0) .nil)),(.sl 1 1 (.cl (.int .i64 (-1)) .nil) (.cl (.int .i64 0) .nil)))
set_option maxRecDepth 1000000 in
theorem zS5:evM Tryz.prog tab8 700 171 laidL zMh=some (.bool true):=by kernel_rfl
def zNp:TL×TL:=((.ag q3 (.cl (.int .i64 1) .nil)),(.sl 1 1 (.cl (.int .i64 (-1)) .nil) (.cl (.int .i64 0) .nil)))
set_option maxRecDepth 1000000 in
theorem zTG:evM Tryz.prog tab8 700 171 laidL zNp=some (.bool true):=by kernel_rfl
def zUQ:List (TL×TL):=[zMh,zNp]
def tab9:Tab:=tab8.know 171 (YN laidL zUQ)
theorem ok9:tab9.Ok Tryz.prog:=ok8.know Tryz.checked.mixed (n:=700) zr (List.forall_mem_cons.2 ⟨zS5,List.forall_mem_cons.2 ⟨zTG,fun p hp=>by cases hp⟩⟩)
def zMx:TL×TL:=((.ag q3 (.cl (.int .i64 0) .nil)),(.cl (.nilIface) .nil))
set_option maxRecDepth 1000000 in
theorem zRt:evM Tryz.prog tab9 700 104 laidL zMx=some (.bool true):=by kernel_rfl
def zNk:TL×TL:=((.ag q3 (.cl (.int .i64 1) .nil)),(.cl (.nilIface) .nil))
set_option maxRecDepth 1000000 in
theorem zTO:evM Tryz.prog tab9 700 104 laidL zNk=some (.bool true):=by kernel_rfl
def zUG:List (TL×TL):=[zMx,zNk]
def tab10:Tab:=tab9.know 104 (YN laidL zUG)
theorem ok10:tab10.Ok Tryz.prog:=ok9.know Tryz.checked.mixed (n:=700) zr (List.forall_mem_cons.2 ⟨zRt,List.forall_mem_cons.2 ⟨zTO,fun p hp=>by cases hp⟩⟩)
def zRW:TL×TL:=((.ag q3 .nil),(.cl (.int .i64 0) .nil))
set_option maxRecDepth 1000000 in
theorem zTo:evM Tryz.prog tab10 700 78 laidL zRW=some (.bool true):=by kernel_rfl
def l78:List (TL×TL):=[zRW]
def tab11:Tab:=tab10.know 78 (YN laidL l78)
theorem ok11:tab11.Ok Tryz.prog:=ok10.know Tryz.checked.mixed (n:=700) zr (List.forall_mem_cons.2 ⟨zTo,fun p hp=>by cases hp⟩)
def zRd:TL×TL:=((.sl 4 4 q2 (.cl (.int .i64 2) .nil)),(.sl 1 2 (.cl (.int .i64 0) (.cl (.int .i64 1) .nil)) (.cl (.int .i64 0) .nil)))
set_option maxRecDepth 1000000 in
theorem zTt:evM Tryz.prog tab11 700 35 laidL zRd=some (.bool true):=by kernel_rfl
def l35:List (TL×TL):=[zRd]
def tab12:Tab:=tab11.know 35 (YN laidL l35)
theorem ok12:tab12.Ok Tryz.prog:=ok11.know Tryz.checked.mixed (n:=700) zr (List.forall_mem_cons.2 ⟨zTt,fun p hp=>by cases hp⟩)
def zRV:TL×TL:=((.sl 4 4 q2 (.cl (.int .i64 2) .nil)),(.sl 1 2 (.cl (.int .i64 0) (.cl (.int .i64 1) .nil)) (.cl (.int .i64 0) .nil)))
set_option maxRecDepth 1000000 in
theorem zTa:evM Tryz.prog tab12 700 60 laidL zRV=some (.bool true):=by kernel_rfl
def l60:List (TL×TL):=[zRV]
def tab13:Tab:=tab12.know 60 (YN laidL l60)
theorem ok13:tab13.Ok Tryz.prog:=ok12.know Tryz.checked.mixed (n:=700) zr (List.forall_mem_cons.2 ⟨zTa,fun p hp=>by cases hp⟩)
def zRU:TL×TL:=((.ag q3 .nil),(.sl 3 2 (.cl (.int .i64 0) (.cl (.int .i64 0) (.cl (.int .i64 2) (.cl (.int .i64 0) (.cl (.int .i64 1) (.cl (.int .i64 2) .nil)))))) (.cl (.int .i64 0) .nil)))
set_option maxRecDepth 1000000 in
theorem zTr:evM Tryz.prog tab13 700 58 laidL zRU=some (.bool true):=by kernel_rfl
def l58:List (TL×TL):=[zRU]
def tab14:Tab:=tab13.know 58 (YN laidL l58)
theorem ok14:tab14.Ok Tryz.prog:=ok13.know Tryz.checked.mixed (n:=700) zr (List.forall_mem_cons.2 ⟨zTr,fun p hp=>by cases hp⟩)
def zRf:TL×TL:=((.ag q3 .nil),(.ag (.sl 1 2 (.cl (.int .i64 3) (.cl (.int .i64 1) .nil)) (.sl 1 2 (.cl (.int .i64 2) (.cl (.int .i64 2) .nil)) (.sl 3 2 (.cl (.int .i64 0) (.cl (.int .i64 0) (.cl (.int .i64 2) (.cl (.int .i64 0) (.cl (.int .i64 1) (.cl (.int .i64 2) .nil)))))) .nil))) (.cl (.int .i64 0) .nil)))
set_option maxRecDepth 1000000 in
theorem zTS:evM Tryz.prog tab14 700 33 laidL zRf=some (.bool true):=by kernel_rfl
def l33:List (TL×TL):=[zRf]
def tab15:Tab:=tab14.know 33 (YN laidL l33)
theorem ok15:tab15.Ok Tryz.prog:=ok14.know Tryz.checked.mixed (n:=700) zr (List.forall_mem_cons.2 ⟨zTS,fun p hp=>by cases hp⟩)
def zRe:TL×TL:=((.cl (.string ⟨⟨[116,121,112,101,32,105,110,116,10,116,121,112,101,32,112,116,114,32,116,50,10,116,121,112,101,32,115,116,114,117,99,116,32,116,48,32,116,49,10,116,121,112,101,32,102,110,32,116,48,10,102,117,110,99,32,116,51,10,98,108,111,99,107,10,114,48,32,116,49,32,61,32,110,101,119,10,114,49,32,116,49,32,61,32,108,111,99,97,108,10,114,50,32,116,48,32,61,32,105,110,116,32,49,10,114,101,116,117,114,110,32,114,50,10,102,117,110,99,32,116,51,10,98,108,111,99,107,10,114,48,32,116,48,32,61,32,105,110,116,32,49,10,114,101,116,117,114,110,32,114,48,10]⟩⟩) .nil),(.sl 1 14 (.sl 1 2 (.cl (.string ⟨⟨[116,121,112,101]⟩⟩) (.cl (.string ⟨⟨[105,110,116]⟩⟩) .nil)) (.sl 1 3 (.cl (.string ⟨⟨[116,121,112,101]⟩⟩) (.cl (.string ⟨⟨[112,116,114]⟩⟩) (.cl (.string ⟨⟨[116,50]⟩⟩) .nil))) (.sl 1 4 (.cl (.string ⟨⟨[116,121,112,101]⟩⟩) (.cl (.string ⟨⟨[115,116,114,117,99,116]⟩⟩) (.cl (.string ⟨⟨[116,48]⟩⟩) (.cl (.string ⟨⟨[116,49]⟩⟩) .nil)))) (.sl 1 3 (.cl (.string ⟨⟨[116,121,112,101]⟩⟩) (.cl (.string ⟨⟨[102,110]⟩⟩) (.cl (.string ⟨⟨[116,48]⟩⟩) .nil))) (.sl 1 2 (.cl (.string ⟨⟨[102,117,110,99]⟩⟩) (.cl (.string ⟨⟨[116,51]⟩⟩) .nil)) (.sl 1 1 (.cl (.string ⟨⟨[98,108,111,99,107]⟩⟩) .nil) (.sl 1 4 (.cl (.string ⟨⟨[114,48]⟩⟩) (.cl (.string ⟨⟨[116,49]⟩⟩) (.cl (.string ⟨⟨[61]⟩⟩) (.cl (.string ⟨⟨[110,101,119]⟩⟩) .nil)))) (.sl 1 4 (.cl (.string ⟨⟨[114,49]⟩⟩) (.cl (.string ⟨⟨[116,49]⟩⟩) (.cl (.string ⟨⟨[61]⟩⟩) (.cl (.string ⟨⟨[108,111,99,97,108]⟩⟩) .nil)))) (.sl 1 5 (.cl (.string ⟨⟨[114,50]⟩⟩) (.cl (.string ⟨⟨[116,48]⟩⟩) (.cl (.string ⟨⟨[61]⟩⟩) (.cl (.string ⟨⟨[105,110,116]⟩⟩) (.cl (.string ⟨⟨[49]⟩⟩) .nil))))) (.sl 1 2 (.cl (.string ⟨⟨[114,101,116,117,114,110]⟩⟩) (.cl (.string ⟨⟨[114,50]⟩⟩) .nil)) (.sl 1 2 (.cl (.string ⟨⟨[102,117,110,99]⟩⟩) (.cl (.string ⟨⟨[116,51]⟩⟩) .nil)) (.sl 1 1 (.cl (.string ⟨⟨[98,108,111,99,107]⟩⟩) .nil) (.sl 1 5 (.cl (.string ⟨⟨[114,48]⟩⟩) (.cl (.string ⟨⟨[116,48]⟩⟩) (.cl (.string ⟨⟨[61]⟩⟩) (.cl (.string ⟨⟨[105,110,116]⟩⟩) (.cl (.string ⟨⟨[49]⟩⟩) .nil))))) (.sl 1 2 (.cl (.string ⟨⟨[114,101,116,117,114,110]⟩⟩) (.cl (.string ⟨⟨[114,48]⟩⟩) .nil)) .nil)))))))))))))) (.cl (.int .i64 0) .nil)))
set_option maxRecDepth 1000000 in
theorem zTX:evM Tryz.prog tab15 700 74 laidL zRe=some (.bool true):=by kernel_rfl
def l74:List (TL×TL):=[zRe]
def tab16:Tab:=tab15.know 74 (YN laidL l74)
theorem ok16:tab16.Ok Tryz.prog:=ok15.know Tryz.checked.mixed (n:=700) zr (List.forall_mem_cons.2 ⟨zTX,fun p hp=>by cases hp⟩)
def zRg:TL×TL:=((.cl (.string ⟨⟨[116,121,112,101,32,105,110,116,10,116,121,112,101,32,112,116,114,32,116,50,10,116,121,112,101,32,115,116,114,117,99,116,32,116,48,32,116,49,10,116,121,112,101,32,102,110,32,116,48,10,102,117,110,99,32,116,51,10,98,108,111,99,107,10,114,48,32,116,49,32,61,32,110,101,119,10,114,49,32,116,49,32,61,32,108,111,99,97,108,10,114,50,32,116,48,32,61,32,105,110,116,32,49,10,114,101,116,117,114,110,32,114,50,10,102,117,110,99,32,116,51,10,98,108,111,99,107,10,114,48,32,116,48,32,61,32,105,110,116,32,49,10,114,101,116,117,114,110,32,114,48,10]⟩⟩) .nil),(.ag q3 (.cl (.int .i64 0) .nil)))
set_option maxRecDepth 1000000 in
theorem zTz:evM Tryz.prog tab16 700 57 laidL zRg=some (.bool true):=by kernel_rfl
def l57:List (TL×TL):=[zRg]
def tab17:Tab:=tab16.know 57 (YN laidL l57)
theorem zUF:tab17.Ok Tryz.prog:=ok16.know Tryz.checked.mixed (n:=700) zr (List.forall_mem_cons.2 ⟨zTz,fun p hp=>by cases hp⟩)
set_option maxRecDepth 1000000 in
theorem zL5:(zH9 Tryz.prog tab17 700).call 28 [] (Zl Tryz.prog.globals.size [(0,y9)]) (fun v _=>some v)=some (.bool true):=by kernel_rfl
theorem zM5:((aex Tryz.prog tab17 700).call 28 [] (Zl Tryz.prog.globals.size [(0,y9)])).map (·.1)=some (.bool true):=zMz zL5
set_option maxRecDepth 1000000 in
theorem tb_ok:tb.Ok Tryz.prog where
 code:=fun _ _ h=>h
 stub:=fun f s hs=>by
  have hs:(if f=28 then some (zAq [(0,y9)] (.bool true)) else none)=some s:=hs;split at hs
  ·rename_i e;subst e;cases hs;exact zGw Tryz.checked.mixed zUF rfl (fun x hx=>by
    have h1:=QU.1 zr x hx;rw[QF]at h1;exact⟨QL h1.1,h1.2⟩) zM5
  ·cases hs
 grow:=fun f s hs args h v h' hk=>by
  have hs:(if f=28 then some (zAq [(0,y9)] (.bool true)) else none)=some s:=hs;split at hs
  ·cases hs;exact zHz args h v h' hk
  ·cases hs
end
end Go.Proofs.YtfnndahpddkniaaGreatDoor
