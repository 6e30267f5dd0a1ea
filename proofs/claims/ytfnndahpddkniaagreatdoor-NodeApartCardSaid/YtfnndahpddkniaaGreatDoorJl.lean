/- What functions of the program come to in the abstract machine, and plain laws about it; no statement of the seat is proved in this text. -/
import Derived.Test.YtfnndahpddkniaaGreatDoorJk
import Derived.Test.YtfnndahpddkniaaGreatDoorJb
import Derived.Test.YtfnndahpddkniaaGreatDoorJa
import Derived.Test.YtfnndahpddkniaaGreatDoorAmM
set_option linter.unusedVariables false
set_option linter.unusedSimpArgs false
set_option maxHeartbeats 2000000
namespace Go.Proofs.YtfnndahpddkniaaGreatDoor
noncomputable section
open Go.Am
set_option maxRecDepth 100000
theorem zBW:∀ {l:List Int},(∀ x∈l,0<=x/\x<=1000)->0<=l.sum/\l.sum<=1000 * l.length
 |[],_=>by simp
 |x::l,h=>by
  have:=zBW fun y hy=>h y (Qj _ hy);have:=h x (Qf ..);simp only[List.sum_cons,GS];omega
theorem zNW {h0 h:AHeap} {v:Value} {l:List Int} {n:Nat} (o:OwnN h0 h v l) (hn:n<=l.length):∃ r,ZY 1 v none (some n) none=some r/\SlI h r (l.take n):=by
 rcases o with ⟨rfl,rfl⟩|⟨g,g1,g2,rfl,g3⟩
 ·obtain rfl:n=0:=Nat.le_zero.1 hn;exact⟨.slice none 0 0,rfl,SlI.nil h⟩
 ·have hlen:(l.take n).length=n:=by rw[Q7];omega
  refine⟨.slice (some ⟨g,0+0 * 1,none⟩) (n - 0) 1,?_,by simp,.inr ⟨g,0,l.map I,by rw[hlen];simp,ZB g3,?_,g2⟩⟩
  ·have b1:Nat.ble 0 n=true:=QH (QV _);have b2:Nat.ble n l.length=true:=QH hn;simp only[ZY,Gl,Q9,b1,b2,Qv,Qz,cond_true,Gh]
  ·rw[yv (by rw[hlen];simp;omega),List.map_take,hlen];simp
def zSH:ACode:=(oV (oR [oZ 4]) (oV (oR [oM 5 0,oC .geq 6 5 0,oM 7 6,oG 7 (oM 8 0),oG 7 (oM 9 1),oG 7 (oB .lss 10 8 9),oP 11 7 10,oM 4 11]) .ret))
theorem zF4 (h:AHeap) (i n:Int):WC Tryz.prog tb 34 [I i,I n] h fun r h'=>r= .bool (decide (0<=i/\i<n))/\h=h':=by
 refine en 12 [(4,none)] zSH ?_;by_cases h0:0<=i
 ·refine gr ?_;exact⟨by simp[h0];rfl,rfl⟩
 ·refine gr ?_;exact⟨by simp[h0];rfl,rfl⟩
def zMI:ACode:=(oV (oR [oB .lss 12 11 10]) (oV (oT 12 0) (oV (o5 1 (oV (oR [oI 1 13 9 11,oL 14 13,oM 6 14]) (oR [oM 15 4,oM 16 6,oB .add 17 15 16,oM 4 17]))) (oR [oC .add 18 11 1,oM 11 18]))))
def zSI:ACode:=(oV (oR [oN 4 0]) (oV (oV (oR [oM 7 0,oM 8 1,⟨some 9,none,(.slice 1 (.tmp 7) none (some (.tmp 8)) none)⟩,oQ 10 9,oN 11 0]) (o5 0 (.loop zMI))) (oV (oR [oM 19 4,oM 4 19]) .ret)))
theorem zJA (h:AHeap) (v:Value) (l:List Int) (n:Nat) {h0:AHeap} (o:OwnN h0 h v l) (hn:n<=l.length) (hl:l.length<=2000) (hb:∀ x∈l,0<=x/\x<=1000):
  WC Tryz.prog tb 46 [v,I n] h fun r h'=>r=I (l.take n).sum/\h=h':=by
 have s:=o.sl;obtain⟨v1,v2,v3,rfl⟩:=SlC.shape s;obtain⟨r,hr,sr⟩:=zNW o hn;replace hb:=Hid.mk hb;refine en 20 [(4,none)] zSI ?_;refine WO.slHi hr ?_;have hlen:(l.take n).length=n:=by rw[Q7];omega
 have hbt:∀ x∈l.take n,0<=x/\x<=1000:=fun x hx=>hb.out x (GY hx);generalize l.take n=m at *;obtain⟨r1,r2,r3,rfl⟩:=SlC.shape sr;replace hbt:=Hid.mk hbt;refine go ?_;refine WX.loopA [12,13,14,6,15,16,17,4,18,11] (by kernel_rfl) (fun i=>m.length - i) (fun i t h1=>h=h1/\zB t 11=I i/\i<=m.length/\zB t 4=I (m.take i).sum) 0 ?_ ?_
 ·exact⟨rfl,sl_,QV _,sl_⟩
 rintro i t h1 hsame ⟨rfl,s11,hi,s4⟩;have hsb:=zBW (l:=m.take i) fun x hx=>hbt.out x (GY hx);have hli:(m.take i).length<=i:=List.length_take_le _ _;refine go ?_;refine WX.br (fun hc=> ?_) (fun hc=> ?_)<;>simp only[DB]at hc
 ·have hi':i<m.length:=by omega
  have hx:=hbt.out _ (zz hi');have hsum:(m.take (i+1)).sum=(m.take i).sum+m.getD i 0:=by
   rw[Q3,QC hi',List.sum_append];simp[List.getD,QC hi']
  refine go ?_;exact zA (i+1) (by omega) ⟨rfl,sln,by omega,by rw[hsum];exact sl_⟩
 ·have hii:i=m.length:=by omega
  subst hii;rw[GL]at s4;refine gr ?_;exact⟨rfl,rfl⟩
structure TB (h0 h:AHeap) (vR vF vS:Value) (Rg Fl:List Int) (S:List LSite):Prop where
 r:OwnN h0 h vR Rg
 f:OwnN h0 h vF Fl
 s:OwnR 3 RSt h0.n h vS S
 hR:Rg.length<=8
 hF:Fl.length<=1024
 bR:∀ x∈Rg,0<=x/\x<=1000
 bF:∀ x∈Fl,0<=x/\x<=1000
 sh:(∃ a n c,vR= .slice a n c)/\(∃ a n c,vF= .slice a n c)/\(∃ a n c,vS= .slice a n c)
theorem TB.ext {h0 h h':AHeap} {vR vF vS:Value} {Rg Fl:List Int} {S:List LSite} (B:TB h0 h vR vF vS Rg Fl S) (e:Ext h h'):TB h0 h' vR vF vS Rg Fl S:=⟨B.r.ext e,B.f.ext e,OwnR.ext B.s e,B.hR,B.hF,B.bR,B.bF,B.sh⟩
section
variable {h0 h:AHeap} {vR vF vS:Value} {Rg Fl:List Int} {S:List LSite}
def zSy:ACode:=(oV (oR [oX 1 0,oN 2 0]) (oV (oR [oF 0 3 1,oF 0 4 3,oL 5 4,oF 0 6 1,oF 0 7 6,oL 8 7,oQ 9 8,o2 10 46 5 9,oM 2 10]) .ret))
theorem zIP (B:TB h0 h vR vF vS Rg Fl S):WC Tryz.prog tb 53 [.agg #[vR,vF,vS]] h fun r h'=>r=I Rg.sum/\Ext h h':=by
 obtain⟨⟨r1,r2,r3,rfl⟩,⟨f1,f2,f3,rfl⟩,⟨s1,s2,s3,rfl⟩⟩:=B.sh;refine en 11 [(2,none)] zSy ?_;refine WO.bx ?_;intro p h1 e1 o1;replace o1:OwnC h h1 p [.slice r1 r2 r3,.slice f1 f2 f3,.slice s1 s2 s3]:=o1;have B1:=B.ext e1;have sR:=B1.r.sl;have hR:=B.hR;refine go ?_;refine WO.con (zJA h1 _ Rg Rg.length B1.r (QE _) (by omega) B.bR) ?_;rintro _ h2 ⟨rfl,rfl⟩;rw[GL];refine gr ?_;exact⟨rfl,e1⟩
end
set_option maxRecDepth 100000
section
variable {h:AHeap} {vt vf:Value} {T:List LType} {F:List LFn}
theorem zRN {h h':AHeap} {vR vF vS:Value} (hs:yB T F=0) (r:OwnN h h' vR (if yB T F=0 then zl T F else [])) (q:OwnN h h' vF (if yB T F=0 then Zu T F else [])) (s:OwnR 3 RSt h.n h' vS (if yB T F=0 then yp T F else []))
  (sh:(∃ a n c,vR= .slice a n c)/\(∃ a n c,vF= .slice a n c)/\(∃ a n c,vS= .slice a n c)):TB h h' vR vF vS (zl T F) (Zu T F) (yp T F):=by
 rw[QJ hs]at r q s;have hp:=(Zh hs).1;obtain⟨hc,hF1,hF8,hfn⟩:=ZM hp;refine⟨r,q,s,by unfold zl;simpa using hF8,by unfold Zu;rw[GA];exact zEJ hs,fun x hx=> ?_,fun x hx=> ?_,sh⟩
 ·unfold zl at hx;obtain⟨g,hg,rfl⟩:=Q6.1 hx;obtain⟨i,hi,rfl⟩:=Z8 hg;have Z:=zKR hp (f:=(i:Int)) (by omega);have h1:=Z.many;have h2:=Z.par4;have h3:=zCK (F.getD i default).blocks;unfold yI at h1;unfold Yf at h2;rw[Qa]at h1 h2;omega
 ·unfold Zu at hx;obtain⟨s,hs',rfl⟩:=Q6.1 hx;have h1:=zE9 hs s hs';have hl:=zN3 hc;have h2:=zIh (s.ty.toNat+1) s.ty.toNat (GR _) fun j hj=>(hl j (by omega)).1;have h3:=(hl s.ty.toNat (by omega)).2;omega
def zHL (T:List LType) (F:List LFn):Int:=(zl T F).sum
def zSR:ACode:=(oV (oR [oX 2 0,oN 4 0,oN 5 0]) (oV (oR [oA 2 9 2,o1 10 33 9,oM 8 10,oE 11 8 0,oE 12 8 1,⟨some 6,none,(.alloc [(.slice none 0 0),(.slice none 0 0),(.slice none 0 0)])⟩,oS 3 6 11,oM 7 12]) (oV (o5 0 (oV (oR [oM 14 7,oC .neq 15 14 0,oM 13 15]) (oJ 13 (oV (oR [oM 16 7,oN 4 0,oM 5 16]) .ret) (oV (oR [oM 18 1,oF 0 19 6,oF 0 20 19,oL 21 20,oQ 22 21,o2 23 34 18 22,oW 24 23,oM 17 24]) (oJ 17 (oV (oR [oN 4 0,oN 5 2]) .ret) .skip))))) (oV (oR [oA 3 25 6,o1 26 53 25,oM 27 1,oB .add 28 26 27,oM 4 28,oN 5 0]) .ret))))
theorem zIU (E:Env h vt vf T F) (f:Int):WC Tryz.prog tb 20 [.agg #[vt,vf],I f] h fun r h'=>r= .tuple #[I (if yB T F=0/\0<=f/\f<(F.length:Int) then zHL T F+f else 0),I (if yB T F≠0 then yB T F else if 0<=f/\f<(F.length:Int) then 0 else 2)]/\Ext h h':=by
 refine en 29 [(4,none),(5,none)] zSR ?_;refine WO.bx ?_;intro p h1 e1 o1;replace o1:OwnC h h1 p [vt,vf]:=o1;refine go ?_;refine WO.con (zEk h1 vt vf T F (E.ext e1)) ?_;rintro _ h2 ⟨⟨vR,vF,vS,rfl,⟨r1,r2,r3,rfl⟩,⟨f1,f2,f3,rfl⟩,⟨s1,s2,s3,rfl⟩,oR,oF,sS⟩,e2⟩;refine go ?_;refine WO.al ?_;intro p6 h3 e3 o3;refine go ?_;refine WO.stC0 (cs:=[.slice r1 r2 r3,.slice f1 f2 f3,.slice s1 s2 s3]) o3 e3 ?_;intro h4 e4 o4 _;have e04:=e1.trans (e2.trans e4);by_cases hs:yB T F=0;case neg=>
  have hs':yB T F≠0:=hs;rw[QD (fun e=>hs e.1),QJ hs];refine gr ?_;exact⟨rfl,e04⟩
 have B:=(zRN hs oR oF sS ⟨⟨_,_,_,rfl⟩,⟨_,_,_,rfl⟩,⟨_,_,_,rfl⟩⟩).ext e4;have sR:=B.r.sl;have hRl:(zl T F).length=F.length:=by unfold zl;simp
 rw[hs];refine go ?_;refine WO.con (zF4 h4 f (zl T F).length) ?_;rintro _ _ ⟨rfl,rfl⟩;rw[hRl];by_cases hf:0<=f/\f<(F.length:Int);case neg=>
  rw[QY hf,QD (fun e=>hf e.2),QD (fun e=>e rfl),QD hf];refine gr ?_;exact⟨rfl,e04⟩
 rw[QX hf,QJ ⟨rfl,hf⟩,QD (fun e=>e rfl),QJ hf];have hsb:=zBW B.bR;have hR8:=B.hR;refine go ?_;refine WO.con (zIP B) ?_;rintro _ h5 ⟨rfl,e5⟩;refine gr ?_;exact⟨rfl,e04.trans e5⟩
def zS6 (T:List LType) (F:List LFn) (s i:Int):Prop:=(0<=s/\s<((Zu T F).length:Int))/\0<=i/\i<(Zu T F).getD s.toNat 0
instance (T:List LType) (F:List LFn) (s i:Int):Decidable (zS6 T F s i):=by unfold zS6;infer_instance
end
set_option maxRecDepth 100000
section
variable {h:AHeap} {vt vf:Value} {T:List LType} {F:List LFn}
def zIy (T:List LType) (F:List LFn) (f r:Int):Prop:=(0<=f/\f<(F.length:Int))/\0<=r/\r<(zl T F).getD f.toNat 0
def zCP (T:List LType) (F:List LFn) (f r:Int):Int:=open Classical in if yB T F≠0 then yB T F else if zIy T F f r then 0 else 2
def zA2 (T:List LType) (F:List LFn) (f r:Int):Int:=open Classical in if yB T F=0/\zIy T F f r then ((zl T F).take f.toNat).sum+r else 0
def zRh:ACode:=(oV (oR [oX 3 0,oN 6 0,oN 7 0]) (oV (oR [oA 2 11 3,o1 12 33 11,oM 10 12,oE 13 10 0,oE 14 10 1,⟨some 8,none,(.alloc [(.slice none 0 0),(.slice none 0 0),(.slice none 0 0)])⟩,oS 3 8 13,oM 9 14]) (oV (o5 0 (oV (oR [oM 16 9,oC .neq 17 16 0,oM 15 17]) (oJ 15 (oV (oR [oM 18 9,oN 6 0,oM 7 18]) .ret) (oV (oR [oM 20 1,oF 0 21 8,oF 0 22 21,oL 23 22,oQ 24 23,o2 25 34 20 24,oW 26 25,oM 27 26,oH 27 (oM 28 2),oH 27 (oF 0 29 8),oH 27 (oF 0 30 29),oH 27 (oL 31 30),oH 27 (oM 32 1),oH 27 (oI 1 33 31 32),oH 27 (oL 34 33),oH 27 (o2 35 34 28 34),oH 27 (oW 36 35),oO 37 27 36,oM 19 37]) (oJ 19 (oV (oR [oN 6 0,oN 7 2]) .ret) .skip))))) (oV (oR [oF 0 38 8,oF 0 39 38,oL 40 39,oM 41 1,o2 42 46 40 41,oM 43 2,oB .add 44 42 43,oM 6 44,oN 7 0]) .ret))))
theorem zC9 (E:Env h vt vf T F) (f r:Int):WC Tryz.prog tb 18 [.agg #[vt,vf],I f,I r] h fun r' h'=>r'= .tuple #[I (zA2 T F f r),I (zCP T F f r)]/\Ext h h':=by
 unfold zA2 zCP;have hRl:(zl T F).length=F.length:=by unfold zl;simp
 refine en 45 [(6,none),(7,none)] zRh ?_;refine WO.bx ?_;intro p h1 e1 o1;replace o1:OwnC h h1 p [vt,vf]:=o1;refine go ?_;refine WO.con (zEk h1 vt vf T F (E.ext e1)) ?_;rintro _ h2 ⟨⟨vR,vF,vS,rfl,⟨r1,r2,r3,rfl⟩,⟨f1,f2,f3,rfl⟩,⟨s1,s2,s3,rfl⟩,oR,oF,sS⟩,e2⟩;refine go ?_;refine WO.al ?_;intro p8 h3 e3 o3;refine go ?_;refine WO.stC0 (cs:=[.slice r1 r2 r3,.slice f1 f2 f3,.slice s1 s2 s3]) o3 e3 ?_;intro h4 e4 o4 _;have e04:=e1.trans (e2.trans e4);by_cases hs:yB T F=0;case neg=>
  have hs':yB T F≠0:=hs;rw[QD (fun e=>hs e.1),QJ hs];refine gr ?_;exact⟨rfl,e04⟩
 have B:=(zRN hs oR oF sS ⟨⟨_,_,_,rfl⟩,⟨_,_,_,rfl⟩,⟨_,_,_,rfl⟩⟩).ext e4;have sR:=B.r.sl;rw[hs];refine go ?_;refine WO.con (zF4 h4 f (zl T F).length) ?_;rintro _ _ ⟨rfl,rfl⟩;rw[hRl];by_cases hf:0<=f/\f<(F.length:Int);case neg=>
  have hn:¬zIy T F f r:=fun e=>hf e.1;rw[QY hf,QD (fun e=>hn e.2),QD (fun e=>e rfl),QD hn];refine gr ?_;exact⟨rfl,e04⟩
 rw[QX hf];have hfl:f<((zl T F).length:Int):=by omega
 refine go ?_;refine WO.con (zF4 h4 r ((zl T F).getD f.toNat 0)) ?_;rintro _ _ ⟨rfl,rfl⟩;have hR8:=B.hR;by_cases hr:0<=r/\r<(zl T F).getD f.toNat 0;case neg=>
  have hn:¬zIy T F f r:=fun e=>hr e.2;rw[QY hr,QD (fun e=>hn e.2),QD (fun e=>e rfl),QD hn];refine gr ?_;exact⟨rfl,e04⟩
 have hi:zIy T F f r:=⟨hf,hr⟩;rw[QX hr,QJ ⟨rfl,hi⟩,QD (fun e=>e rfl),QJ hi];have hx:=B.bR _ (zz (l:=zl T F) (i:=f.toNat) (by omega));have hsb:=zBW (l:=(zl T F).take f.toNat) fun x hx=>B.bR x (GY hx);have hlt:((zl T F).take f.toNat).length<=8:=QS (by rw[Q7];omega) hR8;obtain⟨k,rfl⟩:∃ k:Nat,f=k:=⟨f.toNat,by omega⟩;rw[Qa]at *;refine go ?_;refine WO.con (zJA h4 _ (zl T F) k B.r (by omega) (by omega) B.bR) ?_;rintro _ _ ⟨rfl,rfl⟩;refine gr ?_;exact⟨rfl,e04⟩
end
set_option maxRecDepth 100000
section
variable {h:AHeap} {vt vf:Value} {T:List LType} {F:List LFn}
end
set_option maxRecDepth 100000
theorem zC6 {T:List LType} {F:List LFn} {f r:Int} (h:zCP T F f r=0):yB T F=0/\zIy T F f r/\zA2 T F f r=((zl T F).take f.toNat).sum+r:=by
 unfold zCP at h;split at h
 ·rename_i q;exact absurd h q
 ·rename_i q;have q:=Classical.not_not.1 q;split at h
  ·rename_i i;refine⟨q,i,?_⟩;unfold zA2;rw[QJ ⟨q,i⟩]
  ·cases h
theorem zPg {T:List LType} {F:List LFn} {f r:Int} (hs:yB T F=0) (h:zIy T F f r):zCP T F f r=0:=by
 unfold zCP;rw[QD (fun e=>e hs),QJ h]
theorem zQ7 {T:List LType} {F:List LFn} (hs:yB T F=0):(∀ x∈zl T F,0<=x/\x<=1000)/\(zl T F).length=F.length/\1<=F.length/\F.length<=8:=by
 have hp:=(Zh hs).1;obtain⟨hc,hF1,hF8,hfn⟩:=ZM hp;refine⟨fun x hx=> ?_,by unfold zl;simp,by omega,by omega⟩;unfold zl at hx;obtain⟨g,hg,rfl⟩:=Q6.1 hx;obtain⟨i,hi,rfl⟩:=Z8 hg;have Z:=zKR hp (f:=(i:Int)) (by omega);have h1:=Z.many;have h2:=Z.par4;have h3:=zCK (F.getD i default).blocks;unfold yI at h1;unfold Yf at h2;rw[Qa]at h1 h2;omega
theorem zM1 {l:List Int} {i:Nat} (hi:i<l.length):(l.take (i+1)).sum=(l.take i).sum+l.getD i 0:=by
 rw[Q3,QC hi,List.sum_append];simp[List.getD,QC hi]
theorem zRm {l:List Int} (hb:∀ x∈l,0<=x/\x<=1000) (i:Nat):(l.take i).sum<=l.sum:=by
 have h:l.sum=(l.take i).sum+(l.drop i).sum:=by
  conv=>lhs;rw[<-GH i l]
  rw[List.sum_append]
 have:=zBW (l:=l.drop i) fun x hx=>hb x (List.mem_of_mem_drop hx);omega
def zTP:ACode:=(oV (oR [oX 4 0,oZ 8]) (oV (oR [⟨some 19,none,(.call (.func 28) [])⟩,oM 9 19]) (oV (oV (oR [oA 2 20 4,⟨some 21,none,(.call (.func 8) [(.tmp 20),(.const (.int .i64 100))])⟩,oM 22 21,oH 22 (oM 23 2),oH 22 (oC .lss 24 23 0),oO 25 22 24,oM 26 25,oH 26 (oM 27 2),oH 26 (oC .gtr 28 27 1000),oO 29 26 28,oM 30 29,oH 30 (oM 31 9),oH 30 (oW 32 31),oO 33 30 32]) (oJ 33 (oV (oR [oM 34 9,oM 8 34]) .ret) .skip)) (oV (oR [oA 2 36 4,oM 37 1,oM 38 2,o3 39 18 36 37 38,oM 35 39,oE 40 35 0,oE 41 35 1,oM 10 40,oM 11 41]) (oV (oR [oA 2 43 4,oM 44 1,oM 45 3,o3 46 18 43 44 45,oM 42 46,oE 47 42 0,oE 48 42 1,oM 12 47,oM 13 48]) (oV (oV (oR [oM 49 11,oC .neq 50 49 0,oM 51 50,oH 51 (oM 52 13),oH 51 (oC .neq 53 52 0),oO 54 51 53]) (oJ 54 (oV (oR [oM 55 9,oM 8 55]) .ret) .skip)) (oV (oR [oA 2 57 4,⟨some 58,none,(.call (.func 20) [(.tmp 57),(.const (.int .i64 0))])⟩,oM 56 58,oE 59 56 0,oE 60 56 1,oM 14 59,oM 15 60]) (oV (oR [oA 2 62 4,oM 63 1,oM 64 2,oC .add 65 64 1,o3 66 18 62 63 65,oM 61 66,oE 67 61 0,oE 68 61 1,oM 16 67,oM 17 68]) (oV (oV (oR [oM 69 17,oC .neq 70 69 0]) (oJ 70 (oR [oA 2 72 4,oM 73 1,oC .add 74 73 1,⟨some 75,none,(.call (.func 18) [(.tmp 72),(.tmp 74),(.const (.int .i64 0))])⟩,oM 71 75,oE 76 71 0,oE 77 71 1,oM 16 76,oM 17 77]) .skip)) (oV (oV (oR [oM 78 17,oC .neq 79 78 0,oM 80 79,oG 80 (oM 81 1),oG 80 (oC .add 82 81 1),oG 80 (oF 1 83 4),oG 80 (oL 84 83),oG 80 (oQ 85 84),oG 80 (oB .eql 86 82 85),oP 87 80 86]) (oJ 87 (oR [oM 88 14,oM 16 88,oN 17 0]) .skip)) (oV (oR [oM 89 17,oC .neq 90 89 0,oM 91 90,oH 91 (oM 92 16),oH 91 (oM 93 10),oH 91 (oC .add 94 93 1),oH 91 (oB .eql 95 92 94),oO 96 91 95,oM 18 96]) (oV (oR [oM 97 9,oM 98 97,oG 98 (oM 99 18),oP 100 98 99,oM 101 100,oG 101 (oM 102 10),oG 101 (oM 103 12),oG 101 (oB .eql 104 102 103),oG 101 (oM 105 2),oG 101 (oM 106 3),oG 101 (oB .eql 107 105 106),⟨some 108,some (101,true),(.binB false (.tmp 104) (.tmp 107))⟩,oP 109 101 108,oM 110 109,oG 110 (oM 111 15),oG 110 (oC .eql 112 111 0),oP 113 110 112,oM 114 113,oG 114 (oM 115 10),oG 114 (oC .geq 116 115 0),oP 117 114 116,oM 118 117,oG 118 (oM 119 10),oG 118 (oM 120 14),oG 118 (oB .lss 121 119 120),oP 122 118 121,oM 8 122]) .ret))))))))))))
theorem zFa (h:AHeap) (vt vf:Value) (T:List LType) (F:List LFn) (f r s:Int) (tt:Tbl h) (hm:h.mark<=h.n) (st:SlT h vt T) (sf:SlF h vf F) (hT:(T.length:Int)<=1152921504606846976) (hF:(F.length:Int)<=1152921504606846976):
  WC Tryz.prog tb 5 [.agg #[vt,vf],I f,I r,I s] h fun r h'=>r= .bool true:=by
 refine en 123 [(8,none)] zTP ?_;refine WO.bx ?_;intro p h1 e1 o1;refine go ?_;refine WO.con (zMR h1 (tt.ext e1).1) ?_;rintro _ _ ⟨rfl,rfl⟩;refine go ?_;refine WO.con (zLk h1 vt vf T F 100 (by omega) (st.ext e1) (SlF.ext sf e1) (by omega) (by omega)) ?_;rintro rr h2 ⟨hr,e2⟩;replace o1:OwnC h h1 p [vt,vf]:=o1;have o2:=o1.ext e2;rcases hr with rfl|⟨rfl,sm,si⟩
 ·refine gr ?_;rfl
 have E:Env h2 vt vf T F:=⟨(tt.ext e1).ext e2,yE e2 (yE e1 hm),sm,(st.ext e1).ext e2,SlF.ext (SlF.ext sf e1) e2⟩;clear st sf tt hm e1 e2;by_cases r0:r<0
 ·refine gr ?_;rfl
 by_cases r1:1000<r
 ·refine gr ?_;rfl
 refine go ?_;refine WO.con (zC9 E f r) ?_;rintro _ h3 ⟨rfl,e3⟩;have o3:=o2.ext e3;have E3:=E.ext e3;refine go ?_;refine WO.con (zC9 E3 f s) ?_;rintro _ h4 ⟨rfl,e4⟩;have o4:=o3.ext e4;have E4:=E3.ext e4;by_cases c1:zCP T F f r=0;case neg=>
  refine gr ?_;rfl
 by_cases c2:zCP T F f s=0;case neg=>
  refine gr ?_;rfl
 obtain⟨hs,i1,v1⟩:=zC6 c1;obtain⟨_,i2,v2⟩:=zC6 c2;obtain⟨hb,hl,hF1,hF8⟩:=zQ7 hs;have hs1:=zM1 (l:=zl T F) (i:=f.toNat) (by have:=i1.1;omega);have hs2:=zRm hb (f.toNat+1);have hs3:=zBW (l:=(zl T F).take f.toNat) fun x hx=>hb x (GY hx);have hs4:=zBW hb;have ht:((zl T F).take f.toNat).length<=8:=QS (by rw[Q7];omega) hF8;have hA:zHL T F=(zl T F).sum:=rfl;have i1':(0<=f/\f<(F.length:Int))/\0<=r/\r<(zl T F).getD f.toNat 0:=i1;have i2':(0<=f/\f<(F.length:Int))/\0<=s/\s<(zl T F).getD f.toNat 0:=i2;have hx:=hb _ (zz (l:=zl T F) (i:=f.toNat) (by omega));have n1:zCP T F f (r+1)=0->zA2 T F f (r+1)=zA2 T F f r+1:=fun e=>by
  obtain⟨_,_,v⟩:=zC6 e;omega
 have n2:zCP T F f (r+1)≠0->r+1=(zl T F).getD f.toNat 0:=fun e=>by
  refine Gp fun q=>e (zPg hs ⟨i1'.1,by omega,by omega⟩)
 have n3:zCP T F (f+1) 0=0->zA2 T F (f+1) 0=((zl T F).take f.toNat).sum+(zl T F).getD f.toNat 0:=fun e=>by
  obtain⟨_,_,v⟩:=zC6 e;rw[v,show (f+1).toNat=f.toNat+1 by omega,hs1];omega
 have n4:f+1=(F.length:Int)->zHL T F=((zl T F).take f.toNat).sum+(zl T F).getD f.toNat 0:=fun e=>by
  rw[hA,<-hs1,Qr (by omega)]
 have hW:zA2 T F f r<zHL T F:=by omega
 have hz:(decide (zA2 T F f r=zA2 T F f s) == decide (r=s))=true:=by
  by_cases e:r=s
  ·subst e;simp
  ·have:zA2 T F f r≠zA2 T F f s:=by omega
   simp[e,this]
 rw[c1,c2];refine go ?_;refine WO.con (zIU E4 0) ?_;rintro _ h5 ⟨rfl,e5⟩;rw[QJ ⟨hs,by omega,by omega⟩,QD (fun e=>e hs),QJ ⟨by omega,by omega⟩,Int.add_zero];have o5:=o4.ext e5;have E5:=E4.ext e5;have sf5:=E5.sf;obtain⟨g1,g2,g3,rfl⟩:=zT sf5;generalize (zl T F).getD f.toNat 0=N at *;generalize ((zl T F).take f.toNat).sum=A at *;generalize zHL T F=W at *;generalize zA2 T F f r=V1 at *;generalize zA2 T F f s=V2 at *;refine go ?_;refine WO.con (zC9 E5 f (r+1)) ?_;rintro _ h6 ⟨rfl,e6⟩;have o6:=o5.ext e6;have E6:=E5.ext e6;have sf6:=E6.sf;by_cases c3:zCP T F f (r+1)=0
 ·have hn:=n1 c3;rw[c3];generalize zA2 T F f (r+1)=V3 at *;refine go ?_;rw[hz];refine gr ?_;rw[QX hW];rfl
 have hn2:=n2 c3;refine go ?_;refine WO.con (zC9 E6 (f+1) 0) ?_;rintro _ h7 ⟨rfl,e7⟩;have o7:=o6.ext e7;have E7:=E6.ext e7;have sf7:=E7.sf;by_cases c4:zCP T F (f+1) 0=0
 ·have hn:=n3 c4;rw[c4];generalize zA2 T F (f+1) 0=V4 at *;refine go ?_;rw[hz];refine gr ?_;rw[QX hW];rfl
 by_cases c5:f+1=(F.length:Int)
 ·have hn:=n4 c5;refine go ?_;rw[hz];refine gr ?_;rw[QX hW];rfl
 ·refine go ?_;rw[hz];refine gr ?_;rw[QX hW];rfl
def laidL:List (Nat×List Value):=[(0,y9)]
set_option maxRecDepth 1000000 in
theorem zp:(laidL.all fun x=>Nat.ble (x.1+1) Tryz.prog.globals.size&&yP x.2)=true:=by kernel_rfl
def tab0:Tab:=zJI Tryz.prog
theorem ok0:tab0.Ok Tryz.prog:=zI0 _
def q0:TL:=(.sl 7 3 (.cl (.int .u8 11) (.cl (.int .i64 1) (.cl (.int .i64 0) (.cl (.int .i64 0) (.cl (.int .i64 0) (.cl (.slice none 0 0) (.cl (.slice none 0 0) (.cl (.int .u8 12) (.cl (.int .i64 1) (.cl (.int .i64 0) (.cl (.int .i64 0) (.cl (.int .i64 0) (.cl (.slice none 0 0) (.cl (.slice none 0 0) (.cl (.int .u8 1) (.cl (.int .i64 0) (.cl (.int .i64 0) (.cl (.int .i64 0) (.cl (.int .i64 1) (.cl (.slice none 0 0) (.cl (.slice none 0 0) .nil))))))))))))))))))))) (.cl (.int .u8 3) (.cl (.int .i64 2) (.cl (.int .i64 0) (.cl (.int .i64 0) .nil)))))
def q1:TL:=(.sl 7 1 (.cl (.int .u8 1) (.cl (.int .i64 0) (.cl (.int .i64 0) (.cl (.int .i64 0) (.cl (.int .i64 1) (.cl (.slice none 0 0) (.cl (.slice none 0 0) .nil))))))) (.cl (.int .u8 3) (.cl (.int .i64 0) (.cl (.int .i64 0) (.cl (.int .i64 0) .nil)))))
def q2:TL:=(.cl (.int .u8 1) (.cl (.int .i64 0) (.cl (.int .i64 0) (.cl (.slice none 0 0) (.cl (.int .u8 2) (.cl (.int .i64 2) (.cl (.int .i64 0) (.cl (.slice none 0 0) (.cl (.int .u8 4) (.cl (.int .i64 0) (.cl (.int .i64 0) (.sl 1 2 (.cl (.int .i64 0) (.cl (.int .i64 1) .nil)) (.cl (.int .u8 3) (.cl (.int .i64 0) (.cl (.int .i64 0) (.cl (.slice none 0 0) .nil))))))))))))))))
def q3:TL:=(.sl 4 4 q2 (.sl 2 2 (.cl (.int .i64 3) (.sl 5 1 q0 (.cl (.int .i64 3) (.sl 5 1 q1 .nil)))) .nil))
def zMA:TL×TL:=((.ag q3 (.ag (.cl (.int .i64 3) (.sl 5 1 q0 .nil)) .nil)),(.cl (.bool true) .nil))
set_option maxRecDepth 1000000 in
theorem zRo:evM Tryz.prog tab0 700 103 laidL zMA=some (.bool true):=by kernel_rfl
def zMK:TL×TL:=((.ag q3 (.ag (.cl (.int .i64 3) (.sl 5 1 q1 .nil)) .nil)),(.cl (.bool true) .nil))
set_option maxRecDepth 1000000 in
theorem zSr:evM Tryz.prog tab0 700 103 laidL zMK=some (.bool true):=by kernel_rfl
def zTu:List (TL×TL):=[zMA,zMK]
def tab1:Tab:=tab0.know 103 (YI laidL zTu)
theorem ok1:tab1.Ok Tryz.prog:=ok0.know Tryz.checked.mixed (n:=700) zp (List.forall_mem_cons.2 ⟨zRo,List.forall_mem_cons.2 ⟨zSr,fun p hp=>by cases hp⟩⟩)
def zMb:TL×TL:=((.sl 4 4 q2 (.cl (.int .i64 0) (.cl (.slice none 0 0) .nil))),(.cl (.int .i64 1) (.cl (.bool true) .nil)))
set_option maxRecDepth 1000000 in
theorem zRi:evM Tryz.prog tab1 700 107 laidL zMb=some (.bool true):=by kernel_rfl
def zOJ:TL×TL:=((.sl 4 4 q2 (.cl (.int .i64 1) (.sl 1 1 (.cl (.int .i64 1) .nil) .nil))),(.cl (.int .i64 1) (.cl (.bool true) .nil)))
set_option maxRecDepth 1000000 in
theorem zRz:evM Tryz.prog tab1 700 107 laidL zOJ=some (.bool true):=by kernel_rfl
def zND:TL×TL:=((.sl 4 4 q2 (.cl (.int .i64 2) (.sl 1 2 (.cl (.int .i64 1) (.cl (.int .i64 1) .nil)) .nil))),(.cl (.int .i64 2) (.cl (.bool true) .nil)))
set_option maxRecDepth 1000000 in
theorem zSA:evM Tryz.prog tab1 700 107 laidL zND=some (.bool true):=by kernel_rfl
def zMp:TL×TL:=((.sl 4 4 q2 (.cl (.int .i64 3) (.sl 1 3 (.cl (.int .i64 1) (.cl (.int .i64 1) (.cl (.int .i64 2) .nil))) .nil))),(.cl (.int .i64 1) (.cl (.bool true) .nil)))
set_option maxRecDepth 1000000 in
theorem zRl:evM Tryz.prog tab1 700 107 laidL zMp=some (.bool true):=by kernel_rfl
def zTo:List (TL×TL):=[zMb,zOJ,zND,zMp]
def tab2:Tab:=tab1.know 107 (YI laidL zTo)
theorem ok2:tab2.Ok Tryz.prog:=ok1.know Tryz.checked.mixed (n:=700) zp (List.forall_mem_cons.2 ⟨zRi,List.forall_mem_cons.2 ⟨zRz,List.forall_mem_cons.2 ⟨zSA,List.forall_mem_cons.2 ⟨zRl,fun p hp=>by cases hp⟩⟩⟩⟩)
def zRD:TL×TL:=((.sl 4 4 q2 .nil),(.cl (.int .i64 0) .nil))
set_option maxRecDepth 1000000 in
theorem zS5:evM Tryz.prog tab2 700 83 laidL zRD=some (.bool true):=by kernel_rfl
def l83:List (TL×TL):=[zRD]
def tab3:Tab:=tab2.know 83 (YI laidL l83)
theorem ok3:tab3.Ok Tryz.prog:=ok2.know Tryz.checked.mixed (n:=700) zp (List.forall_mem_cons.2 ⟨zS5,fun p hp=>by cases hp⟩)
def zRE:TL×TL:=((.ag q3 .nil),(.cl (.int .i64 0) .nil))
set_option maxRecDepth 1000000 in
theorem zS7:evM Tryz.prog tab3 700 77 laidL zRE=some (.bool true):=by kernel_rfl
def l77:List (TL×TL):=[zRE]
def tab4:Tab:=tab3.know 77 (YI laidL l77)
theorem ok4:tab4.Ok Tryz.prog:=ok3.know Tryz.checked.mixed (n:=700) zp (List.forall_mem_cons.2 ⟨zS7,fun p hp=>by cases hp⟩)
def zRW:TL×TL:=((.ag q3 (.cl (.int .i64 0) .nil)),(.cl (.int .i64 3) (.cl (.int .i64 0) .nil)))
set_option maxRecDepth 1000000 in
theorem zTC:evM Tryz.prog tab4 700 59 laidL zRW=some (.bool true):=by kernel_rfl
def zRO:TL×TL:=((.ag q3 (.cl (.int .i64 1) .nil)),(.cl (.int .i64 1) (.cl (.int .i64 0) .nil)))
set_option maxRecDepth 1000000 in
theorem zTg:evM Tryz.prog tab4 700 59 laidL zRO=some (.bool true):=by kernel_rfl
def l59:List (TL×TL):=[zRW,zRO]
def tab5:Tab:=tab4.know 59 (YI laidL l59)
theorem ok5:tab5.Ok Tryz.prog:=ok4.know Tryz.checked.mixed (n:=700) zp (List.forall_mem_cons.2 ⟨zTC,List.forall_mem_cons.2 ⟨zTg,fun p hp=>by cases hp⟩⟩)
def zM3:TL×TL:=((.ag q3 (.cl (.int .i64 0) .nil)),(.sl 1 1 (.cl (.int .i64 0) .nil) (.cl (.int .i64 0) .nil)))
set_option maxRecDepth 1000000 in
theorem zRf:evM Tryz.prog tab5 700 136 laidL zM3=some (.bool true):=by kernel_rfl
def zMg:TL×TL:=((.ag q3 (.cl (.int .i64 1) .nil)),(.sl 1 1 (.cl (.int .i64 0) .nil) (.cl (.int .i64 0) .nil)))
set_option maxRecDepth 1000000 in
theorem zSm:evM Tryz.prog tab5 700 136 laidL zMg=some (.bool true):=by kernel_rfl
def zT2:List (TL×TL):=[zM3,zMg]
def tab6:Tab:=tab5.know 136 (YI laidL zT2)
theorem ok6:tab6.Ok Tryz.prog:=ok5.know Tryz.checked.mixed (n:=700) zp (List.forall_mem_cons.2 ⟨zRf,List.forall_mem_cons.2 ⟨zSm,fun p hp=>by cases hp⟩⟩)
def zNx:TL×TL:=((.ag q3 (.cl (.int .i64 0) (.cl (.int .i64 0) .nil))),(.cl (.slice none 0 0) (.cl (.int .i64 0) .nil)))
set_option maxRecDepth 1000000 in
theorem zST:evM Tryz.prog tab6 700 179 laidL zNx=some (.bool true):=by kernel_rfl
def zMY:TL×TL:=((.ag q3 (.cl (.int .i64 1) (.cl (.int .i64 0) .nil))),(.cl (.slice none 0 0) (.cl (.int .i64 0) .nil)))
set_option maxRecDepth 1000000 in
theorem zSP:evM Tryz.prog tab6 700 179 laidL zMY=some (.bool true):=by kernel_rfl
def zTy:List (TL×TL):=[zNx,zMY]
def tab7:Tab:=tab6.know 179 (YI laidL zTy)
theorem ok7:tab7.Ok Tryz.prog:=ok6.know Tryz.checked.mixed (n:=700) zp (List.forall_mem_cons.2 ⟨zST,List.forall_mem_cons.2 ⟨zSP,fun p hp=>by cases hp⟩⟩)
def zM5:TL×TL:=((.ag q3 (.cl (.int .i64 0) .nil)),(.sl 1 1 (.cl (.int .i64 0) .nil) (.cl (.int .i64 0) .nil)))
set_option maxRecDepth 1000000 in
theorem zR3:evM Tryz.prog tab7 700 228 laidL zM5=some (.bool true):=by kernel_rfl
def zNt:TL×TL:=((.ag q3 (.cl (.int .i64 1) .nil)),(.sl 1 1 (.cl (.int .i64 0) .nil) (.cl (.int .i64 0) .nil)))
set_option maxRecDepth 1000000 in
theorem zSK:evM Tryz.prog tab7 700 228 laidL zNt=some (.bool true):=by kernel_rfl
def zT8:List (TL×TL):=[zM5,zNt]
def tab8:Tab:=tab7.know 228 (YI laidL zT8)
theorem ok8:tab8.Ok Tryz.prog:=ok7.know Tryz.checked.mixed (n:=700) zp (List.forall_mem_cons.2 ⟨zR3,List.forall_mem_cons.2 ⟨zSK,fun p hp=>by cases hp⟩⟩)
def zNO:TL×TL:=((.ag q3 (.cl (.int .i64 0) .nil)),(.sl 1 1 (.cl (.int .i64 (-1)) .nil) (.cl (.int .i64 0) .nil)))
set_option maxRecDepth 1000000 in
theorem zSx:evM Tryz.prog tab8 700 171 laidL zNO=some (.bool true):=by kernel_rfl
def zNF:TL×TL:=((.ag q3 (.cl (.int .i64 1) .nil)),(.sl 1 1 (.cl (.int .i64 (-1)) .nil) (.cl (.int .i64 0) .nil)))
set_option maxRecDepth 1000000 in
theorem zS0:evM Tryz.prog tab8 700 171 laidL zNF=some (.bool true):=by kernel_rfl
def zT0:List (TL×TL):=[zNO,zNF]
def tab9:Tab:=tab8.know 171 (YI laidL zT0)
theorem ok9:tab9.Ok Tryz.prog:=ok8.know Tryz.checked.mixed (n:=700) zp (List.forall_mem_cons.2 ⟨zSx,List.forall_mem_cons.2 ⟨zS0,fun p hp=>by cases hp⟩⟩)
def zOQ:TL×TL:=((.ag q3 (.cl (.int .i64 0) .nil)),(.cl (.nilIface) .nil))
set_option maxRecDepth 1000000 in
theorem zRp:evM Tryz.prog tab9 700 104 laidL zOQ=some (.bool true):=by kernel_rfl
def zM6:TL×TL:=((.ag q3 (.cl (.int .i64 1) .nil)),(.cl (.nilIface) .nil))
set_option maxRecDepth 1000000 in
theorem zRc:evM Tryz.prog tab9 700 104 laidL zM6=some (.bool true):=by kernel_rfl
def zTt:List (TL×TL):=[zOQ,zM6]
def tab10:Tab:=tab9.know 104 (YI laidL zTt)
theorem ok10:tab10.Ok Tryz.prog:=ok9.know Tryz.checked.mixed (n:=700) zp (List.forall_mem_cons.2 ⟨zRp,List.forall_mem_cons.2 ⟨zRc,fun p hp=>by cases hp⟩⟩)
def zRU:TL×TL:=((.ag q3 .nil),(.cl (.int .i64 0) .nil))
set_option maxRecDepth 1000000 in
theorem zTR:evM Tryz.prog tab10 700 78 laidL zRU=some (.bool true):=by kernel_rfl
def l78:List (TL×TL):=[zRU]
def tab11:Tab:=tab10.know 78 (YI laidL l78)
theorem ok11:tab11.Ok Tryz.prog:=ok10.know Tryz.checked.mixed (n:=700) zp (List.forall_mem_cons.2 ⟨zTR,fun p hp=>by cases hp⟩)
def zRV:TL×TL:=((.sl 4 4 q2 (.cl (.int .i64 2) .nil)),(.sl 1 2 (.cl (.int .i64 0) (.cl (.int .i64 1) .nil)) (.cl (.int .i64 0) .nil)))
set_option maxRecDepth 1000000 in
theorem zS9:evM Tryz.prog tab11 700 35 laidL zRV=some (.bool true):=by kernel_rfl
def l35:List (TL×TL):=[zRV]
def tab12:Tab:=tab11.know 35 (YI laidL l35)
theorem ok12:tab12.Ok Tryz.prog:=ok11.know Tryz.checked.mixed (n:=700) zp (List.forall_mem_cons.2 ⟨zS9,fun p hp=>by cases hp⟩)
def zRC:TL×TL:=((.sl 4 4 q2 (.cl (.int .i64 2) .nil)),(.sl 1 2 (.cl (.int .i64 0) (.cl (.int .i64 1) .nil)) (.cl (.int .i64 0) .nil)))
set_option maxRecDepth 1000000 in
theorem zTU:evM Tryz.prog tab12 700 60 laidL zRC=some (.bool true):=by kernel_rfl
def l60:List (TL×TL):=[zRC]
def tab13:Tab:=tab12.know 60 (YI laidL l60)
theorem ok13:tab13.Ok Tryz.prog:=ok12.know Tryz.checked.mixed (n:=700) zp (List.forall_mem_cons.2 ⟨zTU,fun p hp=>by cases hp⟩)
def zRH:TL×TL:=((.ag q3 .nil),(.sl 3 2 (.cl (.int .i64 0) (.cl (.int .i64 0) (.cl (.int .i64 2) (.cl (.int .i64 0) (.cl (.int .i64 1) (.cl (.int .i64 2) .nil)))))) (.cl (.int .i64 0) .nil)))
set_option maxRecDepth 1000000 in
theorem zTB:evM Tryz.prog tab13 700 58 laidL zRH=some (.bool true):=by kernel_rfl
def l58:List (TL×TL):=[zRH]
def tab14:Tab:=tab13.know 58 (YI laidL l58)
theorem ok14:tab14.Ok Tryz.prog:=ok13.know Tryz.checked.mixed (n:=700) zp (List.forall_mem_cons.2 ⟨zTB,fun p hp=>by cases hp⟩)
def zRS:TL×TL:=((.ag q3 .nil),(.ag (.sl 1 2 (.cl (.int .i64 3) (.cl (.int .i64 1) .nil)) (.sl 1 2 (.cl (.int .i64 2) (.cl (.int .i64 2) .nil)) (.sl 3 2 (.cl (.int .i64 0) (.cl (.int .i64 0) (.cl (.int .i64 2) (.cl (.int .i64 0) (.cl (.int .i64 1) (.cl (.int .i64 2) .nil)))))) .nil))) (.cl (.int .i64 0) .nil)))
set_option maxRecDepth 1000000 in
theorem zTc:evM Tryz.prog tab14 700 33 laidL zRS=some (.bool true):=by kernel_rfl
def l33:List (TL×TL):=[zRS]
def tab15:Tab:=tab14.know 33 (YI laidL l33)
theorem ok15:tab15.Ok Tryz.prog:=ok14.know Tryz.checked.mixed (n:=700) zp (List.forall_mem_cons.2 ⟨zTc,fun p hp=>by cases hp⟩)
def zRM:TL×TL:=((.cl (.string ⟨⟨[116,121,112,101,32,105,110,116,10,116,121,112,101,32,112,116,114,32,116,50,10,116,121,112,101,32,115,116,114,117,99,116,32,116,48,32,116,49,10,116,121,112,101,32,102,110,32,116,48,10,102,117,110,99,32,116,51,10,98,108,111,99,107,10,114,48,32,116,49,32,61,32,110,101,119,10,114,49,32,116,49,32,61,32,108,111,99,97,108,10,114,50,32,116,48,32,61,32,105,110,116,32,49,10,114,101,116,117,114,110,32,114,50,10,102,117,110,99,32,116,51,10,98,108,111,99,107,10,114,48,32,116,48,32,61,32,105,110,116,32,49,10,114,101,116,117,114,110,32,114,48,10]⟩⟩) .nil),(.sl 1 14 (.sl 1 2 (.cl (.string ⟨⟨[116,121,112,101]⟩⟩) (.cl (.string ⟨⟨[105,110,116]⟩⟩) .nil)) (.sl 1 3 (.cl (.string ⟨⟨[116,121,112,101]⟩⟩) (.cl (.string ⟨⟨[112,116,114]⟩⟩) (.cl (.string ⟨⟨[116,50]⟩⟩) .nil))) (.sl 1 4 (.cl (.string ⟨⟨[116,121,112,101]⟩⟩) (.cl (.string ⟨⟨[115,116,114,117,99,116]⟩⟩) (.cl (.string ⟨⟨[116,48]⟩⟩) (.cl (.string ⟨⟨[116,49]⟩⟩) .nil)))) (.sl 1 3 (.cl (.string ⟨⟨[116,121,112,101]⟩⟩) (.cl (.string ⟨⟨[102,110]⟩⟩) (.cl (.string ⟨⟨[116,48]⟩⟩) .nil))) (.sl 1 2 (.cl (.string ⟨⟨[102,117,110,99]⟩⟩) (.cl (.string ⟨⟨[116,51]⟩⟩) .nil)) (.sl 1 1 (.cl (.string ⟨⟨[98,108,111,99,107]⟩⟩) .nil) (.sl 1 4 (.cl (.string ⟨⟨[114,48]⟩⟩) (.cl (.string ⟨⟨[116,49]⟩⟩) (.cl (.string ⟨⟨[61]⟩⟩) (.cl (.string ⟨⟨[110,101,119]⟩⟩) .nil)))) (.sl 1 4 (.cl (.string ⟨⟨[114,49]⟩⟩) (.cl (.string ⟨⟨[116,49]⟩⟩) (.cl (.string ⟨⟨[61]⟩⟩) (.cl (.string ⟨⟨[108,111,99,97,108]⟩⟩) .nil)))) (.sl 1 5 (.cl (.string ⟨⟨[114,50]⟩⟩) (.cl (.string ⟨⟨[116,48]⟩⟩) (.cl (.string ⟨⟨[61]⟩⟩) (.cl (.string ⟨⟨[105,110,116]⟩⟩) (.cl (.string ⟨⟨[49]⟩⟩) .nil))))) (.sl 1 2 (.cl (.string ⟨⟨[114,101,116,117,114,110]⟩⟩) (.cl (.string ⟨⟨[114,50]⟩⟩) .nil)) (.sl 1 2 (.cl (.string ⟨⟨[102,117,110,99]⟩⟩) (.cl (.string ⟨⟨[116,51]⟩⟩) .nil)) (.sl 1 1 (.cl (.string ⟨⟨[98,108,111,99,107]⟩⟩) .nil) (.sl 1 5 (.cl (.string ⟨⟨[114,48]⟩⟩) (.cl (.string ⟨⟨[116,48]⟩⟩) (.cl (.string ⟨⟨[61]⟩⟩) (.cl (.string ⟨⟨[105,110,116]⟩⟩) (.cl (.string ⟨⟨[49]⟩⟩) .nil))))) (.sl 1 2 (.cl (.string ⟨⟨[114,101,116,117,114,110]⟩⟩) (.cl (.string ⟨⟨[114,48]⟩⟩) .nil)) .nil)))))))))))))) (.cl (.int .i64 0) .nil)))
set_option maxRecDepth 1000000 in
theorem zTT:evM Tryz.prog tab15 700 74 laidL zRM=some (.bool true):=by kernel_rfl
def l74:List (TL×TL):=[zRM]
def tab16:Tab:=tab15.know 74 (YI laidL l74)
theorem ok16:tab16.Ok Tryz.prog:=ok15.know Tryz.checked.mixed (n:=700) zp (List.forall_mem_cons.2 ⟨zTT,fun p hp=>by cases hp⟩)
def zRF:TL×TL:=((.cl (.string ⟨⟨[116,121,112,101,32,105,110,116,10,116,121,112,101,32,112,116,114,32,116,50,10,116,121,112,101,32,115,116,114,117,99,116,32,116,48,32,116,49,10,116,121,112,101,32,102,110,32,116,48,10,102,117,110,99,32,116,51,10,98,108,111,99,107,10,114,48,32,116,49,32,61,32,110,101,119,10,114,49,32,116,49,32,61,32,108,111,99,97,108,10,114,50,32,116,48,32,61,32,105,110,116,32,49,10,114,101,116,117,114,110,32,114,50,10,102,117,110,99,32,116,51,10,98,108,111,99,107,10,114,48,32,116,48,32,61,32,105,110,116,32,49,10,114,101,116,117,114,110,32,114,48,10]⟩⟩) .nil),(.ag q3 (.cl (.int .i64 0) .nil)))
set_option maxRecDepth 1000000 in
theorem zTZ:evM Tryz.prog tab16 700 57 laidL zRF=some (.bool true):=by kernel_rfl
def l57:List (TL×TL):=[zRF]
def tab17:Tab:=tab16.know 57 (YI laidL l57)
theorem zT5:tab17.Ok Tryz.prog:=ok16.know Tryz.checked.mixed (n:=700) zp (List.forall_mem_cons.2 ⟨zTZ,fun p hp=>by cases hp⟩)
set_option maxRecDepth 1000000 in
theorem zJs:(zIw Tryz.prog tab17 700).call 28 [] (Zl Tryz.prog.globals.size [(0,y9)]) (fun v _=>some v)=some (.bool true):=by kernel_rfl
theorem zM4:((aex Tryz.prog tab17 700).call 28 [] (Zl Tryz.prog.globals.size [(0,y9)])).map (·.1)=some (.bool true):=zON zJs
set_option maxRecDepth 1000000 in
theorem tb_ok:tb.Ok Tryz.prog where
 code:=fun _ _ h=>h
 stub:=fun f s hs=>by
  have hs:(if f=28 then some (zAf [(0,y9)] (.bool true)) else none)=some s:=hs;split at hs
  ·rename_i e;subst e;cases hs;exact zHd Tryz.checked.mixed zT5 rfl (fun x hx=>by
    have h1:=QU.1 zp x hx;rw[QF]at h1;exact⟨QL h1.1,h1.2⟩) zM4
  ·cases hs
 grow:=fun f s hs args h v h' hk=>by
  have hs:(if f=28 then some (zAf [(0,y9)] (.bool true)) else none)=some s:=hs;split at hs
  ·cases hs;exact zIz args h v h' hk
  ·cases hs
end
end Go.Proofs.YtfnndahpddkniaaGreatDoor
