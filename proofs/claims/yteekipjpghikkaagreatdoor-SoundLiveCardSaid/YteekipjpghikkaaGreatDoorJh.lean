/- What functions of the program come to in the abstract machine, and plain laws about it; no statement of the seat is proved in this text. -/
import Derived.Test.YteekipjpghikkaaGreatDoorJg
import Derived.Test.YteekipjpghikkaaGreatDoorAmU
import Derived.Test.YteekipjpghikkaaGreatDoorJa
import Derived.Test.YteekipjpghikkaaGreatDoorJc
import Derived.Test.YteekipjpghikkaaGreatDoorJd
import Derived.Test.YteekipjpghikkaaGreatDoorAmV
set_option linter.unusedVariables false
set_option linter.unusedSimpArgs false
set_option maxHeartbeats 2000000
namespace Go.Proofs.YteekipjpghikkaaGreatDoor
noncomputable section
open Go.Am
set_option maxRecDepth 100000
def zp:List LBlk->Int->Int×Int
 |[],a=>(0,a)
 |b::l,a=>if (b.ins.length:Int)<=a then ((zp l (a - b.ins.length)).1+1,(zp l (a - b.ins.length)).2) else (0,a)
def zt (T:List LType) (F:List LFn) (f r:Int):Int×Int×Int:=
 if (zd T F f).2≠0 then (0,0,(zd T F f).2)
 else if r<0\/(zd T F f).1+zg (F.getD f.toNat default).blocks<=r then (0,0,2)
 else if r<(zd T F f).1 then (-1,r,0)
 else ((zp (F.getD f.toNat default).blocks (r - (zd T F f).1)).1,(zp (F.getD f.toNat default).blocks (r - (zd T F f).1)).2,0)
theorem YP (b:LBlk) (l:List LBlk):zg (b::l)=(b.ins.length:Int)+zg l:=by unfold zg;simp
theorem zBU {l:List LBlk}:∀ {a:Int},0<=a->a<zg l->0<=(zp l a).1/\(zp l a).1<(l.length:Int)/\0<=(zp l a).2/\(zp l a).2<((l.getD (zp l a).1.toNat default).ins.length:Int):=by
 induction l with
 |nil=>intro a h0 h1;simp[zg]at h1;omega
 |cons b l ih=>
  intro a h0 h1;rw[YP]at h1;unfold zp;split
  ·rename_i h;obtain⟨i1,i2,i3,i4⟩:=ih (a:=a - b.ins.length) (by omega) (by omega);refine⟨by simp only;omega,by simp only[Q2];omega,i3,?_⟩;simp only;rw[show ((zp l (a - ↑b.ins.length)).1+1).toNat=(zp l (a - ↑b.ins.length)).1.toNat+1 by omega];simpa [List.getD]using i4
  ·rename_i h;exact⟨Qk _,by simp only[Q2];omega,h0,by simpa [List.getD]using (by omega:a<(b.ins.length:Int))⟩
theorem zJd {l:List LBlk} {k:Nat} (h:k<l.length):l.drop k=l.getD k default::l.drop (k+1):=by
 rw[Qt h];simp[List.getD,QB h]
theorem zFv {T:List LType} {F:List LFn} {f:Int} (h:(zd T F f).2=0):0<=f/\f<(F.length:Int)/\ZQ T F=0/\(zd T F f).1=((T.getD (F.getD f.toNat default).sig.toNat default).parts.length:Int):=by
 unfold zd at h |-;split at h
 ·rename_i hp;exact absurd h hp
 ·rename_i hp;rw[QC hp];split at h
  ·rename_i hb;have hb2:=hb;unfold zQ at hb2;simp at hb2;exact⟨hb2.1,hb2.2,by omega,by rw[QH hb]⟩
  ·cases h
theorem zOM {l:List LBlk} {b:LBlk} (h:b∈l):(b.ins.length:Int)<=zg l:=by
 induction l with
 |nil=>cases h
 |cons c l ih=>
  rw[YP];have hp:=yp l;rcases Qi.1 h with rfl|h
  ·omega
  ·have:=ih h;omega
def zO3:ACode:=(oV (oV (oR [oM 40 7,oF 1 41 3,oL 42 41,oM 43 1,oI 2 44 42 43,oF 1 45 44,oL 46 45,oM 47 6,oI 5 48 46 47,oF 0 49 48,oL 50 49,oQ 51 50,oB .geq 52 40 51]) (oT 52 1)) (o5 2 (oV (oR [oM 53 7,oF 1 54 3,oL 55 54,oM 56 1,oI 2 57 55 56,oF 1 58 57,oL 59 58,oM 60 6,oI 5 61 59 60,oF 0 62 61,oL 63 62,oQ 64 63,oB .sub 65 53 64,oM 7 65]) (oR [oM 66 6,oC .add 67 66 1,oM 6 67]))))
def zUn:ACode:=(oV (oR [oX 3 0,oN 6 0,oN 7 0,oN 8 0]) (oV (oR [oA 2 11 3,oM 12 1,o2 13 38 11 12,oM 10 13,oE 14 10 0,oE 15 10 1,oM 9 14,oM 8 15]) (oV (o5 0 (oV (oR [oM 17 8,oC .neq 18 17 0,oM 16 18]) (oJ 16 (oV (oR [oM 19 8,oN 6 0,oN 7 0,oM 8 19]) .ret) (oV (oR [oM 21 2,oM 22 9,oF 1 23 3,oL 24 23,oM 25 1,oI 2 26 24 25,oA 2 27 26,o1 28 40 27,oB .add 29 22 28,o2 30 39 21 29,oW 31 30,oM 20 31]) (oJ 20 (oV (oR [oN 6 0,oN 7 0,oN 8 2]) .ret) (oV (oR [oM 33 2,oM 34 9,oB .lss 35 33 34,oM 32 35]) (oJ 32 (oV (oR [oM 36 2,oN 6 (-1),oM 7 36,oN 8 0]) .ret) .skip))))))) (oV (oR [oM 37 2,oM 38 9,oB .sub 39 37 38,oM 7 39]) (oV (o5 1 (.loop zO3)) (oV (oR [oM 68 6,oM 69 7,oM 6 68,oM 7 69,oN 8 0]) .ret))))))
theorem zIV (h:AHeap) (vt vf:Value) (T:List LType) (F:List LFn) (f r:Int) (E:Env h vt vf T F):
  WC Tryz.prog tb 16 [.agg #[vt,vf],I f,I r] h fun q h'=>q= .tuple #[I (zt T F f r).1,I (zt T F f r).2.1,I (zt T F f r).2.2]/\Ext h h':=by
 have hF:=E.sm.funcs;refine en 70 [(6,none),(7,none),(8,none)] zUn ?_;refine WO.bx ?_;intro p h1 e1 o1;have E1:=E.ext e1;refine go ?_;refine WO.con (zFN h1 vt vf T F f E1.tt E1.hm E1.sm E1.st E1.sf) ?_;rintro _ h2 ⟨rfl,e2⟩;have o1:=o1.ext e2;have e02:=e1.trans e2;have E2:=E1.ext e2;have sf2:=E2.sf;obtain⟨ta,tn,tk,rfl⟩:=zJ E.st;obtain⟨ga,gn,gk,rfl⟩:=zJ sf2;by_cases ha:(zd T F f).2=0;case neg=>
  have ha':(zd T F f).2≠0:=ha;have hp:zt T F f r=(0,0,(zd T F f).2):=by unfold zt;rw[QH ha]
  rw[hp];refine gr ?_;exact⟨rfl,e02⟩
 obtain⟨hf0,hf1,hpr,hn⟩:=zFv ha;have hmem:=zI (l:=F) (i:=f.toNat) (by omega);have hfn:=(YZ hpr).2.2.2 _ hmem;have hb:=zGT hfn;have hsig:=zFB hfn;have hpart:=E.sm.parts _ (zI (l:=T) (i:=(F.getD f.toNat default).sig.toNat) (by omega));have hB:=E.sm.blocks _ hmem;have hI:=E.sm.ins _ hmem;have hmp:=yp (F.getD f.toNat default).blocks;have hpl:zt T F f r=if r<0\/(zd T F f).1+zg (F.getD f.toNat default).blocks<=r then (0,0,2)
   else if r<(zd T F f).1 then (-1,r,0) else ((zp (F.getD f.toNat default).blocks (r - (zd T F f).1)).1,(zp (F.getD f.toNat default).blocks (r - (zd T F f).1)).2,0):=by
  unfold zt;rw[QC (fun e=>e ha)]
 have hn1:0<=(zd T F f).1/\(zd T F f).1<=100:=by rw[hn];omega
 rw[ha,hpl];generalize (zd T F f).1=n at *;clear hpl hn hpart hsig hfn;obtain⟨csF,⟨vb,rfl,sb,hlb⟩,pcF,hsF⟩:=yP (i:=f.toNat) sf2 (by omega);obtain⟨fn,hfn⟩:∃ fn,F.getD f.toNat default=fn:=⟨_,rfl⟩;rw[hfn]at sb hb hB hI hmp hmem pcF |-;obtain⟨ba,bn,bk,rfl⟩:=zJ sb;refine go ?_;refine WO.con (zCu h2 fn.sig _ fn.blocks sb hB hI) ?_;rintro _ h3 ⟨rfl,e3⟩;have o1:=o1.ext e3;have e03:=e02.trans e3;have sf3:=SlF.ext sf2 e3;refine go ?_;refine WO.con (yh h3 r (n+zg fn.blocks)) ?_;rintro _ _ ⟨rfl,rfl⟩;by_cases c1:r<0\/n+zg fn.blocks<=r
 ·have hbl:zQ r (n+zg fn.blocks)=false:=by unfold zQ;simp;omega
  rw[QH c1];refine gr ?_;exact⟨rfl,e03⟩
 have hbl:zQ r (n+zg fn.blocks)=true:=by unfold zQ;simp;omega
 rw[QC c1];by_cases c2:r<n
 ·rw[QH c2];refine gr ?_;exact⟨rfl,e03⟩
 rw[QC c2];have e0:=Hid.mk (show ∃ k:Nat,True from ⟨0,trivial⟩);obtain⟨csF,hcsF,pcF,hsF⟩:=yP (i:=f.toNat) sf3 (by omega);rw[hfn]at hcsF;obtain⟨vb,rfl,sb,hlb⟩:=hcsF;refine go ?_;refine WX.loopA [40,41,42,43,44,45,46,47,48,49,50,51,52,53,54,55,56,57,58,59,60,61,62,63,64,65,7,66,67,6] (by kernel_rfl) (fun x=>fn.blocks.length - x.1) (fun (x:Nat×Int) t h4=>h3=h4/\zB t 6=I x.1/\zB t 7=I x.2/\0<=x.2/\x.2<zg (fn.blocks.drop x.1)/\Hid (zp fn.blocks (r - n)=((zp (fn.blocks.drop x.1) x.2).1+x.1,(zp (fn.blocks.drop x.1) x.2).2))/\zg (fn.blocks.drop x.1)<=128) (0,r - n) ?_ ?_
 ·exact⟨rfl,sl_,sl_,by simp only;omega,by simp only[Q4];omega,⟨by simp⟩,by simp only[Q4];omega⟩
 rintro⟨k,a⟩ t h4 hsame ⟨rfl,s6,s7,ha0,ha1,hw,h128⟩;simp only at s6 s7 ha0 ha1 hw h128;have hk:k<fn.blocks.length:=by
  refine JH fun hh=> ?_;rw[G8 (by omega)]at ha1;simp[zg]at ha1;omega
 obtain⟨csB,⟨vi,rfl,si,hli⟩,pcB,hsB⟩:=yP sb hk;obtain⟨ia,iN,ik,rfl⟩:=zJ si;have hd:=zJd hk;have hd2:=yp (fn.blocks.drop (k+1));rw[hd,YP]at ha1 h128;rw[hd]at hw;by_cases hc:((fn.blocks.getD k default).ins.length:Int)<=a
 ·have hw2:zp (fn.blocks.getD k default::fn.blocks.drop (k+1)) a=((zp (fn.blocks.drop (k+1)) (a - ((fn.blocks.getD k default).ins.length:Int))).1+1,(zp (fn.blocks.drop (k+1)) (a - ((fn.blocks.getD k default).ins.length:Int))).2):=by
   conv=>lhs;unfold zp
   rw[QH hc]
  have hw:=hw.out;rw[hw2]at hw;refine go ?_;refine zA (k+1,a - ((fn.blocks.getD k default).ins.length:Int)) (by simp only;omega) ⟨rfl,sln,sl_,by simp only;omega,by simp only;omega,⟨by rw[hw];simp only[QD,and_true];omega⟩,by simp only;omega⟩
 ·have hw2:zp (fn.blocks.getD k default::fn.blocks.drop (k+1)) a=(0,a):=by
   conv=>lhs;unfold zp
   rw[QC hc]
  have hw:=hw.out;rw[hw2]at hw;refine gr ?_;refine⟨?_,e03⟩;rw[hw];simp[one]
set_option maxRecDepth 100000
def zTT:ACode:=(oV (oR [oK 4 (.complex Go.FloatKind.f64 0 0)]) (oV (oR [oM 5 0,⟨some 6,none,(.convP 3 105 (.tmp 5))⟩,oM 7 1,⟨some 8,none,(.convP 3 105 (.tmp 7))⟩,⟨some 9,none,(.cplx (.tmp 6) (.tmp 8))⟩,oM 4 9]) .ret))
theorem zF7 (h:AHeap) (a b:Int):WC Tryz.prog tb 52 [I a,I b] h fun r h'=>r=cpx a b/\h=h':=by
 refine en 10 [(4,none)] zTT ?_;refine WO.cvF (n:=a) (k:= .i64) (by kernel_rfl) (by kernel_rfl) ?_;refine go ?_;refine WO.cvF (n:=b) (k:= .i64) (by kernel_rfl) (by kernel_rfl) ?_;refine go ?_;refine WO.cxF (a:=a) (b:=b) ?_;refine gr ?_;exact⟨rfl,rfl⟩
def setE (T:List LType) (F:List LFn) (f r block at':Int):Int:=
 if (zt T F f r).2.2≠0 then (zt T F f r).2.2
 else if block<0\/((F.getD f.toNat default).blocks.length:Int)<=block\/at'<0\/(((F.getD f.toNat default).blocks.getD block.toNat default).ins.length:Int)<at' then 2
 else Zt T F f block
def zR3 (T:List LType) (F:List LFn) (f r block at':Int):Prop:=
 (zt T F f r).1= -1\/((zt T F f r).1=block/\(zt T F f r).2.1<at')\/((zt T F f r).1≠ -1/\(zt T F f r).1≠block/\Dom (nxF T F f) (zt T F f r).1 block)
theorem zNZ {T:List LType} {F:List LFn} {f r:Int} (h:(zt T F f r).2.2=0):(zd T F f).2=0/\((zt T F f r).1= -1\/(0<=(zt T F f r).1/\(zt T F f r).1<((F.getD f.toNat default).blocks.length:Int)/\0<=(zt T F f r).2.1/\(zt T F f r).2.1<(((F.getD f.toNat default).blocks.getD (zt T F f r).1.toNat default).ins.length:Int))):=by
 unfold zt at h |-;split at h
 ·rename_i hh;exact absurd h hh
 ·rename_i hh;rw[QC hh];refine⟨by omega,?_⟩;split at h
  ·cases h
  ·rename_i h2;rw[QC h2];split at h
   ·rename_i h3;rw[QH h3];exact .inl rfl
   ·rename_i h3;rw[QC h3];right;exact zBU (by omega) (by omega)
def zUD:ACode:=(oV (oR [oX 5 0,oZ 10,oN 11 0]) (oV (oR [oA 2 20 5,oM 21 1,oM 22 2,o3 23 16 20 21 22,oM 19 23,oE 24 19 0,oE 25 19 1,oE 26 19 2,oM 12 24,oM 13 25,oM 14 26]) (oV (oV (oR [oM 27 14,oC .neq 28 27 0]) (oJ 28 (oV (oR [oM 29 14,oZ 10,oM 11 29]) .ret) .skip)) (oV (oV (oR [oF 1 30 5,oL 31 30,oM 32 1,oI 2 33 31 32,oF 1 34 33,oL 35 34,oM 15 35]) (oV (oR [oM 36 3,oC .lss 37 36 0,oM 38 37,oH 38 (oM 39 3),oH 38 (oM 40 15),oH 38 (oQ 41 40),oH 38 (oB .geq 42 39 41),oO 43 38 42,oM 44 43,oH 44 (oM 45 4),oH 44 (oC .lss 46 45 0),oO 47 44 46,oM 48 47,oH 48 (oM 49 4),oH 48 (oM 50 15),oH 48 (oM 51 3),oH 48 (oI 5 52 50 51),oH 48 (oF 0 53 52),oH 48 (oL 54 53),oH 48 (oQ 55 54),oH 48 (oB .gtr 56 49 55),oO 57 48 56]) (oJ 57 (oV (oR [oZ 10,oN 11 2]) .ret) .skip))) (oV (oR [oA 2 59 5,oM 60 1,oM 61 3,o3 62 51 59 60 61,oM 58 62,oE 63 58 0,oE 64 58 1,oM 16 63,oM 14 64]) (oV (oV (oR [oM 65 14,oC .neq 66 65 0]) (oJ 66 (oV (oR [oM 67 14,oZ 10,oM 11 67]) .ret) .skip)) (oV (oR [oM 68 12,oM 69 13,o2 70 52 68 69,oM 71 3,oM 72 4,o2 73 52 71 72,oM 17 70,oM 18 73]) (oV (o5 0 (oV (oR [oM 75 12,oC .eql 76 75 (-1),oM 74 76]) (oJ 74 (oV (oR [oK 10 (.bool true),oN 11 0]) .ret) (oV (oR [oM 78 17,⟨some 79,none,(.cpart false (.tmp 78))⟩,oM 80 18,⟨some 81,none,(.cpart false (.tmp 80))⟩,⟨some 82,none,(.binP .eql 105 (.tmp 79) (.tmp 81))⟩,oM 77 82]) (oJ 77 (oV (oR [oM 83 17,⟨some 84,none,(.cpart true (.tmp 83))⟩,oM 85 18,⟨some 86,none,(.cpart true (.tmp 85))⟩,⟨some 87,none,(.binP .lss 105 (.tmp 84) (.tmp 86))⟩,oM 10 87,oN 11 0]) .ret) .skip))))) (oV (oR [oM 88 16,oM 89 12,oM 90 3,o3 91 53 88 89 90,oM 10 91,oN 11 0]) .ret)))))))))
theorem zRN (h:AHeap) (vt vf:Value) (T:List LType) (F:List LFn) (f r block at':Int) (E:Env h vt vf T F):
  WC Tryz.prog tb 21 [.agg #[vt,vf],I f,I r,I block,I at'] h fun q h'=>(∃ bb,q= .tuple #[.bool bb,I (setE T F f r block at')]/\(setE T F f r block at'≠0->bb=false)/\(setE T F f r block at'=0->(bb=true↔zR3 T F f r block at')))/\Ext h h':=by
 have hF:=E.sm.funcs;refine en 92 [(10,none),(11,none)] zUD ?_;refine WO.bx ?_;intro p h1 e1 o1;have E1:=E.ext e1;refine go ?_;refine WO.con (zIV h1 vt vf T F f r E1) ?_;rintro _ h2 ⟨rfl,e2⟩;have o1:=o1.ext e2;have e02:=e1.trans e2;have E2:=E1.ext e2;have sf2:=E2.sf;by_cases hp:(zt T F f r).2.2=0;case neg=>
  have hp':(zt T F f r).2.2≠0:=hp;have hs:setE T F f r block at'=(zt T F f r).2.2:=by unfold setE;rw[QH hp]
  obtain⟨ta,tn,tk,rfl⟩:=zJ E.st;obtain⟨ga,gn,gk,rfl⟩:=zJ sf2;rw[hs];refine gr ?_;exact⟨⟨false,rfl,fun _=>rfl,fun h=>absurd h hp⟩,e02⟩
 obtain⟨hask,hpin⟩:=zNZ hp;have hs:setE T F f r block at'=if block<0\/((F.getD f.toNat default).blocks.length:Int)<=block\/at'<0\/(((F.getD f.toNat default).blocks.getD block.toNat default).ins.length:Int)<at' then 2 else Zt T F f block:=by unfold setE;rw[QC (fun e=>e hp)]
 obtain⟨hf0,hf1,hpr,hn⟩:=zFv hask;have hmem:=zI (l:=F) (i:=f.toNat) (by omega);have hfn:=(YZ hpr).2.2.2 _ hmem;have hbn:=zGT hfn;have himany:∀ b∈(F.getD f.toNat default).blocks,(b.ins.length:Int)<=128:=fun b hb=>by have:=zOM hb;omega
 rw[hs,hp];unfold zR3;obtain⟨csF,⟨vb,rfl,sb,hlb⟩,pcF,hsF⟩:=yP (i:=f.toNat) sf2 (by omega);obtain⟨ba,bn,bk,rfl⟩:=zJ sb;obtain⟨ta,tn,tk,rfl⟩:=zJ E2.st;obtain⟨ga,gn,gk,rfl⟩:=zJ sf2;generalize hPb:(zt T F f r).1=pb at *;generalize hPn:(zt T F f r).2.1=pn at *;clear hs hn hfn;by_cases c1:block<0
 ·rw[QH (.inl c1)];refine gr ?_;exact⟨⟨false,rfl,fun _=>rfl,fun h=>by cases h⟩,e02⟩
 by_cases c2:((F.getD f.toNat default).blocks.length:Int)<=block
 ·rw[QH (.inr (.inl c2))];refine gr ?_;exact⟨⟨false,rfl,fun _=>rfl,fun h=>by cases h⟩,e02⟩
 have hbk:block.toNat<(F.getD f.toNat default).blocks.length:=by omega
 have h128:=himany _ (zI (l:=(F.getD f.toNat default).blocks) hbk);obtain⟨csB,⟨vi,rfl,si,hli⟩,pcB,hsB⟩:=yP (i:=block.toNat) sb hbk;obtain⟨ia,iN,ik,rfl⟩:=zJ si;by_cases c3:at'<0
 ·rw[QH (.inr (.inr (.inl c3)))];refine gr ?_;exact⟨⟨false,rfl,fun _=>rfl,fun h=>by cases h⟩,e02⟩
 by_cases c4:(((F.getD f.toNat default).blocks.getD block.toNat default).ins.length:Int)<at'
 ·rw[QH (.inr (.inr (.inr c4)))];refine gr ?_;exact⟨⟨false,rfl,fun _=>rfl,fun h=>by cases h⟩,e02⟩
 rw[QC (by omega)];have hpnb:pb= -1\/(0<=pb/\pb<=15/\0<=pn/\pn<=127):=by
  rcases hpin with h|⟨a,b,c,d⟩
  ·exact .inl h
  ·have:=himany _ (zI (l:=(F.getD f.toNat default).blocks) (i:=pb.toNat) (by omega));exact .inr (by omega)
 refine go ?_;refine WO.con (zGN h2 _ _ T F f block E2) ?_;rintro _ h3 ⟨⟨q,rfl,hq⟩,e3⟩;have e03:=e02.trans e3;by_cases ha:Zt T F f block=0;case neg=>
  have ha':Zt T F f block≠0:=ha;refine gr ?_;exact⟨⟨false,rfl,fun _=>rfl,fun h=>absurd h ha⟩,e03⟩
 obtain⟨xs,oq,hR⟩:=hq ha;have wb:=(zLD ha).2;have hR:=Hid.mk hR;rw[ha];refine go ?_;refine WO.con (zF7 h3 pb pn) ?_;rintro _ _ ⟨rfl,rfl⟩;refine go ?_;refine WO.con (zF7 h3 block at') ?_;rintro _ _ ⟨rfl,rfl⟩;by_cases c5:pb= -1
 ·refine gr ?_;exact⟨⟨true,rfl,fun h=>absurd rfl h,fun _=>by simp[c5]⟩,e03⟩
 refine go ?_;refine WO.reF (a:=pb) (b:=pn) ?_;refine go ?_;refine WO.reF (a:=block) (b:=at') ?_;refine go ?_;refine WO.eqF (a:=pb) (b:=block) (by omega) (by omega) ?_;by_cases c6:pb=block
 ·refine go ?_;refine WO.imF (a:=pb) (b:=pn) ?_;refine go ?_;refine WO.imF (a:=block) (b:=at') ?_;refine go ?_;refine WO.ltF (a:=pn) (b:=at') (by omega) (by omega) ?_;refine gr ?_;refine⟨⟨_,rfl,fun h=>absurd rfl h,fun _=> ?_⟩,e03⟩;rw[Q6];exact⟨fun h=> .inr (.inl ⟨c6,h⟩),fun h=>by
   rcases h with h|h|h
   ·exact absurd h c5
   ·exact h.2
   ·exact absurd c6 h.2.1⟩
 ·refine go ?_;refine WO.con (zMz h2 h3 q (nxF T F f) xs pb block oq ⟨hR.out.dm⟩ wb ⟨hR.out.all⟩) ?_;rintro _ _ ⟨⟨bb,rfl,hbb⟩,rfl⟩;refine gr ?_;refine⟨⟨_,rfl,fun h=>absurd rfl h,fun _=> ?_⟩,e03⟩;rw[hbb,hR.out.dom pb block wb];exact⟨fun h=> .inr (.inr ⟨c5,c6,h⟩),fun h=>by
   rcases h with h|h|h
   ·exact absurd h c5
   ·exact absurd h.1 c6
   ·exact h.2.2⟩
set_option maxRecDepth 100000
def Z8 (xs:List Int) (n:Nat):List Int:=(List.range n).map fun (i:Nat)=>upL xs (i:Int)
theorem zMo (xs:List Int) (n:Nat):(Z8 xs n).length=n:=by unfold Z8;simp
def zQJ:ACode:=(oV (oR [oB .lss 25 24 23]) (oV (oT 25 0) (oV (o5 1 (oV (oR [oM 26 24,oM 7 26]) (oR [oM 27 4,oM 28 6,oM 29 7,⟨some 30,none,(.nilCheck (.tmp 28))⟩,oF 0 31 30,⟨some 32,none,(.idxArr 16 1 (.tmp 31) (.tmp 29))⟩,oL 33 32,⟨some 34,none,(.buildSlice 1 1 [(.int .i64 0)] [(0,1,(.tmp 33))])⟩,oY 1 35 27 34,oM 4 35]))) (oR [oC .add 36 24 1,oM 24 36]))))
def zUA:ACode:=(oV (oR [oX 2 0,oK 4 (.slice none 0 0),oN 5 0]) (oV (oR [oA 2 9 2,oM 10 1,⟨some 11,none,(.call (.func 51) [(.tmp 9),(.tmp 10),(.const (.int .i64 0))])⟩,oM 8 11,oE 12 8 0,oE 13 8 1,oM 6 12,oM 5 13]) (oV (oV (oR [oM 14 5,oC .neq 15 14 0]) (oJ 15 (oV (oR [oM 16 5,oK 4 (.slice none 0 0),oM 5 16]) .ret) .skip)) (oV (oV (oR [oF 1 17 2,oL 18 17,oM 19 1,oI 2 20 18 19,oF 1 21 20,oL 22 21,oQ 23 22,oN 24 0]) (o5 0 (.loop zQJ))) (oV (oR [oM 37 4,⟨some 38,none,(.idx 1 (.tmp 37) (.const (.int .i64 0)))⟩,⟨none,none,(.store 1 (.tmp 38) (.const (.int .i64 (-1))))⟩]) (oV (oR [oM 39 4,oM 4 39,oN 5 0]) .ret))))))
theorem zR9 (h:AHeap) (vt vf:Value) (T:List LType) (F:List LFn) (f:Int) (E:Env h vt vf T F):
  WC Tryz.prog tb 56 [.agg #[vt,vf],I f] h fun r h'=>(∃ v l,r= .tuple #[v,I (Zt T F f 0)]/\OwnN h h' v l/\l.length<=16/\(Zt T F f 0=0->∃ xs,Rul (nxF T F f) xs/\l=Z8 xs (F.getD f.toNat default).blocks.length)/\(Zt T F f 0≠0->l=[]))/\Ext h h':=by
 have hF:=E.sm.funcs;refine en 40 [(4,none),(5,none)] zUA ?_;refine WO.bx ?_;intro p h1 e1 o1;have E1:=E.ext e1;refine go ?_;refine WO.con (zGN h1 vt vf T F f 0 E1) ?_;rintro _ h2 ⟨⟨q,rfl,hq⟩,e2⟩;have o1:=o1.ext e2;have e02:=e1.trans e2;have E2:=E1.ext e2;have sf2:=E2.sf;by_cases ha:Zt T F f 0=0;case neg=>
  have ha':Zt T F f 0≠0:=ha;refine gr ?_;exact⟨⟨_,[],rfl,.inl ⟨rfl,rfl⟩,by simp,fun h=>absurd h ha,fun _=>rfl⟩,e02⟩
 obtain⟨xs,oq,hR⟩:=hq ha;have hlx:=hR.dm.len;obtain⟨g,rfl⟩:∃ g,q= .pointer (some ⟨g,0,none⟩):=let ⟨g,_,_,e,_⟩:=oq;⟨g,e⟩;obtain⟨hz,_⟩:=zLD ha;obtain⟨h1z,h2z,hzb,h4z⟩:=yv hz;have hin:=zBM h4z;obtain⟨hlen,hnx⟩:=Zb hz;rw[hzb]at hlen h2z;rw[ha];replace hR:=Hid.mk hR;obtain⟨ta,tn,tk,rfl⟩:=zJ E.st;obtain⟨ga,gn,gk,rfl⟩:=zJ sf2;obtain⟨csF,⟨vb,rfl,sb,hlb⟩,pcF,hsF⟩:=yP (i:=f.toNat) sf2 (by omega);obtain⟨_,_,_,rfl⟩:=zJ sb;generalize (F.getD f.toNat default).blocks=L at *;refine go ?_;refine WX.loopA [25,26,7,27,28,29,30,31,32,33,34,35,4,36,24] (by kernel_rfl) (fun i=>L.length - i) (fun i t h3=>Ext h2 h3/\zB t 24=I i/\i<=L.length/\∃ w,zB t 4=w/\OwnN h2 h3 w ((List.range i).map fun (j:Nat)=>pO xs (j:Int))) 0 ?_ ?_
 ·exact⟨Ext.refl _,sl_,QW _,_,sl_,.inl ⟨rfl,rfl⟩⟩
 rintro i t h3 hsame ⟨e3,s24,hi,w,s4,ow⟩;have oq3:=oq.ext e3;refine go ?_;refine WX.br (fun hc=> ?_) (fun hc=> ?_)<;>simp only[DB]at hc
 ·have hi':i<L.length:=by omega
  refine go ?_;refine WO.bl [xs.getD i 0] ?_;intro v7 h7 e7 o7;refine go ?_;refine WO.apN (ow.ext e7) o7.sl (e3.trans e7) (by simp;omega) ?_;intro v8 h8 e8 o8;refine go ?_;refine zA (i+1) (by omega) ⟨e8,sln,by omega,v8,sl_,?_⟩;rw[List.range_succ,Gf];exact o8
 ·have hii:i=L.length:=by omega
  subst hii;have hpos:0<L.length:=by omega
  obtain⟨m,hm⟩:∃ m,m=(List.range L.length).map fun (j:Nat)=>pO xs (j:Int):=⟨_,rfl⟩;have hml:m.length=L.length:=by rw[hm];simp
  rw[<-hm]at ow;rcases ow with ⟨_,h0⟩|ow
  ·rw[h0]at hml;simp at hml;omega
  have sw:=ow.sl;refine go ?_;refine WO.storeI (i:=0) (a:= -1) zU zU ow e3 (by omega) ?_;intro h4 e4 o4 _;refine gr ?_;refine⟨⟨_,_,rfl,.inr (o4.since e02),by rw[GJ];omega,fun _=>⟨xs,hR.out,?_⟩,fun h=>absurd rfl h⟩,e02.trans e4⟩;rw[hm];refine List.ext_getElem (by simp[Z8]) fun j hj1 hj2=> ?_;simp only[Z8,List.getElem_map,List.getElem_range,List.getElem_set];by_cases hj:0=j
  ·subst hj;simp[upL]
  ·rw[QC hj];unfold upL;rw[QC (by omega)]
def PlT (T:List LType) (k:Int):Prop:=0<=k/\k<(T.length:Int)/\((T.getD k.toNat default).kind=1\/(T.getD k.toNat default).kind=2\/(T.getD k.toNat default).kind=3)
def zIb (T:List LType) (x:LType):Prop:=(∀ p∈x.parts,PlT T p)/\PlT T x.elem/\x.parts.length<=4/\x.many=0
def zLU (T:List LType) (x:LType) (k:Nat):Prop:=
 (x.kind=1/\x.elem=0/\x.many=0/\x.parts.length=0)\/
 (x.kind=2/\0<=x.elem/\x.elem<(T.length:Int)/\x.many=0/\x.parts.length=0)\/
 (x.kind=3/\zIb T x)\/
 (x.kind=4/\x.elem=0/\x.many=0/\1<=x.parts.length/\x.parts.length<=8/\∀ p∈x.parts,0<=p/\p<(k:Int))\/
 (x.kind=5/\0<=x.elem/\x.elem<(k:Int)/\1<=x.many/\x.many<=16/\x.parts.length=0)
def zBa (T:List LType) (k:Nat):Prop:=zLU T (T.getD k default) k
def ofF (T:List LType):Nat->Int->List Int
 |0,k=>[k]
 |n+1,k=>let x:=T.getD k.toNat default
  if x.kind=4 then (x.parts.map (ofF T n)).flatten else if x.kind=5 then (List.replicate x.many.toNat (ofF T n x.elem)).flatten else [k]
def ofL (T:List LType) (k:Nat):List Int:=ofF T (k+1) k
def zRB (T:List LType) (k:Nat):Prop:=∀ j,j<k->zBa T j/\(ofL T j).length<=32
theorem zHz {T:List LType}:∀ (n m:Nat) (k:Nat),k<n->k<m->(∀ j,j<=k->zBa T j)->ofF T n k=ofF T m k:=by
 intro n;induction n with
 |zero=>intro m k h;omega
 |succ n ih=>
  intro m k h1 h2 hM;obtain⟨m,rfl⟩:∃ q,m=q+1:=⟨m - 1,by omega⟩;have hk:=hM k (QF _);unfold ofF;simp only[GQ];split
  ·rename_i h4;congr 1;refine G6 fun p hp=> ?_;unfold zBa zLU at hk;have hp':0<=p/\p<(k:Int):=by
    rcases hk with h|h|h|h|h
    ·omega
    ·omega
    ·omega
    ·exact h.2.2.2.2.2 p hp
    ·omega
   obtain⟨q,rfl⟩:∃ q:Nat,p=q:=⟨p.toNat,by omega⟩;exact ih m q (by omega) (by omega) fun j hj=>hM j (by omega)
  ·split
   ·rename_i h4 h5;unfold zBa zLU at hk;have hp':0<=(T.getD k default).elem/\(T.getD k default).elem<(k:Int):=by omega
    obtain⟨q,hq⟩:∃ q:Nat,(T.getD k default).elem=q:=⟨(T.getD k default).elem.toNat,by omega⟩;rw[hq,ih m q (by omega) (by omega) fun j hj=>hM j (by omega)]
   ·rfl
theorem zKK {T:List LType} {k:Nat} (hM:∀ j,j<=k->zBa T j):ofL T k=let x:=T.getD k default
  if x.kind=4 then (x.parts.map fun p=>ofL T p.toNat).flatten else if x.kind=5 then (List.replicate x.many.toNat (ofL T x.elem.toNat)).flatten else [(k:Int)]:=by
 have hk:=hM k (QF _);unfold zBa zLU at hk;unfold ofL;rw[ofF];simp only[GQ];split
 ·rename_i h4;congr 1;refine G6 fun p hp=> ?_;have hp':0<=p/\p<(k:Int):=by
   rcases hk with h|h|h|h|h
   ·omega
   ·omega
   ·omega
   ·exact h.2.2.2.2.2 p hp
   ·omega
  obtain⟨q,rfl⟩:∃ q:Nat,p=q:=⟨p.toNat,by omega⟩;exact zHz _ _ q (by omega) (by omega) fun j hj=>hM j (by omega)
 ·split
  ·rename_i h4 h5;have hp':0<=(T.getD k default).elem/\(T.getD k default).elem<(k:Int):=by omega
   obtain⟨q,hq⟩:∃ q:Nat,(T.getD k default).elem=q:=⟨(T.getD k default).elem.toNat,by omega⟩;rw[hq,GQ,zHz k (q+1) q (by omega) (by omega) fun j hj=>hM j (by omega)]
  ·rfl
theorem zAi {m:Int} {l:List Int}:yt m l=true↔∀ p∈l,0<=p/\p<m:=by
 unfold yt;rw[QZ];simp
theorem zI2 {x:LType}:Z3 x=true↔x.kind=1\/x.kind=2\/x.kind=3:=by
 unfold Z3;simp;omega
theorem zNf (l:List Int) (f:Int->List Int):((l.map f).flatten.length:Int)=(l.map fun p=>((f p).length:Int)).sum:=by
 induction l with
 |nil=>rfl
 |cons a l ih=>simp only[Qh,Gv,QY,List.sum_cons,Int.natCast_add,ih]
theorem zS0 (n:Nat) (l:List Int):(List.replicate n l).flatten.length=n * l.length:=by
 induction n with
 |zero=>simp
 |succ n ih=>rw[List.replicate_succ,Gv,QY,ih,Gi];omega
theorem zI9 {T:List LType} {k:Nat} {s:List Int} (hk:k<T.length) (hl:zRB T k) (hs:s.length=k) (hv:∀ j,j<k->s.getD j 0=((ofL T j).length:Int)):
  ((ZR T (T.getD k default) k s).2=true↔zBa T k/\(ofL T k).length<=32)/\((ZR T (T.getD k default) k s).2=true->(ZR T (T.getD k default) k s).1=((ofL T k).length:Int)):=by
 have hun:zBa T k->ofL T k=_:=fun h=>zKK fun j hj=>by
  by_cases e:j=k
  ·subst e;exact h
  ·exact(hl j (by omega)).1
 generalize hx:T.getD k default=x at *;have hM:zBa T k↔zLU T x k:=by unfold zBa;rw[hx]
 unfold zLU at hM;have plain1:x.kind=1->(yQ x=true↔x.elem=0/\x.many=0/\x.parts.length=0):=fun h=>by unfold yQ;simp[h,and_assoc]
 have plain2:x.kind=2->(yQ x=true↔x.many=0/\x.parts.length=0):=fun h=>by unfold yQ;simp[h]
 have plain3:x.kind=3->(yQ x=true↔x.many=0):=fun h=>by unfold yQ;simp[h]
 have plain4:x.kind=4->(yQ x=true↔x.elem=0/\x.many=0):=fun h=>by unfold yQ;simp[h]
 have plain5:x.kind=5->(yQ x=true↔x.parts.length=0):=fun h=>by unfold yQ;simp[h]
 by_cases h1:x.kind=1
 ·have e:ZR T x k s=(1,yQ x):=by unfold ZR;rw[QH h1]
  rw[e,plain1 h1];refine⟨⟨fun h=> ?_,fun h=> ?_⟩,fun h=> ?_⟩
  ·have:=hM.2 (.inl ⟨h1,h⟩);refine⟨this,?_⟩;rw[hun this];simp[h1]
  ·have:=hM.1 h.1;omega
  ·have:=hM.2 (.inl ⟨h1,h⟩);rw[hun this];simp[h1]
 by_cases h2:x.kind=2
 ·have e:ZR T x k s=(1,yQ x&&yt T.length [x.elem]):=by unfold ZR;rw[QC h1,QH h2]
  have e2:(yQ x&&yt T.length [x.elem])=true↔(x.many=0/\x.parts.length=0)/\0<=x.elem/\x.elem<(T.length:Int):=by
   rw[QJ,plain2 h2,zAi];simp
  rw[e,e2];have key:(x.many=0/\x.parts.length=0)/\0<=x.elem/\x.elem<(T.length:Int)->zBa T k:=fun h=>hM.2 (.inr (.inl ⟨h2,h.2.1,h.2.2,h.1.1,h.1.2⟩));refine⟨⟨fun h=>⟨key h,?_⟩,fun h=> ?_⟩,fun h=> ?_⟩
  ·rw[hun (key h)];simp[h2]
  ·have:=hM.1 h.1;omega
  ·rw[hun (key h)];simp[h2]
 by_cases h3:x.kind=3
 ·rw[zIn h3];have e2:(yQ x&&decide (x.parts.length<=4)&&yt T.length (x.elem::x.parts)&&(x.elem::x.parts).all fun n=>Z3 (T.getD n.toNat default))=true↔zIb T x:=by
   unfold zIb PlT;simp only[QJ,plain3 h3,Qb,zAi,QZ,zI2,Qi];constructor
   ·rintro⟨⟨⟨a,b⟩,c⟩,d⟩;exact⟨fun p hp=>⟨(c p (.inr hp)).1,(c p (.inr hp)).2,d p (.inr hp)⟩,⟨(c _ (.inl rfl)).1,(c _ (.inl rfl)).2,d _ (.inl rfl)⟩,b,a⟩
   ·rintro⟨a,b,c,d⟩;refine⟨⟨⟨d,c⟩,?_⟩,?_⟩
    ·rintro p (rfl|hp)
     ·exact⟨b.1,b.2.1⟩
     ·exact⟨(a p hp).1,(a p hp).2.1⟩
    ·rintro p (rfl|hp)
     ·exact b.2.2
     ·exact(a p hp).2.2
  simp only[e2];have key:zIb T x->zBa T k:=fun h=>hM.2 (.inr (.inr (.inl ⟨h3,h⟩)));refine⟨⟨fun h=>⟨key h,?_⟩,fun h=> ?_⟩,fun h=> ?_⟩
  ·rw[hun (key h)];simp[h3]
  ·rcases hM.1 h.1 with h|h|h|h|h
   ·omega
   ·omega
   ·exact h.2
   ·omega
   ·omega
  ·rw[hun (key h)];simp[h3]
 by_cases h4:x.kind=4
 ·rw[zTJ h4];have e2:(yQ x&&yt k x.parts)=true↔(x.elem=0/\x.many=0)/\∀ p∈x.parts,0<=p/\p<(k:Int):=by
   rw[QJ,plain4 h4,zAi]
  by_cases hp:(yQ x&&yt k x.parts)=true
  ·rw[QH hp];have hp2:=e2.1 hp;have hsum:(x.parts.map fun n=>s.getD n.toNat 0).sum=(x.parts.map fun p=>((ofL T p.toNat).length:Int)).sum:=by
    congr 1;refine G6 fun p hpp=> ?_;have:=hp2.2 p hpp;exact hv p.toNat (by omega)
   have key:1<=x.parts.length/\x.parts.length<=8->zBa T k:=fun h=>hM.2 (.inr (.inr (.inr (.inl ⟨h4,hp2.1.1,hp2.1.2,h.1,h.2,hp2.2⟩))));have hlen:zBa T k->((ofL T k).length:Int)=(x.parts.map fun p=>((ofL T p.toNat).length:Int)).sum:=fun h=>by
    rw[hun h];simp only[h4,Qv];rw[zNf]
   simp only[QJ,Qb];refine⟨⟨fun h=> ?_,fun h=> ?_⟩,fun h=> ?_⟩
   ·have hk2:=key (by omega);have:=hlen hk2;exact⟨hk2,by omega⟩
   ·have:=hlen h.1;have h5:=hM.1 h.1;omega
   ·rw[hsum,hlen (key (by omega))]
  ·rw[QC hp];simp only[Qj,JN,false_implies,and_true];intro h;refine hp (e2.2 ?_);rcases hM.1 h.1 with h|h|h|h|h
   ·omega
   ·omega
   ·omega
   ·exact⟨⟨h.2.1,h.2.2.1⟩,h.2.2.2.2.2⟩
   ·omega
 by_cases h5:x.kind=5
 ·rw[zN3 h5];have e2:(yQ x&&yt k [x.elem]&&decide (1<=x.many)&&decide (x.many<=16))=true↔x.parts.length=0/\(0<=x.elem/\x.elem<(k:Int))/\1<=x.many/\x.many<=16:=by
   simp only[QJ,plain5 h5,zAi,Qb];simp[and_assoc]
  by_cases hp:(yQ x&&yt k [x.elem]&&decide (1<=x.many)&&decide (x.many<=16))=true
  ·rw[QH hp];have hp2:=e2.1 hp;have key:zBa T k:=hM.2 (.inr (.inr (.inr (.inr ⟨h5,hp2.2.1.1,hp2.2.1.2,hp2.2.2.1,hp2.2.2.2,hp2.1⟩))));have hs1:=hv x.elem.toNat (by omega);have hlen:((ofL T k).length:Int)=x.many * s.getD x.elem.toNat 0:=by
    rw[hun key];simp only[h5,Qv];rw[QC (by omega),zS0,hs1,Int.natCast_mul,Int.toNat_of_nonneg (by omega)]
   simp only[Qb];rw[<-hlen];exact⟨⟨fun h=>⟨key,by omega⟩,fun h=>by omega⟩,fun _=>rfl⟩
  ·rw[QC hp];simp only[Qj,JN,false_implies,and_true];intro h;refine hp (e2.2 ?_);have:=hM.1 h.1;omega
 ·have e:ZR T x k s=(1,false):=by unfold ZR;rw[QC h1,QC h2,QC h3,QC h4,QC h5]
  rw[e];simp only[Qj,JN,false_implies,and_true];intro h;have:=hM.1 h.1;omega
theorem zJy {T:List LType}:∀ k,k<=T.length->(∀ s,Zq T k=some s->zRB T k/\s.length=k/\∀ j,j<k->s.getD j 0=((ofL T j).length:Int))/\(zRB T k->∃ s,Zq T k=some s):=by
 intro k;induction k with
 |zero=>exact fun _=>⟨fun s hs=>by cases hs;exact⟨fun j hj=>absurd hj (GH _),rfl,fun j hj=>absurd hj (GH _)⟩,fun _=>⟨[],rfl⟩⟩
 |succ k ih=>
  intro hk;obtain⟨i1,i2⟩:=ih (by omega);refine⟨fun s hs=> ?_,fun hl=> ?_⟩
  ·unfold Zq at hs;split at hs
   ·cases hs
   ·rename_i s0 h0;obtain⟨a,b,c⟩:=i1 s0 h0;obtain⟨m1,m2⟩:=zI9 (T:=T) (k:=k) (by omega) a b c;split at hs
    ·rename_i hm;cases hs;have h1:=m1.1 hm;have h2:=m2 hm;refine⟨fun j hj=> ?_,by simp[b],fun j hj=> ?_⟩
     ·by_cases e:j=k
      ·subst e;exact h1
      ·exact a j (by omega)
     ·by_cases e:j=k
      ·subst e;rw[<-h2];simp[List.getD,<-b]
      ·rw[<-c j (by omega)];simp[List.getD,Qo (show j<s0.length by omega)]
    ·cases hs
  ·obtain⟨s0,h0⟩:=i2 fun j hj=>hl j (by omega);obtain⟨a,b,c⟩:=i1 s0 h0;obtain⟨m1,m2⟩:=zI9 (T:=T) (k:=k) (by omega) a b c;unfold Zq;rw[h0];simp only;rw[QH (m1.2 (hl k (by omega)))];exact⟨_,rfl⟩
theorem zJn {T:List LType}:ZV T=if 16<T.length then 4 else (open Classical in if zRB T T.length then 0 else 30):=by
 classical
 unfold ZV;split
 ·rfl
 ·obtain⟨i1,i2⟩:=zJy T.length (QF _);split
  ·rename_i s hs;rw[QH (i1 s hs).1]
  ·rename_i hs;rw[QC];intro h;obtain⟨s,h2⟩:=i2 h;rw[h2]at hs;cases hs
def zJq (op:Int):Prop:=(4<=op/\op<=10)\/op=15\/op=17
def zHj (op:Int):Prop:=zJq op\/op=13\/op=14\/op=16\/op=19\/op=21
def zF5 (op:Int):Prop:=op=18\/op=19\/op=22
def zTh (op:Int):Prop:=1<=op/\op<=22/\op≠13/\op≠17/\op≠21
theorem zCJ {op:Int} (h:0<=op):((zv op).2.1=true↔zJq op)/\((zv op).1=true↔zHj op)/\((zv op).2.2.2.1=true↔zF5 op)/\((zv op).2.2.2.2.2=true↔zTh op)/\((zv op).2.2.2.2.1=true↔op=22)/\((zv op).2.2.1=true↔op=1\/op=3\/op=14\/op=18)/\(zv op=(false,false,false,false,false,false)↔op<1\/22<op):=by
 obtain⟨n,rfl⟩:=Int.eq_ofNat_of_zero_le h;by_cases hn:n<23
 ·clear h;unfold zHj zF5 zTh zJq;have hz:(List.range 23).all (fun (n:Nat)=>decide (zv (n:Int)=(false,false,false,false,false,false)) == decide ((n:Int)<1\/22<(n:Int)))=true:=by decide+kernel
  have hz:=QZ.1 hz n (GF.2 hn);rw[JP,decide_eq_decide]at hz;refine⟨?_,?_,?_,?_,?_,?_,hz⟩<;>(clear hz;revert n;decide+kernel)
 ·have e:zv (n:Int)=(false,false,false,false,false,false):=by
   unfold zv;rw[List.getD,Gz (by simp only[hasT,Q2,Gg];omega)];rfl
  rw[e];unfold zHj zF5 zTh zJq;simp only[Qj,JN,true_iff];omega
def yj (x:LIns):List Int:=(if (zv x.op).1 then [x.a] else [])++((if (zv x.op).2.1 then [x.b] else [])++(if (zv x.op).2.2.2.1 then x.args else []))
def zMq (x:LIns) (funcs:Int):Prop:=if x.op=1 then True else if x.op=3\/x.op=18 then 0<=x.n/\x.n<funcs else if x.op=14 then 0<=x.n/\x.n<8 else x.n=0
def Btw (l:List Int) (m:Int):Prop:=∀ p∈l,0<=p/\p<m
structure MayI (x:LIns) (s:LSz):Prop where
 op:1<=x.op/\x.op<=22
 uses:Btw (yj x) s.regs
 num:zMq x s.funcs
 a:(zv x.op).1=true\/x.a=0
 b:(zv x.op).2.1=true\/x.b=0
 g:(zv x.op).2.2.2.1=true\/(x.args.length:Int)<=0
 ans:if (zv x.op).2.2.2.2.2 then 0<=x.ty/\x.ty<s.types else x.ty=0
 frm:if (zv x.op).2.2.2.2.1 then (x.frm.length:Int)=x.args.length/\1<=(x.frm.length:Int)/\(x.frm.length:Int)<=16/\Btw x.frm s.blocks else (x.frm.length:Int)=0/\(x.args.length:Int)<=4
theorem zFG {l:List Int} {m:Int}:zFX l m=true↔Btw l m:=by
 unfold zFX zQ Btw;simp[QZ]
theorem zEw {l k:List Int} {m:Int}:Btw (l++k) m↔Btw l m/\Btw k m:=by
 unfold Btw;constructor
 ·exact fun h=>⟨fun p hp=>h p (Qf.2 (.inl hp)),fun p hp=>h p (Qf.2 (.inr hp))⟩
 ·exact fun h p hp=>(Qf.1 hp).elim (h.1 p) (h.2 p)
theorem zJr {c:Bool} {l:List Int} {m:Int}:Btw (if c then l else []) m↔(c=true->Btw l m):=by
 cases c
 ·simp[Btw]
 ·simp
theorem zDr {a m:Int}:Btw [a] m↔zQ a m=true:=by unfold Btw zQ;simp
theorem zHt {x:LIns} {s:LSz} (ho:0<=x.op):zMq x s.funcs↔Y2 x s=true/\((zv x.op).2.2.1=true\/x.n=0):=by
 obtain⟨_,_,_,_,_,hn,_⟩:=zCJ ho;rw[hn];unfold zMq Y2;by_cases h1:x.op=1
 ·simp[h1]
 by_cases h3:x.op=3\/x.op=18
 ·rw[QC h1,QH h3,QH h3,QJ,Q6,Q6];omega
 by_cases h14:x.op=14
 ·rw[QC h1,QC h3,QH h14,QC h3,QH h14,QJ,Q6,Q6];omega
 ·rw[QC h1,QC h3,QC h14,QC h3,QC h14];simp;omega
theorem zEW {x:LIns} {s:LSz} (ho:0<=x.op):zCq x s=true↔MayI x s:=by
 obtain⟨_,_,_,_,hf,_,hz⟩:=zCJ ho;have hnum:=zHt (x:=x) (s:=s) ho;have key:MayI x s↔(1<=x.op/\x.op<=22)/\Btw (yj x) s.regs/\zMq x s.funcs/\((zv x.op).1=true\/x.a=0)/\((zv x.op).2.1=true\/x.b=0)/\((zv x.op).2.2.2.1=true\/(x.args.length:Int)<=0)/\(if (zv x.op).2.2.2.2.2 then 0<=x.ty/\x.ty<s.types else x.ty=0)/\
   (if (zv x.op).2.2.2.2.1 then (x.frm.length:Int)=x.args.length/\1<=(x.frm.length:Int)/\(x.frm.length:Int)<=16/\Btw x.frm s.blocks else (x.frm.length:Int)=0/\(x.args.length:Int)<=4):=
  ⟨fun ⟨a,b,c,d,e,f,g,h⟩=>⟨a,b,c,d,e,f,g,h⟩,fun ⟨a,b,c,d,e,f,g,h⟩=>⟨a,b,c,d,e,f,g,h⟩⟩
 rw[key,hnum];unfold zCq zSe zKd zKg yj;simp only;have hz':(decide (zv x.op=(false,false,false,false,false,false))=false)↔(1<=x.op/\x.op<=22):=by
  rw[G7,hz];omega
 have hl0:Btw x.args s.regs\/¬(x.args.length:Int)<=0:=by
  by_cases h:(x.args.length:Int)<=0
  ·left;have:x.args=[]:=Gq (by omega);rw[this];exact fun p hp=>by cases hp
  ·exact .inr h
 rw[zEw,zEw,zJr,zJr,zJr,zDr,zDr];have hty:(zQ x.ty s.types=true)↔0<=x.ty/\x.ty<s.types:=by unfold zQ;simp
 rw[<-hz',<-hty,<-zFG,<-zFG];rw[<-zFG]at hl0;generalize decide (zv x.op=(false,false,false,false,false,false))=Z at *;generalize zv x.op=q at *;obtain⟨A,B,N,G,R,S⟩:=q;simp only;generalize zQ x.a s.regs=ba at *;generalize zQ x.b s.regs=bb at *;generalize zFX x.args s.regs=bg at *;generalize Y2 x s=bn at *;generalize zQ x.ty s.types=bt at *;generalize zFX x.frm s.blocks=bf at *;clear hz hf hnum key hz' hty;generalize x.args.length=la at *;generalize x.frm.length=lf at *;generalize x.a=a at *;generalize x.b=b at *;generalize x.n=n at *;generalize x.ty=ty at *;cases Z<;>simp only[Qq,Qp,QU,Qg,Qj,JN,false_and,not_false_eq_true,Bool.true_eq_false,Qd,QU,true_and];cases R
 ·cases A<;>cases B<;>cases N<;>cases G<;>cases S<;>simp<;>(constructor<;>intro h<;>simp_all<;>omega)
 ·cases A<;>cases B<;>cases N<;>cases G<;>cases S<;>simp<;>(constructor<;>intro h<;>simp_all<;>omega)
theorem zOc {x:LEnd} {s:LSz}:zAz x s=true↔(x.kind=1/\x.a=0/\x.els=0/\Btw [x.to] s.blocks)\/(x.kind=2/\Btw [x.a] s.regs/\Btw [x.to,x.els] s.blocks)\/(x.kind=3/\x.to=0/\x.els=0/\Btw [x.a] s.regs):=by
 have h2:Btw [x.to,x.els] s.blocks↔zQ x.to s.blocks=true/\zQ x.els s.blocks=true:=by unfold Btw zQ;simp
 rw[h2,zDr,zDr];unfold zAz;by_cases k1:x.kind=1
 ·simp[k1,and_assoc]
 by_cases k2:x.kind=2
 ·simp[k2,and_assoc]
 by_cases k3:x.kind=3
 ·simp[k3,and_assoc]
 ·simp[k1,k2,k3]
def yW (x:LEnd):List Int:=if x.kind=2\/x.kind=3 then [x.a] else []
theorem zHk (L:List LBlk) (i:Nat):zg (L.take i)<=zg L:=by
 have h1:zg L=zg (L.take i)+zg (L.drop i):=by
  conv=>lhs;rw[<-Ga i L]
  unfold zg;rw[Gf,List.sum_append]
 have:=yp (L.drop i);omega
structure FnOk (T:List LType) (F:List LFn) (f:Int) (L:List LBlk) (par:Int):Prop where
 f0:0<=f
 f1:f<(F.length:Int)
 prog:ZQ T F=0
 ask:zd T F f=(par,0)
 isL:L=(F.getD f.toNat default).blocks
 par0:0<=par
 parl:par<=100
 len:1<=L.length/\L.length<=16
 many:zg L<=128
 ins:∀ b∈L,(b.ins.length:Int)<=128
 fn:fnL T F.length (F.getD f.toNat default)=true
def yK (par:Int) (L:List LBlk):Int:=par+zg L
structure InsU (x:LIns) (N n:Int):Prop where
 op:1<=x.op/\x.op<=22
 uses:∀ r∈yj x,0<=r/\r<N
 args:x.args.length<=20
 frm:x.frm.length<=20
 phi:x.op=22->x.frm.length=x.args.length/\(∀ r∈x.args,0<=r/\r<N)/\(∀ b∈x.frm,0<=b/\b<n)
 none:x.op≠22->x.frm.length=0
structure BlkU (b:LBlk) (N n:Int):Prop where
 ins:∀ x∈b.ins,InsU x N n
 ends:∀ r∈yW b.fin,0<=r/\r<N
 next:∀ k∈Zk b.fin,0<=k/\k<n
theorem zOi {x:LIns} {s:LSz} (h:zCq x s=true):1<=x.op/\x.op<=22:=by
 by_cases h0:0<=x.op
 ·exact((zEW h0).1 h).op
 ·exfalso;have he:zv x.op=(false,false,false,false,false,false):=by
   unfold zv;rw[show x.op.toNat=0 by omega];rfl
  unfold zCq zSe at h;rw[he]at h;simp at h
theorem zVX {x:LIns} {s:LSz} (h:zCq x s=true):InsU x s.regs s.blocks:=by
 have ho:=zOi h;have m:=(zEW (by omega)).1 h;have ha:=zCJ (op:=x.op) (by omega);have h22:(zv x.op).2.2.2.2.1=true↔x.op=22:=ha.2.2.2.2.1;have hg:(zv x.op).2.2.2.1=true↔zF5 x.op:=ha.2.2.1;have hf:=m.frm;have hgl:=m.g;have hargs:(x.args.length:Int)<=16:=by
  split at hf
  ·omega
  ·omega
 have hfrm:(x.frm.length:Int)<=16:=by
  split at hf
  ·omega
  ·omega
 refine⟨ho,m.uses,by omega,by omega,fun e=> ?_,fun e=> ?_⟩
 ·rw[QH (h22.2 e)]at hf;refine⟨by omega,fun r hr=>m.uses r ?_,hf.2.2.2⟩;unfold yj;rw[show (zv x.op).2.2.2.1=true from hg.2 (by unfold zF5;omega),QH rfl];exact Qf.2 (.inr (Qf.2 (.inr hr)))
 ·rw[QC (fun q=>e (h22.1 q))]at hf;omega
theorem zVr {b:LBlk} {s:LSz} (h:zCv b s=false):BlkU b s.regs s.blocks:=by
 unfold zCv at h;rw[Bool.or_eq_false_iff]at h;obtain⟨h1,h2⟩:=h;have h2:zAz b.fin s=true:=by simpa using h2
 have he:=zOc.1 h2;refine⟨fun x hx=>zVX ?_,fun r hr=> ?_,fun k hk=> ?_⟩
 ·cases hi:zCq x s with
  |true=>rfl
  |false=>exact absurd h1 (by rw[JF.2 ⟨x,hx,by rw[hi];rfl⟩];simp)
 ·unfold yW at hr;split at hr
  ·rw[QS]at hr;subst hr;rcases he with ⟨e,_⟩|⟨e,q,_⟩|⟨e,_,_,q⟩
   ·omega
   ·exact q _ (by simp)
   ·exact q _ (by simp)
  ·cases hr
 ·unfold Zk at hk;rcases he with ⟨e,_,_,q⟩|⟨e,_,q⟩|⟨e,_⟩
  ·rw[QH e]at hk;exact q k hk
  ·rw[QC (by omega),QH e]at hk;split at hk
   ·exact q k (by rw[QS]at hk;subst hk;simp)
   ·exact q k hk
  ·rw[QC (by omega),QC (by omega)]at hk;cases hk
theorem zUL {T:List LType} {nf:Int} {f:LFn} (h:fnL T nf f=true):∀ b∈f.blocks,BlkU b (yK ((T.getD f.sig.toNat default).parts.length:Int) f.blocks) f.blocks.length:=by
 intro b hb;unfold fnL at h;split at h
 ·cases h
 ·have h:(f.blocks.any fun b=>zCv b (szL T nf f))=false:=by simpa using h
  have:=zVr (b:=b) (s:=szL T nf f) (by
   cases q:zCv b (szL T nf f)with
   |false=>rfl
   |true=>rw[JF.2 ⟨b,hb,q⟩]at h;cases h)
  exact this
theorem zPc {T:List LType} {n:Int} {f:LFn} (h:fnL T n f=true):1<=f.blocks.length/\f.blocks.length<=16/\zg f.blocks<=128:=by
 unfold fnL at h;split at h
 ·cases h
 ·rename_i hb;unfold zBo at hb;simp only[Q7,Gj,Q6,not_or,Bool.not_eq_false]at hb;obtain⟨⟨⟨_,_⟩,h3⟩,h4⟩:=hb;unfold zQ at h3;simp at h3;omega
theorem zU7 {l:List LBlk} {b:LBlk} (h:b∈l):(b.ins.length:Int)<=zg l:=by
 induction l with
 |nil=>cases h
 |cons c l ih=>
  have hc:zg (c::l)=(c.ins.length:Int)+zg l:=by unfold zg;simp
  have hp:=yp l;rw[hc];rcases Qi.1 h with rfl|h
  ·omega
  ·have:=ih h;omega
theorem zHI {T:List LType} {F:List LFn} {f:Int} (h:(zd T F f).2=0):0<=f/\f<(F.length:Int)/\ZQ T F=0/\zd T F f=(((T.getD (F.getD f.toNat default).sig.toNat default).parts.length:Int),0):=by
 unfold zd at h |-;split at h
 ·rename_i hp;exact absurd h hp
 ·rename_i hp;rw[QC hp];split at h
  ·rename_i hb;rw[QH hb];unfold zQ at hb;simp at hb;exact⟨hb.1,hb.2,by omega,rfl⟩
  ·cases h
theorem zRV {T:List LType} {F:List LFn} {f:Int} (sm:Small T F) (h:(zd T F f).2=0):FnOk T F f (F.getD f.toNat default).blocks ((T.getD (F.getD f.toNat default).sig.toNat default).parts.length:Int)/\
  ∀ b∈(F.getD f.toNat default).blocks,BlkU b (yK ((T.getD (F.getD f.toNat default).sig.toNat default).parts.length:Int) (F.getD f.toNat default).blocks) (F.getD f.toNat default).blocks.length:=by
 obtain⟨h0,h1,hp,ha⟩:=zHI h;have hmem:=zI (l:=F) (i:=f.toNat) (by omega);have hfn:=(YZ hp).2.2.2 _ hmem;have hl:=zPc hfn;refine⟨⟨h0,h1,hp,ha,rfl,by omega,?_,⟨hl.1,hl.2.1⟩,hl.2.2,fun b hb=>by have:=zU7 hb;omega,hfn⟩,zUL hfn⟩;by_cases q:(F.getD f.toNat default).sig.toNat<T.length
 ·have:=sm.parts _ (zI (l:=T) q);omega
 ·rw[QE,Gz (by omega)];simp;decide
set_option maxRecDepth 100000
def zQ5:ACode:=(oV (oR [oX 1 0,oK 2 (.slice none 0 0)]) (oV (oR [oF 0 4 1,oL 5 4,o1 6 43 5,⟨some 3,none,(.alloc [(.bool false),(.bool false),(.bool false),(.bool false),(.bool false),(.bool false)])⟩,oS 6 3 6]) (oV (oV (oR [oF 0 7 3,oL 8 7]) (oJ 8 (oR [oM 9 2,oF 2 10 1,oL 11 10,⟨some 12,none,(.buildSlice 1 1 [(.int .i64 0)] [(0,1,(.tmp 11))])⟩,oY 1 13 9 12,oM 2 13]) .skip)) (oV (oV (oR [oF 1 14 3,oL 15 14]) (oJ 15 (oR [oM 16 2,oF 3 17 1,oL 18 17,⟨some 19,none,(.buildSlice 1 1 [(.int .i64 0)] [(0,1,(.tmp 18))])⟩,oY 1 20 16 19,oM 2 20]) .skip)) (oV (oV (oR [oF 3 21 3,oL 22 21]) (oJ 22 (oR [oM 23 2,oF 5 24 1,oL 25 24,oY 1 26 23 25,oM 2 26]) .skip)) (oV (oR [oM 27 2,oM 2 27]) .ret))))))
theorem zIU (h:AHeap) (x:LIns) (cs:List Value) (hcs:RIns h cs x) (tt:Tbl h) (hx:x.args.length<=20):
  WC Tryz.prog tb 111 [.agg cs.toArray] h fun r h'=>OwnN h h' r (yj x)/\Ext h h':=by
 obtain⟨va,vfr,rfl,sa,sfr,hla,hlf,ho,ho2⟩:=hcs;obtain⟨aa,an,ak,rfl⟩:=SlC.shape sa;obtain⟨fa,fn,fk,rfl⟩:=SlC.shape sfr;refine en 28 [(2,none)] zQ5 ?_;refine WO.bx ?_;intro p h1 e1 o1;refine go ?_;refine WO.con (zOU h1 x.op (tt.ext e1) ho ho2) ?_;rintro _ h2 ⟨rfl,e2⟩;refine go ?_;refine WO.al ?_;intro p3 h3 e3 o3;refine go ?_;refine WO.stC0 (cs:=YC (zv x.op)) o3 e3 ?_;intro h4 e4 o4 u4;have e14:=e2.trans e4;have o1:=o1.ext e14;have sa4:=SlI.ext sa (e1.trans e14);have o4:=o4.since e2;have o4:=o4.since e1;have e04:=e1.trans e14;clear e1 e2 e3 e4 u4 e14 o3;unfold yj;generalize zv x.op=q at *;obtain⟨qa,qb,qn,qg,qf,qt⟩:=q;simp only;refine go ?_;refine WX.cutA [9,10,11,12,13,2] (by kernel_rfl) (fun t h'=>Ext h4 h'/\∃ w,zB t 2=w/\OwnN h4 h' w (if qa then [x.a] else [])) ?_ ?_
 ·cases qa with
  |true=>
   refine go ?_;refine WO.bl [x.a] ?_;intro v h2 e2 o2;refine go ?_;refine WO.apN (v:= .slice none 0 0) (xs:=[]) (h0:=h4) (.inl ⟨rfl,rfl⟩) o2.sl e2 (by simp) ?_;intro v3 h3 e3 o3;refine go ?_;exact zE ⟨e3,v3,sl_,o3⟩
  |false=>
   refine go ?_;exact zE ⟨Ext.refl _,_,sl_,.inl ⟨rfl,rfl⟩⟩
 rintro t2 h2 hs2 ⟨e2,w2,q2,ow2⟩;have o2:=o1.ext e2;have o42:=o4.ext e2;have l2:(if qa then [x.a] else []).length<=1:=by split<;>simp
 generalize (if qa then [x.a] else [])=lA at *;refine go ?_;refine WX.cutA [16,17,18,19,20,2] (by kernel_rfl) (fun t h'=>Ext h4 h'/\∃ w,zB t 2=w/\OwnN h4 h' w (lA++if qb then [x.b] else [])) ?_ ?_
 ·cases qb with
  |true=>
   refine go ?_;refine WO.bl [x.b] ?_;intro v h3 e3 o3;refine go ?_;refine WO.apN (OwnN.ext ow2 e3) o3.sl (e2.trans e3) (by simp only[Qa];omega) ?_;intro v4 h5 e5 o5;refine go ?_;exact zE ⟨e5,v4,sl_,o5⟩
  |false=>
   refine go ?_;exact zE ⟨e2,_,sl_,by simpa using ow2⟩
 rintro t3 h3 hs3 ⟨e3,w3,q3,ow3⟩;have o3:=o1.ext e3;have o43:=o4.ext e3;have sa3:=SlI.ext sa4 e3;have l3:(lA++if qb then [x.b] else []).length<=2:=by rw[QY];split<;>simp<;>omega
 rw[<-GD];generalize (lA++if qb then [x.b] else [])=lB at *;refine go ?_;cases qg with
 |true=>
  refine go ?_;refine WO.apN ow3 sa3 e3 (by omega) ?_;intro v5 h5 e5 o5;refine gr ?_;exact⟨o5.since e04,e04.trans e5⟩
 |false=>
  refine gr ?_;subst q3;rw[QC (by simp),G2];exact⟨ow3.since e04,e04.trans e3⟩
def zUw:ACode:=(oV (oR [oX 1 0,oK 2 (.slice none 0 0)]) (oV (oV (oR [oF 0 3 1,oL 4 3,oD .eql 5 4 2,oM 6 5,oH 6 (oF 0 7 1),oH 6 (oL 8 7),oH 6 (oD .eql 9 8 3),oO 10 6 9]) (oJ 10 (oV (oR [oF 1 11 1,oL 12 11,⟨some 13,none,(.buildSlice 1 1 [(.int .i64 0)] [(0,1,(.tmp 12))])⟩,oM 2 13]) .ret) .skip)) (oV (oR [oK 2 (.slice none 0 0)]) .ret)))
theorem zEG (h:AHeap) (x:LEnd):WC Tryz.prog tb 86 [.agg #[.int .u8 x.kind,I x.a,I x.to,I x.els]] h fun r h'=>OwnN h h' r (yW x)/\Ext h h':=by
 refine en 14 [(2,none)] zUw ?_;refine WO.bx ?_;intro p h1 e1 o1;unfold yW;by_cases c2:x.kind=2
 ·rw[QH (.inl c2)];refine go ?_;refine WO.bl [x.a] ?_;intro v h2 e2 o2;refine gr ?_;exact⟨.inr (o2.since e1),e1.trans e2⟩
 by_cases c3:x.kind=3
 ·rw[QH (.inr c3)];refine go ?_;refine WO.bl [x.a] ?_;intro v h2 e2 o2;refine gr ?_;exact⟨.inr (o2.since e1),e1.trans e2⟩
 rw[QC (by simp[c2,c3])];refine gr ?_;exact⟨.inl ⟨rfl,rfl⟩,e1⟩
set_option maxRecDepth 100000
def zTg:ACode:=(oV (oR [oK 2 (.slice none 0 0)]) (oV (oV (oR [oM 3 0,⟨some 4,none,(.isNil 0 false (.tmp 3))⟩]) (oJ 4 (oV (oR [oK 2 (.slice none 0 0)]) .ret) .skip)) (oV (oR [⟨some 5,none,(.buildSlice 0 1 [(.int .i64 0)] [])⟩,oM 6 0,oY 1 7 5 6,oM 2 7]) .ret)))
theorem zIZ (h:AHeap) (v:Value) (l:List Int) (s:SlI h v l) (hl:l.length<=1000000):WC Tryz.prog tb 55 [v] h fun r h'=>OwnN h h' r l/\Ext h h':=by
 refine en 8 [(2,none)] zTg ?_;obtain⟨a,n,k,rfl⟩:=SlC.shape s;cases a with
 |none=>
  have hn:l=[]:=by
   rcases s.2 with ⟨h0,_⟩|⟨g,off,row,hv,_⟩
   ·exact Gh.1 h0
   ·cases hv
  subst hn;refine go ?_;refine WX.br (fun hb=> ?_) (fun hb=> ?_)
  ·refine gr ?_;exact⟨.inl ⟨rfl,rfl⟩,Ext.refl _⟩
  ·exact absurd hb (by simp)
 |some a=>
  refine go ?_;refine WX.br (fun hb=> ?_) (fun hb=> ?_)
  ·exact absurd hb (by simp)
  ·refine go ?_;refine WO.bl [] ?_;intro v1 h1 e1 o1;have s1:=SlI.ext s e1;refine go ?_;refine WO.apN (.inr o1) s1 e1 (by simp only[Gg];omega) ?_;intro v2 h2 e2 o2;refine gr ?_;exact⟨o2,e2⟩
end
end Go.Proofs.YteekipjpghikkaaGreatDoor
