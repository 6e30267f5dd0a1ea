/- What functions of the program come to in the abstract machine, and plain laws about it; no statement of the seat is proved in this text. -/
import Derived.Test.YteekipjpghikkaaGreatDoorJk
import Derived.Test.YteekipjpghikkaaGreatDoorJj
import Derived.Test.YteekipjpghikkaaGreatDoorJn
import Derived.Test.YteekipjpghikkaaGreatDoorJg
import Derived.Test.YteekipjpghikkaaGreatDoorJc
import Derived.Test.YteekipjpghikkaaGreatDoorJa
import Derived.Test.YteekipjpghikkaaGreatDoorAmE
set_option linter.unusedVariables false
set_option linter.unusedSimpArgs false
set_option maxHeartbeats 2000000
namespace Go.Proofs.YteekipjpghikkaaGreatDoor
open Go.Am
theorem zGc:∀ {l:List LBlk} {a:Int},0<=a->a<zg l->a=zg (l.take (zp l a).1.toNat)+(zp l a).2
 |[],a,h0,h1=>by have h1:a<0:=h1;omega
 |b::l,a,h0,h1=>by
  rw[YP]at h1;unfold zp;by_cases hk:(b.ins.length:Int)<=a
  ·rw[QH hk];have ih:=zGc (l:=l) (a:=a - b.ins.length) (by omega) (by omega);have h2:=(zBU (l:=l) (a:=a - b.ins.length) (by omega) (by omega)).1;show a=zg ((b::l).take ((zp l (a - b.ins.length)).1+1).toNat)+(zp l (a - b.ins.length)).2;rw[show ((zp l (a - b.ins.length)).1+1).toNat=(zp l (a - b.ins.length)).1.toNat+1 by omega,Qn,YP];omega
  ·rw[QC hk];show a=zg ((b::l).take (0:Int).toNat)+a;simp[zg]
def AtB (T:List LType) (F:List LFn) (f b k r:Int):Prop:=
 (0<=r/\r<yK ((yZ T F f).parts.length:Int) (zR F f))/\zBb (nxL (zR F f)) ((psF T F f).getD r.toNat default) b k/\(ksF T F f).getD r.toNat 0≠ -1
section
variable {T:List LType} {F:List LFn} {f:Int}
theorem zIr (Z:FnIn T F f) {r:Int} (h:0<=r/\r<yK ((yZ T F f).parts.length:Int) (zR F f)):
  ((psF T F f).getD r.toNat default).1= -1\/(((yZ T F f).parts.length:Int)<=r/\(0<=((psF T F f).getD r.toNat default).1/\((psF T F f).getD r.toNat default).1<((zR F f).length:Int))/\0<=((psF T F f).getD r.toNat default).2/\((psF T F f).getD r.toNat default).2<(((zR F f).getD ((psF T F f).getD r.toNat default).1.toNat default).ins.length:Int)/\
   r=Ya ((yZ T F f).parts.length:Int) (zR F f) ((psF T F f).getD r.toNat default).1+((psF T F f).getD r.toNat default).2):=by
 rw[zOI h.1 h.2];split
 ·exact .inl rfl
 ·rename_i hr;have h2:=h.2;unfold yK at h2;have hw:=zBU (l:=zR F f) (a:=r - ((yZ T F f).parts.length:Int)) (by omega) (by omega);have hi:=zGc (l:=zR F f) (a:=r - ((yZ T F f).parts.length:Int)) (by omega) (by omega);unfold Ya;exact .inr ⟨by omega,⟨hw.1,hw.2.1⟩,hw.2.2.1,hw.2.2.2,by omega⟩
theorem zKS (Z:FnIn T F f) {r:Int} (h:0<=r/\r<((ksF T F f).length:Int)):0<=r/\r<yK ((yZ T F f).parts.length:Int) (zR F f):=by have:=Z.reg;omega
theorem zQA {ks rs:List Int} {r:Int} (h:¬(-1:Int)∈YG ks rs) (hr:r∈rs):ks.getD r.toNat 0≠ -1:=fun e=>h (Q0.2 ⟨r,hr,e⟩)
theorem zPG (Z:FnIn T F f) (W:zDC T F f) {b r:Int} {i:Nat} (hb:0<=b/\b<((zR F f).length:Int)) (hi:i<((zR F f).getD b.toNat default).ins.length) (h:r∈Zx (((zR F f).getD b.toNat default).ins.getD i default)):AtB T F f b i r:=by
 have hok:=(W.2.2 b hb.1 hb.2).1 i hi;unfold Z9 zG6 at hok;have hU:=(Z.U _ (zI (l:=zR F f) (i:=b.toNat) (by omega))).ins _ (zI hi);unfold Zx at h;split at h
 ·cases h
 ·rename_i hop;exact⟨zKS Z (hU.uses r h),hok.2.2.2 hop r h,zQA hok.1 h⟩
theorem zO9 (Z:FnIn T F f) (W:zDC T F f) {b r:Int} (hb:0<=b/\b<((zR F f).length:Int)) (h:r∈yW ((zR F f).getD b.toNat default).fin):AtB T F f b ((zR F f).getD b.toNat default).ins.length r:=by
 have hok:=(W.2.2 b hb.1 hb.2).2;unfold YY zEb at hok;have hU:=Z.U _ (zI (l:=zR F f) (i:=b.toNat) (by omega));exact⟨zKS Z (hU.ends r h),hok.1.2 r h,zQA hok.1.1 h⟩
theorem zKe:∀ {fs gs:List Int} {b r:Int},r∈Y0 fs gs b->∃ j,j<fs.length/\j<gs.length/\fs.getD j 0=b/\gs.getD j 0=r
 |[],_,_,_,h=>by cases h
 |_::_,[],_,_,h=>by cases h
 |x::fs,a::gs,b,r,h=>by
  unfold Y0 at h;have key:r∈Y0 fs gs b->∃ j,j<(x::fs).length/\j<(a::gs).length/\(x::fs).getD j 0=b/\(a::gs).getD j 0=r:=fun h=>by
   obtain⟨j,h1,h2,h3,h4⟩:=zKe h;exact⟨j+1,by simpa using h1,by simpa using h2,by simpa using h3,by simpa using h4⟩
  split at h
  ·rename_i e;rcases Qi.1 h with rfl|h
   ·exact⟨0,by simp,by simp,by simpa using e,by simp⟩
   ·exact key h
  ·exact key h
theorem zU2 (Z:FnIn T F f) (W:zDC T F f) {b k r:Int} (hk:0<=k/\k<((zR F f).length:Int)) (h:r∈zAv ((zR F f).getD k.toNat default) b):AtB T F f b ((zR F f).getD b.toNat default).ins.length r:=by
 unfold zAv at h;obtain⟨x,hx,h⟩:=List.mem_flatMap.1 h;split at h;case isFalse=>cases h
 rename_i hop;obtain⟨i,hi,rfl⟩:=List.getElem_of_mem hx;have hxi:((zR F f).getD k.toNat default).ins.getD i default=((zR F f).getD k.toNat default).ins[i]:=by rw[QE,QB hi];rfl
 rw[<-hxi]at h hop;have hok:=(W.2.2 k hk.1 hk.2).1 i hi;unfold Z9 zG6 at hok;have hU:=(Z.U _ (zI (l:=zR F f) (i:=k.toNat) (by omega))).ins _ (zI hi);generalize ((zR F f).getD k.toNat default).ins.getD i default=x at *;obtain⟨j,h1,h2,rfl,rfl⟩:=zKe h;have hP:=(hok.2.2.1 hop).2.2 j h1;have hm:x.args.getD j 0∈yj x:=by
  have hg:=(zCJ (op:=x.op) (by omega)).2.2.1.2 (by unfold zF5;omega);unfold yj;rw[hg,QH rfl];exact Qf.2 (.inr (Qf.2 (.inr (yT h2))))
 exact⟨zKS Z (hU.uses _ hm),hP,zQA hok.1 hm⟩
theorem zKr (Z:FnIn T F f) {b r:Int} {k:Nat} (hb:0<=b/\b<((zR F f).length:Int)) (h:AtB T F f b (k+1:Nat) r) (hne:r≠Ya ((yZ T F f).parts.length:Int) (zR F f) b+k):AtB T F f b k r:=by
 obtain⟨h1,h2,h3⟩:=h;refine⟨h1,?_,h3⟩;unfold zBb at h2 |-;split at h2
 ·rename_i e;rw[QH e];rcases zIr Z h1 with c|⟨_,_,_,_,c⟩
  ·omega
  ·rw[e]at c;have:((psF T F f).getD r.toNat default).2≠k:=fun q=>hne (by omega);omega
 ·rename_i e;rw[QC e];exact h2
theorem zSK (Z:FnIn T F f) (W:zDC T F f) {b k r:Int} (hb:0<=b/\b<((zR F f).length:Int)) (hk:k∈nxL (zR F f) b) (h:AtB T F f k 0 r):AtB T F f b ((zR F f).getD b.toNat default).ins.length r:=by
 have hh:=h;obtain⟨h1,h2,h3⟩:=h;have hkr:=Z.nx b hb k hk;refine⟨h1,?_,h3⟩;have hk0:k≠0:=fun e=>by
  have hok:=(W.2.2 b hb.1 hb.2).2;unfold YY zEb at hok;have h4:=hok.2.2.1;subst e;unfold nxL Zk at hk;split at hk
  ·rename_i e1;rw[QS]at hk;exact(h4 (.inl e1)).1 hk.symm
  ·rename_i e1;split at hk
   ·rename_i e2;have h5:=h4 (.inr e2);split at hk
    ·rw[QS]at hk;exact h5.1 hk.symm
    ·rcases Qi.1 hk with hk|hk
     ·exact h5.1 hk.symm
     ·rw[QS]at hk;exact h5.2.elim e1 fun q=>q hk.symm
   ·cases hk
 unfold zBb at h2 |-;rcases zIr Z h1 with c|⟨_,c0,c1,c2,_⟩
 ·rw[c]at h2 |-;rw[QC (by omega)];exact .inl rfl
 ·rw[QC (fun e=>by rw[QH e]at h2;omega)]at h2;have hne:((psF T F f).getD r.toNat default).1≠k:=fun e=>by
   have h6:=hh.2.1;unfold zBb at h6;rw[QH e]at h6;omega
  have hd:=(zLo hk0 hne).1 (h2.resolve_left (by omega)) b (W.1 b hb.1 hb.2) hk;by_cases e:((psF T F f).getD r.toNat default).1=b
  ·rw[QH e,<-e];exact c2
  ·rw[QC e];exact .inr hd
theorem zUy (Z:FnIn T F f) (W:zDC T F f):Clo ((yZ T F f).parts.length:Int) (zR F f) (fun b r=>AtB T F f b 0 r) (fun b r=>AtB T F f b ((zR F f).getD b.toNat default).ins.length r):=by
 have key:∀ (b r:Int),0<=b->b<((zR F f).length:Int)->∀ n k,n+k=((zR F f).getD b.toNat default).ins.length->ZH ((yZ T F f).parts.length:Int) (zR F f) b k (fun r=>AtB T F f b ((zR F f).getD b.toNat default).ins.length r) r->AtB T F f b k r:=fun b r b0 b1 n=>by
  induction n with
  |zero=>
   intro k hk hl;rw[zDA (by omega)]at hl;rw[show k=((zR F f).getD b.toNat default).ins.length by omega];exact hl.elim (zO9 Z W ⟨b0,b1⟩) id
  |succ n ih=>
   intro k hk hl;rw[zBy (by omega)]at hl;rcases hl with hl|⟨h1,hl⟩
   ·exact zPG Z W ⟨b0,b1⟩ (by omega) hl
   ·exact zKr Z ⟨b0,b1⟩ (ih (k+1) (by omega) hl) h1
 refine⟨fun b r b0 b1 h=> ?_,fun b r b0 b1 h=> ?_⟩
 ·obtain⟨k,hk,h⟩:=h;rcases h with h|h
  ·exact zSK Z W ⟨b0,b1⟩ hk h
  ·exact zU2 Z W (Z.nx b ⟨b0,b1⟩ k hk) h
 ·exact key b r b0 b1 ((zR F f).getD b.toNat default).ins.length 0 (by omega) h
theorem zQX (Z:FnIn T F f) (W:zDC T F f) {b r:Int} {k:Nat} (b0:0<=b) (b1:b<((zR F f).length:Int)) (hk:k<=((zR F f).getD b.toNat default).ins.length) (h:ZH ((yZ T F f).parts.length:Int) (zR F f) b k (LE ((yZ T F f).parts.length:Int) (zR F f) b) r):AtB T F f b k r:=by
 have hc:=zUy Z W;have key:∀ n k,n+k=((zR F f).getD b.toNat default).ins.length->ZH ((yZ T F f).parts.length:Int) (zR F f) b k (fun r=>AtB T F f b ((zR F f).getD b.toNat default).ins.length r) r->AtB T F f b k r:=fun n=>by
  induction n with
  |zero=>
   intro k hk hl;rw[zDA (by omega)]at hl;rw[show k=((zR F f).getD b.toNat default).ins.length by omega];exact hl.elim (zO9 Z W ⟨b0,b1⟩) id
  |succ n ih=>
   intro k hk hl;rw[zBy (by omega)]at hl;rcases hl with hl|⟨h1,hl⟩
   ·exact zPG Z W ⟨b0,b1⟩ (by omega) hl
   ·exact zKr Z ⟨b0,b1⟩ (ih (k+1) (by omega) hl) h1
 exact key (((zR F f).getD b.toNat default).ins.length - k) k (by omega) (yg (fun r q=>q _ _ hc) h)
end
set_option maxRecDepth 100000
theorem Env.envL {h:AHeap} {vt vf:Value} {T:List LType} {F:List LFn} (E:Env h vt vf T F):EnvL h vt vf T F:=⟨E.tt,E.hm,E.sm,E.st,E.sf⟩
theorem Env.inC {h:AHeap} {vt vf:Value} {T:List LType} {F:List LFn} (E:Env h vt vf T F):Env (Am.inC (zC 0 h)) vt vf T F:=⟨E.tt,QF _,E.sm,E.st,E.sf⟩
theorem zSX {T:List LType} {F:List LFn} {f b at':Int} (h:zAw T F f b at'=0):ZQ T F=0/\(0<=f/\f<(F.length:Int))/\(0<=b/\b<((zR F f).length:Int))/\0<=at'/\at'<=(((zR F f).getD b.toNat default).ins.length:Int):=by
 unfold zAw at h;split at h
 ·rename_i hn;exact absurd h hn
 ·rename_i hn;obtain⟨ha,hb⟩:=zHV (Classical.not_not.1 hn);obtain⟨h0,h1,hp,_⟩:=zHI ha;split at h
  ·cases h
  ·rename_i h2;exact⟨hp,⟨h0,h1⟩,hb,by omega,by show at'<=(((((F.getD f.toNat default).blocks).getD b.toNat default).ins.length:Nat):Int);omega⟩
theorem zPo {T:List LType} {F:List LFn} {f r:Int} (hs:Ys T F=0) (h:(zt T F f r).2.2=0) (hk:(ksF T F f).getD r.toNat 0≠ -1):zIe T F f r=((ksF T F f).getD r.toNat 0,0):=by
 unfold zIe;rw[QC (fun e=>e hs),QC (fun e=>e h),QC hk]
noncomputable def zRt:ACode:=(oV (oV (oR [oM 46 12,oM 47 10,oQ 48 47,oB .lss 49 46 48]) (oT 49 0)) (oV (o5 1 (oV (o6 [oA 2 53 4,oM 54 1,oM 55 10,oM 56 12,oI 1 57 55 56,oL 58 57,oM 59 2,oM 60 3,(⟨some 61,none,(.call (.func 21) [(.tmp 53),(.tmp 54),(.tmp 58),(.tmp 59),(.tmp 60)])⟩,[]),oM 52 61,oE 62 52 0,oE 63 52 1,oM 13 62,oM 14 63]) (oV (o6 [oA 2 65 4,oM 66 1,oM 67 10,oM 68 12,oI 1 69 67 68,oL 70 69,o3 71 10 65 66 70,oM 64 71,oE 72 64 0,oE 73 64 1,oM 15 72,oM 16 73]) (oV (oR [oM 74 14,oC .neq 75 74 0,oM 76 75,oH 76 (oM 77 13),oH 76 (oW 78 77),oO 79 76 78,oM 80 79,oH 80 (oM 81 16),oH 80 (oC .neq 82 81 0),oO 83 80 82]) (oJ 83 (oV (oR [oZ 8]) .ret) .skip))))) (oR [oM 50 12,oC .add 51 50 1,oM 12 51])))
noncomputable def zVl:ACode:=(oV (oR [oX 4 0,oZ 8]) (oV (oR [⟨some 17,none,(.call (.func 15) [])⟩,oM 9 17]) (oV (oV (oR [oA 2 18 4,⟨some 19,none,(.call (.func 8) [(.tmp 18),(.const (.int .i64 150))])⟩,oM 20 19,oH 20 (oA 2 21 4),oH 20 (o1 22 12 21),oH 20 (oC .neq 23 22 0),oO 24 20 23,oM 25 24,oH 25 (oM 26 9),oH 25 (oW 27 26),oO 28 25 27]) (oJ 28 (oV (oR [oM 29 9,oM 8 29]) .ret) .skip)) (oV (oR [oA 2 31 4,oM 32 1,oM 33 2,oM 34 3,o4 35 20 31 32 33 34,oM 30 35,oE 36 30 0,oE 37 30 1,oM 10 36,oM 11 37]) (oV (oV (oR [oM 38 11,oC .neq 39 38 0]) (oJ 39 (oV (oR [oM 40 9,oM 41 40,oG 41 (oM 42 10),oG 41 (oQ 43 42),oG 41 (oC .eql 44 43 0),oP 45 41 44,oM 8 45]) .ret) .skip)) (oV (oV (oR [oN 12 0]) (o5 0 (.loop zRt))) (oV (oR [oM 84 9,oM 8 84]) .ret)))))))
theorem zG3 (h:AHeap) (vt vf:Value) (T:List LType) (F:List LFn) (f b at':Int) (tt:Tbl h) (hm:h.mark<=h.n) (Z:TzT h) (st:SlT h vt T) (sf:SlF h vf F) (hT:(T.length:Int)<=1152921504606846976) (hF:(F.length:Int)<=1152921504606846976):
  WC Tryz.prog tb 6 [.agg #[vt,vf],I f,I b,I at'] h fun r h'=>r= .bool true:=by
 refine en 85 [(8,none)] zVl ?_;refine WO.bx ?_;intro p h1 e1 o1;refine go ?_;refine WO.con (zN9 h1 (tt.ext e1).1 (Z.ext e1).1) ?_;rintro _ _ ⟨rfl,rfl⟩;refine go ?_;refine WO.con (zMk h1 vt vf T F 150 (by omega) (st.ext e1) (SlF.ext sf e1) (by omega) (by omega)) ?_;rintro rr h2 ⟨hr,e2⟩;have o1:=o1.ext e2;rcases hr with rfl|⟨rfl,sm,si⟩
 ·refine gr ?_;rfl
 have E:Env h2 vt vf T F:=⟨(tt.ext e1).ext e2,yC e2 (yC e1 hm),sm,(st.ext e1).ext e2,SlF.ext (SlF.ext sf e1) e2⟩;have Z:=(Z.ext e1).ext e2;clear st sf tt hm e1 e2;replace o1:OwnC h h2 p [vt,vf]:=o1;refine go ?_;refine WO.con (zGZ h2 vt vf T F E) ?_;rintro _ h3 ⟨rfl,e3⟩;have o1:=o1.ext e3;have E:=E.ext e3;have Z:=Z.ext e3;by_cases hs:Ys T F=0;case neg=>
  have hs':Ys T F≠0:=hs;refine gr ?_;rfl
 obtain⟨hp,hw⟩:=zE1 hs;have hs0:=hs;rw[hs];refine go ?_;refine WO.con (zUc h3 vt vf T F f b at' E.envL Z) ?_;rintro _ h4 ⟨⟨v,l,rfl,ov,hn,hA⟩,e4⟩;have o1:=o1.ext e4;have E:=E.ext e4;by_cases ha:zAw T F f b at'=0;case neg=>
  have ha':zAw T F f b at'≠0:=ha;have hl:=hn ha;subst hl;refine gr ?_;rfl
 have A:=hA ha;obtain⟨_,hf,hb,a0,a1⟩:=zSX ha;have Z12:=zQL hp hf;have W:=hw f hf.1 hf.2;have hAt:∀ r∈l,AtB T F f b at' r:=fun r hr=>by
  have:=zQX Z12 W hb.1 hb.2 (k:=at'.toNat) (by omega) ((A.mem r).1 hr);rwa [show ((at'.toNat:Nat):Int)=at' by omega]at this
 have hreg:=Z12.reg;have hb0:=Z12.bl 0 (Qk 0) (by omega);have hbe:(zD T F f 0).2=0:=by rw[hb0]
 have hask:Zt T F f b=0:=by
  unfold Zt;rw[QC (fun e=>e hbe),QC (by rw[hb0];show ¬(_\/((zR F f).length:Int)<=_);omega),QH ((Zr hbe).2 (by rw[hb0];exact W.1 b hb.1 hb.2))]
 have hll:(l.length:Int)<=1000000:=by
  have h1:=A.rise;have h2:l.Nodup:=h1.imp fun h=>by omega
  have:=zBu (O:=l) (n:=(ksF T F f).length) h2 (fun r hr=>by have:=(hAt r hr).1;omega);have h3:=Z12.many;have h4:=Z12.par4;unfold yK at hreg;omega
 rw[ha];have sv:=ov.sl;obtain⟨w1,w2,w3,rfl⟩:=SlC.shape sv;replace hAt:=Hid.mk hAt;clear A hA hn ov;refine go ?_;refine WX.loopA [46,47,48,49,53,54,55,56,57,58,59,60,61,52,62,63,13,14,65,66,67,68,69,70,71,64,72,73,15,16,74,75,76,77,78,79,80,81,82,83,8,50,51,12] (by kernel_rfl) (fun i=>l.length - i) (fun i t h'=>Ext h4 h'/\zB t 12=I i/\i<=l.length) 0 ?_ ?_
 ·exact⟨Ext.refl _,sl_,QW _⟩
 rintro i t h5 hsame ⟨e5,s12,hi⟩;have o5:=o1.ext e5;have sv5:=sv.ext e5;have E5:=E.ext e5;refine go ?_;refine WX.br (fun hb=> ?_) (fun hb=> ?_)<;>simp only[DB]at hb
 ·have hi':i<l.length:=by omega
  obtain⟨hr,hset,hty⟩:=hAt.out _ (yT hi');have o5X:=OwnC.ia (o5.ext (zc 0 h5));have sv5X:=SlI.ia (sv5.ext (zc 0 h5));have hpl:=zC6 (f:=f) (r:=l.getD i 0) hp;rw[QC (by omega)]at hpl;have hpl0:(zt T F f (l.getD i 0)).2.2=0:=by rw[hpl];split<;>rfl
  have hSE:setE T F f (l.getD i 0) b at'=0:=by
   unfold setE;rw[QC (fun e=>e hpl0),QC (by show ¬(b<0\/((zR F f).length:Int)<=b\/at'<0\/(((zR F f).getD b.toNat default).ins.length:Int)<at');omega)];exact hask
  refine go ?_;refine WX.regionU2 0 rfl rfl ?_;refine goU ?_;refine WO.con (zRN _ vt vf T F f (l.getD i 0) b at' E5.inC) ?_;rintro _ X6 ⟨⟨bb,rfl,_,hbb⟩,e6⟩;have hbt:bb=true:=(hbb hSE).2 ((zUT hp Z12 hr.1 hr.2 (by assumption)).2.2 hset);subst hbt;rw[hSE];refine nE e6 ?_;have e6':=(zc 0 h5).trans (yr (h:=h5) e6);have e6'':Ext h5 (ze h5 (inC X6)):=e6';refine goU ?_;generalize ze h5 (inC X6)=h6 at *;have o6X:=OwnC.ia ((o5.ext e6'').ext (zc 0 h6));have sv6X:=SlI.ia ((sv5.ext e6'').ext (zc 0 h6));refine go ?_;refine WX.regionU2 0 rfl rfl ?_;refine goU ?_;have hK:=zPN _ vt vf T F f (l.getD i 0) (E5.ext e6'').inC;rw[zPo hs0 hpl0 hty]at hK;refine WO.con hK ?_;rintro _ X7 ⟨rfl,e7⟩;refine nE e7 ?_;have e7':=(zc 0 h6).trans (yr (h:=h6) e7);refine goU ?_;refine zA (i+1) (by omega) ⟨e5.trans (e6''.trans e7'),sln,by omega⟩
 ·refine gr ?_;rfl
set_option maxRecDepth 1000000 in
theorem zMi:(zL3 Tryz.prog (zHO Tryz.prog) 400).call 15 [] (YA Tryz.prog.globals.size zCg) (fun v _=>some v)=some (.bool true):=by kernel_rfl
theorem zN2:((aex Tryz.prog (zHO Tryz.prog) 400).call 15 [] (YA Tryz.prog.globals.size zCg)).map (·.1)=some (.bool true):=zPm zMi
set_option maxRecDepth 1000000 in
theorem zGf:(zCg:List (Nat×List Value)).all (fun x=>Nat.ble (x.1+1) Tryz.prog.globals.size&&yw x.2)=true:=by kernel_rfl
set_option maxRecDepth 1000000 in
theorem tb_ok:tb.Ok Tryz.prog where
 code:=fun _ _ h=>h
 stub:=fun f s hs=>by
  have hs:(if f=15 then some (zAV zCg (.bool true)) else none)=some s:=hs;split at hs
  ·rename_i e;subst e;cases hs;exact zIO Tryz.checked.mixed (zJV _) rfl (fun x hx=>by
    have h1:=QZ.1 zGf x hx;rw[QJ]at h1;exact⟨QM h1.1,h1.2⟩) zN2
  ·cases hs
 grow:=fun f s hs args h v h' hk=>by
  have hs:(if f=15 then some (zAV zCg (.bool true)) else none)=some s:=hs;split at hs
  ·cases hs;exact zJK args h v h' hk
  ·cases hs
end Go.Proofs.YteekipjpghikkaaGreatDoor
