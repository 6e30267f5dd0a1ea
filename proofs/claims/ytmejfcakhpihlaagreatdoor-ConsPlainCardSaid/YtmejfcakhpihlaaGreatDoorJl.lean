/- Walks of functions, plain laws; proves no statement. -/
import Derived.Test.YtmejfcakhpihlaaGreatDoorJk
set_option linter.unusedVariables false
set_option linter.unusedSimpArgs false
set_option maxHeartbeats 2000000
namespace Go.Proofs.YtmejfcakhpihlaaGreatDoor
noncomputable section
open Go.Am
set_option maxRecDepth 100000
structure NT(hB h:U2)(p vR vF vS:Value)(rs fs:List Int)(ss:List Wq):Prop where
 own:U6 hB h p [vR,vF,vS]
 r:WJ hB h vR rs
 q:WJ hB h vF fs
 s:WR 3 RSt hB.n h vS ss
 rf:WK vR vF
 rs:WK vR vS
 fs:WK vF vS
 pr:WK p vR
 pf:WK p vF
 ps:WK p vS
section
variable {hB h h' h2:U2}{p vR vF vS v':Value}{rs fs l:List Int}{ss:List Wq}
theorem NT.ext(N:NT hB h p vR vF vS rs fs ss)(e:U8 h h'):NT hB h' p vR vF vS rs fs ss:=⟨N.own.ext e,N.r.ext e,N.q.ext e,WR.ext N.s e,N.rf,N.rs,N.fs,N.pr,N.pf,N.ps⟩
theorem NT.putR(N:NT hB h p vR vF vS rs fs ss)(hn:hB.n<=h.n)(u:BN vR h h')(o:We h h' v' l)(oc:U6 hB h2 p [v',vF,vS])(u2:Wc p h' h2):NT hB h2 p v' vF vS l fs ss:=by
 have hs:zAo h v':=WJ.since' (.inr o);have u1:=u.upB;have u2:=u2.upB;have o1:=VF hs N.own.within;have ob:WJ hB h' v' l:= .inr (let⟨g,a,b⟩:=o;⟨g,QO hn a,b⟩);exact⟨oc,ob.upB u2 o1.symm,(N.q.upB u1 N.rf).upB u2 N.pf,(N.s.upB Zt u1 N.rs).upB Zt u2 N.ps,VF hs N.q.within,VF hs N.s.within,N.fs,o1.symm,N.pf,N.ps⟩
theorem NT.putF(N:NT hB h p vR vF vS rs fs ss)(hn:hB.n<=h.n)(u:BN vF h h')(o:We h h' v' l)(oc:U6 hB h2 p [vR,v',vS])(u2:Wc p h' h2):NT hB h2 p vR v' vS rs l ss:=by
 have hs:zAo h v':=WJ.since' (.inr o);have u1:=u.upB;have u2:=u2.upB;have o1:=VF hs N.own.within;have ob:WJ hB h' v' l:= .inr (let⟨g,a,b⟩:=o;⟨g,QO hn a,b⟩);exact⟨oc,(N.r.upB u1 N.rf.symm).upB u2 N.pr,ob.upB u2 o1.symm,(N.s.upB Zt u1 N.fs).upB Zt u2 N.ps,(VF hs N.r.within).symm,N.rs,VF hs N.s.within,N.pr,o1.symm,N.ps⟩
end
theorem zFX{α:Type}{R:U2->List Value->α->Prop}{h0 h:U2}{c:Nat}{v:Value}{xs:List α}(o:WR c R h0.n h v xs):zAo h0 v:=fun b hb=>by
 rcases o with⟨rfl,_⟩|⟨g,_,_,g1,_,rfl,_⟩
 ·cases hb
 ·cases hb;exact g1
theorem zHF{v:Value}{n c:Nat}:WK v (.slice none n c):=fun _ _ h=>by cases h
def zX(T:List U5)(F:List WP):List Int:=F.map fun g=>((T.getD g.sig.toNat default).parts.length:Int)+zI g.blocks
def yZ(T:List U5)(F:List WP):List Int:=(zn T F).map fun s=>((yN T s.ty.toNat).length:Int)
theorem zKo{T:List U5}{F:List WP}(hp:Zq T F=0){i:Nat}(hi:i<F.length):Y7 T F i=(((T.getD (F.getD i default).sig.toNat default).parts.length:Int)+zI (F.getD i default).blocks,0):=by
 have hask:zu T F i=(((T.getD (F.getD i default).sig.toNat default).parts.length:Int),0):=by
  unfold zu;rw[QC (fun e=>e hp),QI (by unfold zS;simp;omega),QU]
 unfold Y7;rw[hask];simp
theorem zD7{T:List U5}{f:Int}{s:Wq}:∀ {l:List Wg} {n:Int},s∈ZO T f n l->∃ x∈l,ZP x=true/\s.ty=(T.getD x.ty.toNat default).elem
 |[],_,h=>by cases h
 |x::l,n,h=>by
  unfold ZO at h;rcases Qi.1 h with h|h
  ·split at h
   ·rename_i hm;rw[QW]at h;subst h;exact⟨x,Qc ..,hm,rfl⟩
   ·cases h
  ·obtain⟨y,a,b⟩:=zD7 h;exact⟨y,Qh _ a,b⟩
theorem zE3{T:List U5}{f:Int}{s:Wq}:∀ {l:List WW} {n:Int},s∈ZD T f n l->∃ b∈l,∃ x∈b.ins,ZP x=true/\s.ty=(T.getD x.ty.toNat default).elem
 |[],_,h=>by cases h
 |x::l,n,h=>by
  unfold ZD at h;rcases Qi.1 h with h|h
  ·exact⟨x,Qc ..,zD7 h⟩
  ·obtain⟨y,a,b⟩:=zE3 h;exact⟨y,Qh _ a,b⟩
theorem zEc{T:List U5}{s:Wq}:∀ {l:List WP} {f:Int},s∈ZQ T f l->∃ g∈l,∃ b∈g.blocks,∃ x∈b.ins,ZP x=true/\s.ty=(T.getD x.ty.toNat default).elem
 |[],_,h=>by cases h
 |x::l,n,h=>by
  unfold ZQ at h;rcases Qi.1 h with h|h
  ·exact⟨x,Qc ..,zE3 h⟩
  ·obtain⟨y,a,b⟩:=zEc h;exact⟨y,Qh _ a,b⟩
theorem zAd{T:List U5}{F:List WP}(hs:zc T F=0):∀ s∈zn T F,0<=s.ty/\s.ty<(T.length:Int):=fun s h=>by
 obtain⟨g,hg,B,hB,x,hx,hm,he⟩:=zEc h;obtain⟨f,hf,rfl⟩:=Yd hg;obtain⟨b,hb,rfl⟩:=Yd hB;obtain⟨i,hi,rfl⟩:=Yd hx;obtain⟨h1,h2⟩:=zKS hs hf hb hi hm;have hc:=(yX (zk hs).1).1;have h3:=zEq hc h2;unfold BK at h3;rw[QI h1,<-he]at h3;rcases h3 with h3|h3
 ·unfold Ws at h1;simp only[QF,QV]at h1;have hm:=zBV hc (h2.resolve_left h1.1).1 (h2.resolve_left h1.1).2;unfold ZS zFK at hm;omega
 ·exact h3
theorem zB6{T:List U5}{F:List WP}(hs:zc T F=0):(zn T F).length<=1024:=by
 have hp:=(zk hs).1;obtain⟨hc,hF1,hF8,hfn⟩:=yX hp;have:=zCA (T:=T) (l:=F) (f:=0) fun g hg=>by
  obtain⟨i,hi,rfl⟩:=Yd hg;have h2:=(Bo hp (f:=(i:Int)) (by omega)).many;unfold zL at h2;rw[QU]at h2;exact h2
 unfold zn;omega
def zOk:U3:=(oV (oR [oB .lss 25 24 23]) (oV (oT 25 0) (oV (o5 1 (oV (oR [oM 26 24,oM 4 26]) (oV (oR [oA 2 28 1,oM 29 4,o2 30 17 28 29,oM 27 30,oE 31 27 0,oE 32 27 1,oM 5 31,oM 6 32]) (oR [oF 0 33 2,oF 0 34 33,oL 35 34,oM 36 5,⟨some 37,none,(.buildSlice 1 1 [(.int .i64 0)] [(0,1,(.tmp 36))])⟩,oY 1 38 35 37,oF 0 39 2,oF 0 40 39,oS 1 40 38])))) (oR [oC .add 41 24 1,oM 24 41]))))
def zPr:U3:=(oV (oR [oB .lss 46 45 44]) (oV (oT 46 2) (oV (o5 3 (oV (oR [oI 3 47 43 45,oA 3 48 47,⟨some 8,none,(.alloc [(.int .i64 0),(.int .i64 0),(.int .i64 0)])⟩,oS 3 8 48]) (oV (oR [oF 0 50 1,oL 51 50,oF 2 52 8,oL 53 52,o2 54 80 51 53,oM 49 54,oE 55 49 0,oE 56 49 1,oM 9 55,oM 10 56]) (oR [oF 0 57 2,oF 1 58 57,oL 59 58,oM 60 9,oQ 61 60,⟨some 62,none,(.buildSlice 1 1 [(.int .i64 0)] [(0,1,(.tmp 61))])⟩,oY 1 63 59 62,oF 0 64 2,oF 1 65 64,oS 1 65 63])))) (oR [oC .add 66 45 1,oM 45 66]))))
def zTr:U3:=(oV (oR [oX 1 0,⟨some 2,none,(.alloc [(.slice none 0 0),(.slice none 0 0),(.slice none 0 0)])⟩,oN 3 0]) (oV (oV (oR [oA 2 12 1,o1 13 25 12,oM 11 13,oE 14 11 0,oE 15 11 1,oF 2 16 2,oS 1 16 14,oM 3 15]) (oV (oR [oM 17 3,oC .neq 18 17 0]) (oJ 18 (oV (oR [oA 3 19 2,oM 20 3,oS 3 2 19,oM 3 20]) .ret) .skip))) (oV (oV (oR [oF 1 21 1,oL 22 21,oQ 23 22,oN 24 0]) (o5 0 (.loop zOk))) (oV (oV (oR [oF 2 42 2,oL 43 42,oQ 44 43,oN 45 0]) (o5 2 (.loop zPr))) (oV (oR [oA 3 67 2,oS 3 2 67,oN 3 0]) .ret)))))
theorem zLM(h:U2)(vt vf:Value)(T:List U5)(F:List WP)(E:Env h vt vf T F):
  WC Tryz.prog tb 43 [.agg #[vt,vf]] h fun r h'=>(∃ vR vF vS,r=.tuple #[.agg #[vR,vF,vS],I (zc T F)]/\(∃ a n c,vR=.slice a n c)/\(∃ a n c,vF=.slice a n c)/\(∃ a n c,vS=.slice a n c)/\WJ h h' vR (if zc T F=0 then zX T F else[])/\WJ h h' vF (if zc T F=0 then yZ T F else[])/\WR 3 RSt h.n h' vS (if zc T F=0 then zn T F else[]))/\U8 h h':=by
 refine en 68 [(2,some (true,3)),(3,none)] zTr ?_;refine VH ?_;intro p1 h1 e1 o1;replace o1:U6 h h1 p1 [vt,vf]:=o1;have E1:=E.ext e1;refine go ?_;refine WO.al ?_;intro p2 h2 e2 o2;have E2:=E1.ext e2;have o12:=o1.ext e2;refine go ?_;refine VA (zH7 h2 vt vf T F E2) ?_;rintro _ h3 ⟨⟨vS,rfl,oS⟩,e3⟩;have hS:=zFX oS;have hpS:WK p2 (_:Value):=(VF hS o2.within).symm;obtain⟨s1,s2,s3,rfl⟩:=zF oS.sl;have o13:=o12.ext e3;have o23:=o2.ext e3;have e13:=e2.trans e3;refine go ?_;refine VW (j:=2) (cs:=[.slice s1 s2 s3]) (hl:=by simp) o23 e13 ?_;intro h4 e4 o4 u4;replace o4:U6 h1 h4 p2 [.slice none 0 0,.slice none 0 0,.slice s1 s2 s3]:=o4;have oS4:=(oS.upB Zt u4.upB hpS).base e2.n;have o14:=o1.ext e4;by_cases hs:zc T F=0;case neg=>
  simp only[QC hs]at oS4 |-;refine go ?_;refine VG o4 e4 ?_;intro h5 e5 o5 u5;refine go ?_;refine rt ?_ (Vd WA o5 rfl (W5.cons WA W5.nil));exact⟨⟨_,_,_,rfl,⟨_,_,_,rfl⟩,⟨_,_,_,rfl⟩,⟨_,_,_,rfl⟩,.inl ⟨rfl,rfl⟩,.inl ⟨rfl,rfl⟩,(oS4.upB Zt u5.upB hpS).base e1.n⟩,e1.trans e5⟩
 simp only[QI hs]at oS4 |-;rw[hs];have N4:NT h1 h4 p2 (.slice none 0 0) (.slice none 0 0) (.slice s1 s2 s3) [] [] (zn T F):=⟨o4,.inl ⟨rfl,rfl⟩,.inl ⟨rfl,rfl⟩,oS4,zHF,(fun b hb=>by cases hb),(fun b hb=>by cases hb),zHF,zHF,hpS⟩;obtain⟨hp,hw⟩:=zk hs;obtain⟨hc,hF1,hF8,hfn⟩:=yX hp;have sf4:=(E1.ext e4).sf;obtain⟨f1,f2,f3,rfl⟩:=zF sf4;obtain⟨t1,t2,t3,rfl⟩:=zF E.st;replace hfn:=Wa.mk hfn;refine go ?_;refine VD [25,26,4,28,29,30,27,31,32,5,6,33,34,35,36,37,38,39,40,41,24] (by kernel_rfl) (fun i=>F.length-i) (fun i t h5=>zB t 24=I i/\i<=F.length/\∃ vR,(∃ a n c,vR=.slice a n c)/\U8 h1 h5/\NT h1 h5 p2 vR (.slice none 0 0) (.slice s1 s2 s3) ((zX T F).take i) [] (zn T F)) 0 ?_ ?_
 ·exact⟨WA,QT _,_,⟨_,_,_,rfl⟩,e4,by simpa using N4⟩
 rintro i t h5 hsame ⟨s24,hi,vR,⟨r1,r2,r3,rfl⟩,e5,N5⟩;have E5:=E1.ext e5;have o15:=o1.ext e5;refine go ?_;refine VE (fun hb=> ?_) (fun hb=> ?_)<;>simp only[DB]at hb
 ·have hi':i<F.length:=by omega
  have hRl:(zX T F).take (i+1)=(zX T F).take i++[((T.getD (F.getD i default).sig.toNat default).parts.length:Int)+zI (F.getD i default).blocks]:=by
   have hl:i<(zX T F).length:=by unfold zX;simpa using hi'
   rw[Q4,QB hl];unfold zX;simp[List.getD,QB hi']
  have hR:=zGj h5 _ _ T F i E5.tt E5.hm E5.sm E5.st E5.sf;rw[zKo hp hi']at hR;have htl:((zX T F).take i).length<=8:=by rw[Q8];omega
  generalize((T.getD (F.getD i default).sig.toNat default).parts.length:Int)+zI (F.getD i default).blocks=m at *;refine go ?_;refine VA hR ?_;rintro _ h6 ⟨rfl,e6⟩;have N6:=N5.ext e6;have o6:=N6.own;have e16:=e5.trans e6;refine go ?_;refine WO.bl [m] ?_;intro v7 h7 e7 o7;have N7:=N6.ext e7;have oo7:=N7.own;have e17:=e16.trans e7;refine go ?_;refine Vo N7.r o7.sl e17 (by simp) (by simp at htl |-;omega) ?_;intro v8 h8 e8 o8 u8;obtain⟨g8,_,_,rfl,_⟩:=id o8;have oo8:=N7.own.upB u8.upB N7.pr.symm;refine go ?_;refine VW (j:=0) (hl:=by simp) (cs:=[_]) oo8 e8 ?_;intro h9 e9 o9 u9;refine go ?_;have N9:=N7.putR e17.n u8 o8 o9 u9;rw[<-hRl]at N9;exact zA (i+1) (by omega) ⟨Wx,by omega,.slice (some ⟨g8,0,none⟩) ((zX T F).take (i+1)).length 1,⟨_,_,_,rfl⟩,e9,N9⟩
 ·have hii:i=F.length:=by omega
  subst hii;rw[Qw (by unfold zX;simp)]at N5;have oN5:=N5.own;have hfld:∀ j,j<(zn T F).length->0<=((zn T F).getD j default).ty/\((zn T F).getD j default).ty<(T.length:Int):=fun j hj=>zAd hs _ (zJ hj);replace hfld:=Wa.mk hfld;have sS5:=N5.s.sl;have hsl:=zB6 hs;refine go ?_;refine VD [46,47,48,8,50,51,52,53,54,49,55,56,9,10,57,58,59,60,61,62,63,64,65,66,45] (by kernel_rfl) (fun j=>(zn T F).length-j) (fun j t h6=>zB t 45=I j/\j<=(zn T F).length/\∃ vF,(∃ a n c,vF=.slice a n c)/\U8 h1 h6/\NT h1 h6 p2 (.slice r1 r2 r3) vF (.slice s1 s2 s3) (zX T F) ((yZ T F).take j) (zn T F)) 0 ?_ ?_
  ·exact⟨WA,QT _,_,⟨_,_,_,rfl⟩,e5,by simpa using N5⟩
  rintro j t' h6 hsame' ⟨s45,hj,vF,⟨q1,q2,q3,rfl⟩,e6,N6⟩;have E6:=E1.ext e6;have o16:=o1.ext e6;have sS6:=N6.s.sl;refine go ?_;refine VE (fun hb'=> ?_) (fun hb'=> ?_)<;>simp only[DB]at hb'
  ·have hj':j<(zn T F).length:=by omega
   have hFl:(yZ T F).take (j+1)=(yZ T F).take j++[((yN T ((zn T F).getD j default).ty.toNat).length:Int)]:=by
    have hl:j<(yZ T F).length:=by unfold yZ;simpa using hj'
    rw[Q4,QB hl];unfold yZ;simp[List.getD,QB hj'];exact List.getElem_map ..
   have hty:=hfld.out j hj';have htl:((yZ T F).take j).length<=1024:=by rw[Q8];omega
   obtain⟨csS,hRS,pcS,hsS⟩:=yv (i:=j) sS6 hj';generalize(zn T F).getD j default=x at *;have hRS:csS=[I x.fn,I x.nr,I x.ty]:=hRS;subst hRS;refine go ?_;refine WO.al ?_;intro p8 h7 e7 o8;refine go ?_;refine VG o8 e7 ?_;intro h8 e8 o8 _;have E8:=E6.ext e8;have o18:=o16.ext e8;refine go ?_;refine VA (zDI h8 _ T x.ty E8.st E8.sm.types E8.sm.parts hc hty E8.hm) ?_;rintro _ h9 ⟨⟨v9,rfl,o9⟩,e9⟩;obtain⟨l1,l2,l3,rfl⟩:=Wb.shape o9.sl;have e89:=e8.trans e9;have N9:=N6.ext e89;have oo9:=N9.own;have o19:=o18.ext e9;have e19:=e6.trans e89;refine go ?_;refine WO.bl [((yN T x.ty.toNat).length:Int)] ?_;intro v10 h10 e10 o10;have N10:=N9.ext e10;have oo10:=N10.own;have e110:=e19.trans e10;refine go ?_;refine Vo N10.q o10.sl e110 (by simp) (by simp at htl |-;omega) ?_;intro v11 h11 e11 o11 u11;obtain⟨g11,_,_,rfl,_⟩:=id o11;have oo11:=N10.own.upB u11.upB N10.pf.symm;refine go ?_;refine VW (j:=1) (hl:=by simp) (cs:=[_]) oo11 e11 ?_;intro h12 e12 o12 u12;have N12:=N10.putF e110.n u11 o11 o12 u12;rw[<-hFl]at N12;refine go ?_;exact zA (j+1) (by omega) ⟨Wx,by omega,.slice (some ⟨g11,0,none⟩) ((yZ T F).take (j+1)).length 1,⟨_,_,_,rfl⟩,e12,N12⟩
  ·have hjj:(yZ T F).take j=yZ T F:=Qw (by unfold yZ;simp;omega);rw[hjj]at N6;have oN6:=N6.own;refine go ?_;refine VG oN6 e6 ?_;intro h7 e7 o7 u7;refine go ?_;refine rt ?_ (Vd WA o7 rfl (W5.cons WA W5.nil));exact⟨⟨_,_,_,rfl,⟨_,_,_,rfl⟩,⟨_,_,_,rfl⟩,⟨_,_,_,rfl⟩,(N6.r.upB u7.upB N6.pr).since e1,(N6.q.upB u7.upB N6.pf).since e1,(N6.s.upB Zt u7.upB N6.ps).base e1.n⟩,e1.trans e7⟩
set_option maxRecDepth 100000
theorem zAq:∀ {l:List Int},(∀ x∈l,0<=x/\x<=1000)->0<=l.sum/\l.sum<=1000*l.length
 |[],_=>by simp
 |x::l,h=>by
  have:=zAq fun y hy=>h y (Qh _ hy);have:=h x (Qc ..);simp only[G9,GT];omega
theorem zOB{h0 h:U2}{v:Value}{l:List Int}{n:Nat}(o:WJ h0 h v l)(hn:n<=l.length):∃ r,ZZ 1 v none (some n) none=some r/\WM h r (l.take n):=by
 rcases o with⟨rfl,rfl⟩|⟨g,g1,g2,rfl,g3⟩
 ·obtain rfl:n=0:=Nat.le_zero.1 hn;exact⟨.slice none 0 0,rfl,WM.nil h⟩
 ·have hlen:(l.take n).length=n:=by rw[Q8];omega
  refine⟨.slice (some ⟨g,0+0*1,none⟩) (n-0) 1,?_,by simp,.inr ⟨g,0,l.map I,by rw[hlen];simp,ZX g3,?_,g2⟩⟩
  ·have b1:Nat.ble 0 n=true:=QH (QT _);have b2:Nat.ble n l.length=true:=QH hn;simp only[ZZ,Gm,GC,b1,b2,Qz,Q1,cond_true,Ge]
  ·rw[ZE (by rw[hlen];simp;omega),List.map_take,hlen];simp
def zTF:U3:=(oV (oR [oZ 4]) (oV (oR [oM 5 0,oC .geq 6 5 0,oM 7 6,oG 7 (oM 8 0),oG 7 (oM 9 1),oG 7 (oB .lss 10 8 9),oP 11 7 10,oM 4 11]) .ret))
theorem zKU(h:U2)(i n:Int):WC Tryz.prog tb 47 [I i,I n] h fun r h'=>r=.bool (decide (0<=i/\i<n))/\h=h':=by
 refine en 12 [(4,none)] zTF ?_;by_cases h0:0<=i
 ·refine gr ?_;exact⟨by simp[h0];rfl,rfl⟩
 ·refine gr ?_;exact⟨by simp[h0];rfl,rfl⟩
def zNw:U3:=(oV (oR [oB .lss 12 11 10]) (oV (oT 12 0) (oV (o5 1 (oV (oR [oI 1 13 9 11,oL 14 13,oM 6 14]) (oR [oM 15 4,oM 16 6,oB .add 17 15 16,oM 4 17]))) (oR [oC .add 18 11 1,oM 11 18]))))
def zUU:U3:=(oV (oR [oN 4 0]) (oV (oV (oR [oM 7 0,oM 8 1,⟨some 9,none,(.slice 1 (.tmp 7) none (some (.tmp 8)) none)⟩,oQ 10 9,oN 11 0]) (o5 0 (.loop zNw))) (oV (oR [oM 19 4,oM 4 19]) .ret)))
theorem zRQ(h:U2)(v:Value)(l:List Int)(n:Nat){h0:U2}(o:WJ h0 h v l)(hn:n<=l.length)(hl:l.length<=2000)(hb:∀ x∈l,0<=x/\x<=1000):
  WC Tryz.prog tb 44 [v,I n] h fun r h'=>r=I (l.take n).sum/\h=h':=by
 have s:=o.sl;obtain⟨v1,v2,v3,rfl⟩:=Wb.shape s;obtain⟨r,hr,sr⟩:=zOB o hn;replace hb:=Wa.mk hb;refine en 20 [(4,none)] zUU ?_;refine Vs hr ?_;have hlen:(l.take n).length=n:=by rw[Q8];omega
 have hbt:∀ x∈l.take n,0<=x/\x<=1000:=fun x hx=>hb.out x (GF hx);generalize l.take n=m at *;obtain⟨r1,r2,r3,rfl⟩:=Wb.shape sr;replace hbt:=Wa.mk hbt;refine go ?_;refine VD [12,13,14,6,15,16,17,4,18,11] (by kernel_rfl) (fun i=>m.length-i) (fun i t h1=>h=h1/\zB t 11=I i/\i<=m.length/\zB t 4=I (m.take i).sum) 0 ?_ ?_
 ·exact⟨rfl,WA,QT _,WA⟩
 rintro i t h1 hsame ⟨rfl,s11,hi,s4⟩;have hsb:=zAq (l:=m.take i) fun x hx=>hbt.out x (GF hx);have hli:(m.take i).length<=i:=List.length_take_le _ _;refine go ?_;refine VE (fun hc=> ?_) (fun hc=> ?_)<;>simp only[DB]at hc
 ·have hi':i<m.length:=by omega
  have hx:=hbt.out _ (zb hi');have hsum:(m.take (i+1)).sum=(m.take i).sum+m.getD i 0:=by
   rw[Q4,QB hi',Gu];simp[List.getD,QB hi']
  refine go ?_;exact zA (i+1) (by omega) ⟨rfl,Wx,by omega,by rw[hsum];exact WA⟩
 ·have hii:i=m.length:=by omega
  subst hii;rw[Q5]at s4;refine gr ?_;exact⟨rfl,rfl⟩
structure TB(h0 h:U2)(vR vF vS:Value)(Rg Fl:List Int)(S:List Wq):Prop where
 r:WJ h0 h vR Rg
 f:WJ h0 h vF Fl
 s:WR 3 RSt h0.n h vS S
 hR:Rg.length<=8
 hF:Fl.length<=1024
 bR:∀ x∈Rg,0<=x/\x<=1000
 bF:∀ x∈Fl,0<=x/\x<=1000
 sh:(∃ a n c,vR=.slice a n c)/\(∃ a n c,vF=.slice a n c)/\(∃ a n c,vS=.slice a n c)
theorem TB.ext{h0 h h':U2}{vR vF vS:Value}{Rg Fl:List Int}{S:List Wq}(B:TB h0 h vR vF vS Rg Fl S)(e:U8 h h'):TB h0 h' vR vF vS Rg Fl S:=⟨B.r.ext e,B.f.ext e,WR.ext B.s e,B.hR,B.hF,B.bR,B.bF,B.sh⟩
section
variable {h0 h:U2}{vR vF vS:Value}{Rg Fl:List Int}{S:List Wq}
end
section
variable {h:U2}{vt vf:Value}{T:List U5}{F:List WP}
theorem zVY{h h':U2}{vR vF vS:Value}(hs:zc T F=0)(r:WJ h h' vR (if zc T F=0 then zX T F else[]))(q:WJ h h' vF (if zc T F=0 then yZ T F else[]))(s:WR 3 RSt h.n h' vS (if zc T F=0 then zn T F else[]))
  (sh:(∃ a n c,vR=.slice a n c)/\(∃ a n c,vF=.slice a n c)/\(∃ a n c,vS=.slice a n c)):TB h h' vR vF vS (zX T F) (yZ T F) (zn T F):=by
 rw[QI hs]at r q s;have hp:=(zk hs).1;obtain⟨hc,hF1,hF8,hfn⟩:=yX hp;refine⟨r,q,s,by unfold zX;simpa using hF8,by unfold yZ;rw[Qp];exact zB6 hs,fun x hx=> ?_,fun x hx=> ?_,sh⟩
 ·unfold zX at hx;obtain⟨g,hg,rfl⟩:=Qt.1 hx;obtain⟨i,hi,rfl⟩:=Yd hg;have Z:=Bo hp (f:=(i:Int)) (by omega);have h1:=Z.many;have h2:=Z.par4;have h3:=zA4 (F.getD i default).blocks;unfold zL at h1;unfold z8 at h2;rw[QU]at h1 h2;omega
 ·unfold yZ at hx;obtain⟨s,hs',rfl⟩:=Qt.1 hx;have h1:=zAd hs s hs';have hl:=zC4 hc;have h2:=zDF (s.ty.toNat+1) s.ty.toNat (Q7 _) fun j hj=>(hl j (by omega)).1;have h3:=(hl s.ty.toNat (by omega)).2;omega
def zl(T:List U5)(F:List WP):Int:=(zX T F).sum
def zKI(T:List U5)(F:List WP):Int:=(zX T F).sum+F.length
def zKT(F:List WP):Int:=1+F.length
def zU4(T:List U5)(F:List WP)(s i:Int):Prop:=(0<=s/\s<((yZ T F).length:Int))/\0<=i/\i<(yZ T F).getD s.toNat 0
instance (T:List U5) (F:List WP) (s i:Int):Decidable (zU4 T F s i):=by unfold zU4;infer_instance
end
set_option maxRecDepth 100000
section
variable {h:U2}{vt vf:Value}{T:List U5}{F:List WP}
def zLk(T:List U5)(F:List WP)(f r:Int):Prop:=(0<=f/\f<(F.length:Int))/\0<=r/\r<(zX T F).getD f.toNat 0
def zOE(T:List U5)(F:List WP)(f r:Int):Int:=open Classical in if zc T F≠0 then zc T F else if zLk T F f r then 0 else 2
def zGZ(T:List U5)(F:List WP)(f r:Int):Int:=open Classical in if zc T F=0/\zLk T F f r then((zX T F).take f.toNat).sum+r else 0
def zUT:U3:=(oV (oR [oX 3 0,oN 6 0,oN 7 0]) (oV (oR [oA 2 11 3,o1 12 43 11,oM 10 12,oE 13 10 0,oE 14 10 1,⟨some 8,none,(.alloc [(.slice none 0 0),(.slice none 0 0),(.slice none 0 0)])⟩,oS 3 8 13,oM 9 14]) (oV (o5 0 (oV (oR [oM 16 9,oC .neq 17 16 0,oM 15 17]) (oJ 15 (oV (oR [oM 18 9,oN 6 0,oM 7 18]) .ret) (oV (oR [oM 20 1,oF 0 21 8,oF 0 22 21,oL 23 22,oQ 24 23,o2 25 47 20 24,oW 26 25,oM 27 26,oH 27 (oM 28 2),oH 27 (oF 0 29 8),oH 27 (oF 0 30 29),oH 27 (oL 31 30),oH 27 (oM 32 1),oH 27 (oI 1 33 31 32),oH 27 (oL 34 33),oH 27 (o2 35 47 28 34),oH 27 (oW 36 35),oO 37 27 36,oM 19 37]) (oJ 19 (oV (oR [oN 6 0,oN 7 2]) .ret) .skip))))) (oV (oR [oF 0 38 8,oF 0 39 38,oL 40 39,oM 41 1,o2 42 44 40 41,oM 43 2,oB .add 44 42 43,oM 6 44,oN 7 0]) .ret))))
theorem zQn(E:Env h vt vf T F)(f r:Int):WC Tryz.prog tb 20 [.agg #[vt,vf],I f,I r] h fun r' h'=>r'=.tuple #[I (zGZ T F f r),I (zOE T F f r)]/\U8 h h':=by
 unfold zGZ zOE;have hRl:(zX T F).length=F.length:=by unfold zX;simp
 refine en 45 [(6,none),(7,none)] zUT ?_;refine VH ?_;intro p h1 e1 o1;replace o1:U6 h h1 p [vt,vf]:=o1;refine go ?_;refine VA (zLM h1 vt vf T F (E.ext e1)) ?_;rintro _ h2 ⟨⟨vR,vF,vS,rfl,⟨r1,r2,r3,rfl⟩,⟨f1,f2,f3,rfl⟩,⟨s1,s2,s3,rfl⟩,oR,oF,sS⟩,e2⟩;refine go ?_;refine WO.al ?_;intro p8 h3 e3 o3;refine go ?_;refine VG (cs:=[.slice r1 r2 r3,.slice f1 f2 f3,.slice s1 s2 s3]) o3 e3 ?_;intro h4 e4 o4 _;have e04:=e1.trans (e2.trans e4);by_cases hs:zc T F=0;case neg=>
  have hs':zc T F≠0:=hs;rw[QC (fun e=>hs e.1),QI hs];refine gr ?_;exact⟨rfl,e04⟩
 have B:=(zVY hs oR oF sS ⟨⟨_,_,_,rfl⟩,⟨_,_,_,rfl⟩,⟨_,_,_,rfl⟩⟩).ext e4;have sR:=B.r.sl;rw[hs];refine go ?_;refine VA (zKU h4 f (zX T F).length) ?_;rintro _ _ ⟨rfl,rfl⟩;rw[hRl];by_cases hf:0<=f/\f<(F.length:Int);case neg=>
  have hn:¬zLk T F f r:=fun e=>hf e.1;rw[Qb hf,QC (fun e=>hn e.2),QC (fun e=>e rfl),QC hn];refine gr ?_;exact⟨rfl,e04⟩
 rw[Qe hf];have hfl:f<((zX T F).length:Int):=by omega
 refine go ?_;refine VA (zKU h4 r ((zX T F).getD f.toNat 0)) ?_;rintro _ _ ⟨rfl,rfl⟩;have hR8:=B.hR;by_cases hr:0<=r/\r<(zX T F).getD f.toNat 0;case neg=>
  have hn:¬zLk T F f r:=fun e=>hr e.2;rw[Qb hr,QC (fun e=>hn e.2),QC (fun e=>e rfl),QC hn];refine gr ?_;exact⟨rfl,e04⟩
 have hi:zLk T F f r:=⟨hf,hr⟩;rw[Qe hr,QI ⟨rfl,hi⟩,QC (fun e=>e rfl),QI hi];have hx:=B.bR _ (zb (l:=zX T F) (i:=f.toNat) (by omega));have hsb:=zAq (l:=(zX T F).take f.toNat) fun x hx=>B.bR x (GF hx);have hlt:((zX T F).take f.toNat).length<=8:=QO (by rw[Q8];omega) hR8;obtain⟨k,rfl⟩:∃ k:Nat,f=k:=⟨f.toNat,by omega⟩;rw[QU]at *;refine go ?_;refine VA (zRQ h4 _ (zX T F) k B.r (by omega) (by omega) B.bR) ?_;rintro _ _ ⟨rfl,rfl⟩;refine gr ?_;exact⟨rfl,e04⟩
end
section
variable {h:U2}{vt vf:Value}{T:List U5}{F:List WP}
end
theorem zQ7{T:List U5}{F:List WP}{f r:Int}(h:zOE T F f r=0):zc T F=0/\zLk T F f r/\zGZ T F f r=((zX T F).take f.toNat).sum+r:=by
 unfold zOE at h;split at h
 ·rename_i q;exact absurd h q
 ·rename_i q;have q:=Classical.not_not.1 q;split at h
  ·rename_i i;refine⟨q,i,?_⟩;unfold zGZ;rw[QI ⟨q,i⟩]
  ·cases h
theorem zC1{T:List U5}{F:List WP}(hs:zc T F=0):(∀ x∈zX T F,0<=x/\x<=1000)/\(zX T F).length=F.length/\1<=F.length/\F.length<=8:=by
 have hp:=(zk hs).1;obtain⟨hc,hF1,hF8,hfn⟩:=yX hp;refine⟨fun x hx=> ?_,by unfold zX;simp,by omega,by omega⟩;unfold zX at hx;obtain⟨g,hg,rfl⟩:=Qt.1 hx;obtain⟨i,hi,rfl⟩:=Yd hg;have Z:=Bo hp (f:=(i:Int)) (by omega);have h1:=Z.many;have h2:=Z.par4;have h3:=zA4 (F.getD i default).blocks;unfold zL at h1;unfold z8 at h2;rw[QU]at h1 h2;omega
theorem zBJ{l:List Int}{i:Nat}(hi:i<l.length):(l.take (i+1)).sum=(l.take i).sum+l.getD i 0:=by
 rw[Q4,QB hi,Gu];simp[List.getD,QB hi]
theorem zUg{l:List Int}(hb:∀ x∈l,0<=x/\x<=1000)(i:Nat):(l.take i).sum<=l.sum:=by
 have h:l.sum=(l.take i).sum+(l.drop i).sum:=by
  conv=>lhs;rw[<-GH i l]
  rw[Gu]
 have:=zAq (l:=l.drop i) fun x hx=>hb x (List.mem_of_mem_drop hx);omega
theorem zR9{T:List U5}{k t:Int}(h:Ws T k t=true):(T.getD t.toNat default).kind=k:=by
 unfold Ws at h;simp only[QF,QV]at h;exact h.2
theorem zV4{T:List U5}{F:List WP}(hp:Zq T F=0):∀ g∈F,BI T g.sig/\Ws T 3 g.sig=true:=fun g hg=>by
 have hfn:=(yX hp).2.2.2 g hg;have hs:=zDA hfn;refine⟨.inr hs,?_⟩;unfold BX at hfn;split at hfn
 ·cases hfn
 ·rename_i hb;unfold zBl at hb;simp only[GB,GZ,Gg,not_or,Bool.not_eq_false,Gh,Decidable.not_not]at hb;unfold Ws;simp only[QF,QV];exact⟨by omega,hb.1.1.2⟩
set_option maxRecDepth 100000
def zSY:U3:=(oV (oR [oX 1 0,oK 2 (.slice none 0 0)]) (oV (oV (oR [oF 0 3 1,oL 4 3]) (o5 0 (oV (oR [oD .eql 6 4 4,oM 5 6]) (oJ 5 (oV (oR [oF 3 7 1,oL 8 7,oM 2 8]) .ret) (oV (oR [oD .eql 10 4 5,oM 9 10]) (oJ 9 (oV (oR [oF 1 11 1,oL 12 11,⟨some 13,none,(.buildSlice 1 1 [(.int .i64 0)] [(0,1,(.tmp 12))])⟩,oF 2 14 1,oL 15 14,o2 16 225 13 15,oM 2 16]) .ret) .skip)))))) (oV (oR [oK 2 (.slice none 0 0)]) .ret)))
theorem zLK(h:U2)(x:U5)(va:Value)(sa:WM h va x.parts)(h4:x.kind=4):
  WC Tryz.prog tb 195 [.agg #[.int .u8 x.kind,I x.elem,I x.many,va]] h fun r h'=>r=va/\U8 h h':=by
 obtain⟨a1,a2,a3,rfl⟩:=Wb.shape sa;refine en 17 [(2,none)] zSY ?_;refine VH ?_;intro p h1 e1 o1;replace o1:U6 h h1 p [.int .u8 x.kind,I x.elem,I x.many,.slice a1 a2 a3]:=o1;refine gr ?_;exact⟨rfl,e1⟩
def zRK:U3:=(oV (oR [oN 6 0,oN 7 0]) (oV (oV (oR [oM 10 0,oM 11 1,o2 12 190 10 11,oM 8 12]) (oV (oR [oM 13 8,oC .neq 14 13 0]) (oJ 14 (oV (oR [oM 15 8,oN 6 0,oM 7 15]) .ret) .skip))) (oV (oR [oM 16 0,oM 17 1,oI 4 18 16 17,oA 4 19 18,o1 20 195 19,oM 9 20]) (oV (oV (oR [oM 21 9,oQ 22 21,oM 23 2,⟨some 24,none,(.buildSlice 1 1 [(.int .i64 0)] [(0,1,(.tmp 23))])⟩,o2 25 167 22 24,oW 26 25]) (oJ 26 (oV (oR [oN 6 0,oN 7 2]) .ret) .skip)) (oV (oR [oM 27 9,oM 28 2,oI 1 29 27 28,oL 30 29,oM 6 30,oN 7 0]) .ret)))))
theorem zOI(h:U2)(vt:Value)(T:List U5)(k n:Int)(st:Wv h vt T)(hT:T.length<=100)(hp:∀ x∈T,x.parts.length<=100)(hc:yq T=0)(hk:0<=k/\k<(T.length:Int))(h4:(T.getD k.toNat default).kind=4)(hn:0<=n/\n<((T.getD k.toNat default).parts.length:Int)):
  WC Tryz.prog tb 137 [vt,I k,I n] h fun r h'=>r=.tuple #[I ((T.getD k.toNat default).parts.getD n.toNat 0),I 0]/\U8 h h':=by
 have hm:=zBV hc hk.1 hk.2;have h8:=(zFS hm h4).1;refine en 31 [(6,none),(7,none)] zRK ?_;refine VA (zFy h vt T k st hT hp hc hk) ?_;rintro _ h2 ⟨rfl,e2⟩;have st2:=Wv.ext st e2;obtain⟨cs,⟨va,rfl,sa,hla⟩,pc,hs⟩:=ZL (i:=k.toNat) st2 (by omega);obtain⟨t1,t2,t3,rfl⟩:=zF st2;generalize T.getD k.toNat default=x at *;obtain⟨a1,a2,a3,rfl⟩:=Wb.shape sa;refine go ?_;refine VA (zLK h2 x _ sa h4) ?_;rintro _ h3 ⟨rfl,e3⟩;have sa3:=sa.ext e3;refine go ?_;refine WO.bl [n] ?_;intro v4 h4' e4 o4;have ht:yd (x.parts.length:Int) [n]=true:=by unfold yd;simp[hn.1,hn.2]
 refine go ?_;refine VA (zAZ h4' v4 (x.parts.length:Int) [n] o4.sl (by simp)) ?_;rintro _ h5 ⟨rfl,e5⟩;rw[ht];have sa5:=sa3.ext (e4.trans e5);refine gr ?_;exact⟨rfl,e2.trans (e3.trans (e4.trans e5))⟩
theorem zNg{h:U2}{v:Value}{l:List Int}{n:Nat}(s:WM h v l)(hl:0<l.length)(hn:n<=l.length):∃ r,ZZ 1 v none (some n) none=some r/\WM h r (l.take n):=by
 obtain⟨h1,⟨h2,_⟩|⟨g,off,row,rfl,h3,h4,h5⟩⟩:=s
 ·omega
 have hlen:(l.take n).length=n:=by rw[Q8];omega
 refine⟨.slice (some ⟨g,off+0*1,none⟩) (n-0) 1,?_,by simp,.inr ⟨g,off,row,by rw[hlen];simp,h3,?_,h5⟩⟩
 ·have b1:Nat.ble 0 n=true:=QH (QT _);have b2:Nat.ble n l.length=true:=QH hn;simp only[ZZ,Gm,GC,b1,b2,Qz,Q1,cond_true,Ge]
 ·obtain⟨c1,c2⟩:=zEV h4;rw[ZE (by rw[hlen];omega),List.map_take,c2,hlen,List.take_take,G4,G4,Gj hn]
def stepL(T:List U5)(s n:Int):Int:=(((T.getD s.toNat default).parts.take n.toNat).map fun p=>((yN T p.toNat).length:Int)).sum
def zPy:U3:=(oV (oR [oB .lss 39 38 37]) (oV (oT 39 0) (oV (o5 1 (oV (oR [oI 1 40 36 38,oL 41 40,oM 11 41]) (oV (oR [oM 43 0,oM 44 11,o2 45 80 43 44,oM 42 45,oE 46 42 0,oE 47 42 1,oM 12 46,oM 13 47]) (oR [oM 48 6,oM 49 12,oQ 50 49,oB .add 51 48 50,oM 6 51])))) (oR [oC .add 52 38 1,oM 38 52]))))
def zTK:U3:=(oV (oR [oN 6 0,oN 7 0]) (oV (oV (oR [oM 15 0,oM 16 1,oM 17 2,o3 18 137 15 16 17,oM 14 18,oE 19 14 0,oE 20 14 1,oM 8 19,oM 9 20]) (oV (oR [oM 21 9,oC .neq 22 21 0]) (oJ 22 (oV (oR [oM 23 9,oN 6 0,oM 7 23]) .ret) .skip))) (oV (oV (oR [oM 24 0,oM 25 1,oI 4 26 24 25,oF 0 27 26,oL 28 27,oD .eql 29 28 5]) (oJ 29 (oV (oR [oN 6 0,oN 7 0]) .ret) .skip)) (oV (oV (oR [oM 30 0,oM 31 1,oI 4 32 30 31,oF 3 33 32,oL 34 33,oM 35 2,⟨some 36,none,(.slice 1 (.tmp 34) none (some (.tmp 35)) none)⟩,oQ 37 36,oN 38 0]) (o5 0 (.loop zPy))) (oV (oR [oM 53 6,oM 6 53,oN 7 0]) .ret)))))
theorem zNj(h:U2)(vt:Value)(T:List U5)(k n:Int)(st:Wv h vt T)(hT:T.length<=100)(hp:∀ x∈T,x.parts.length<=100)(hc:yq T=0)(hk:0<=k/\k<(T.length:Int))(h4:(T.getD k.toNat default).kind=4)(hn:0<=n/\n<((T.getD k.toNat default).parts.length:Int))(hm:h.mark<=h.n):
  WC Tryz.prog tb 86 [vt,I k,I n] h fun r h'=>(∃ e,r=.tuple #[I (stepL T k n),e])/\U8 h h':=by
 have hmy:=zBV hc hk.1 hk.2;have hp4:=zFS hmy h4;have hlow:=zC4 hc;refine en 54 [(6,none),(7,none)] zTK ?_;refine VA (zOI h vt T k n st hT hp hc hk h4 hn) ?_;rintro _ h2 ⟨rfl,e2⟩;have st2:=Wv.ext st e2;obtain⟨cs,⟨va,rfl,sa,hla⟩,pc,hs⟩:=ZL (i:=k.toNat) st2 (by omega);obtain⟨t1,t2,t3,rfl⟩:=zF st2;have hsteq:stepL T k n=(((T.getD k.toNat default).parts.take n.toNat).map fun p=>((yN T p.toNat).length:Int)).sum:=rfl;rw[hsteq];have hfl:∀ p∈(T.getD k.toNat default).parts,(0<=p/\p<(T.length:Int))/\(yN T p.toNat).length<=32:=fun p hpp=>by
  have h1:=hp4.2 p hpp;have h2:=hlow p.toNat (by omega);exact⟨by omega,QO (zDF (p.toNat+1) p.toNat (Q7 _) fun j hj=>(hlow j (by omega)).1) h2.2⟩
 clear hsteq;generalize T.getD k.toNat default=x at *;obtain⟨a1,a2,a3,rfl⟩:=Wb.shape sa;have hp8:=hp4.1;clear hp4;obtain⟨w,hw,sw⟩:=zNg (n:=n.toNat) sa (by omega) (by omega);have hwl:(x.parts.take n.toNat).length=n.toNat:=by rw[Q8];omega
 have hfl':∀ p∈x.parts.take n.toNat,(0<=p/\p<(T.length:Int))/\(yN T p.toNat).length<=32:=fun p hpp=>hfl p (GF hpp);obtain⟨m,rfl⟩:∃ m:Nat,n=m:=⟨n.toNat,by omega⟩;rw[QU]at *;generalize x.parts.take m=l at *;replace hfl:=Wa.mk hfl;replace hfl':=Wa.mk hfl';replace hlow:=Wa.mk hlow;obtain⟨w1,w2,w3,rfl⟩:=Wb.shape sw;refine go ?_;refine Vs hw ?_;refine go ?_;refine VD [39,40,41,11,43,44,45,42,46,47,12,13,48,49,50,51,6,52,38] (by kernel_rfl) (fun i=>l.length-i) (fun i t h3=>zB t 38=I i/\i<=l.length/\U8 h2 h3/\zB t 6=I ((l.take i).map fun p=>((yN T p.toNat).length:Int)).sum/\0<=((l.take i).map fun p=>((yN T p.toNat).length:Int)).sum/\((l.take i).map fun p=>((yN T p.toNat).length:Int)).sum<=32*i) 0 ?_ ?_
 ·exact⟨WA,QT _,U8.refl _,WA,by simp,by simp⟩
 rintro i t h3 hsame ⟨s38,hi,e3,s6,hb0,hb1⟩;have sw3:=sw.ext e3;refine go ?_;refine VE (fun hc'=> ?_) (fun hc'=> ?_)<;>simp only[DB]at hc'
 ·have hi':i<l.length:=by omega
  have hx:=hfl'.out _ (zb hi');have hsn:((l.take (i+1)).map fun p=>((yN T p.toNat).length:Int)).sum=((l.take i).map fun p=>((yN T p.toNat).length:Int)).sum+((yN T (l.getD i 0).toNat).length:Int):=by
   rw[Q4,QB hi',GA,Gu];congr 1;simp[List.getD,QB hi']
  have e23:=e2.trans e3;refine go ?_;refine VA (zDI h3 _ T (l.getD i 0) (Wv.ext st e23) hT hp hc hx.1 (by rw[e23.mark];exact QO hm e23.n)) ?_;rintro _ h4 ⟨⟨v,rfl,ov⟩,e4⟩;have sv:=ov.sl;obtain⟨v1,v2,v3,rfl⟩:=Wb.shape sv;generalize((l.take i).map fun p=>((yN T p.toNat).length:Int)).sum=a at *;refine go ?_;exact zA (i+1) (by omega) ⟨Wx,by omega,e3.trans e4,by rw[hsn];exact WA,by rw[hsn];omega,by rw[hsn];omega⟩
 ·have hii:i=l.length:=by omega
  subst hii;rw[Q5]at *;refine gr ?_;exact⟨⟨_,rfl⟩,e2.trans e3⟩
structure Wh where
 kind:Int
 to:Int
 frm:Int
 n:Int
 args:List Int
instance:Inhabited Wh:=⟨⟨0,0,0,0,[]⟩⟩
def RCn(h:U2)(cs:List Value)(x:Wh):Prop:=∃ va,cs=[.int .u8 x.kind,I x.to,I x.frm,I x.n,va]/\WM h va x.args/\x.args.length<=1000
theorem RCn.ext{h h' cs x}(r:RCn h cs x)(e:U8 h h'):RCn h' cs x:=let⟨va,a,b,c⟩:=r;⟨va,a,b.ext e,c⟩
abbrev SlO(h:U2)(v:Value)(l:List Wh):Prop:=W4 5 RCn h v l
theorem SlO.ext{h h' v l}(s:SlO h v l)(e:U8 h h'):SlO h' v l:=W4.ext (fun _ _ r=>RCn.ext r e) s e
def W2(T:List U5)(t:Int):Bool:=decide ((T.getD t.toNat default).kind=1)
def YC(T:List U5)(F:List WP)(f:Int):List Int:=(z8 T F f).parts++(zL F f).flatMap fun b=>b.ins.map fun x=>x.ty
def YL(T:List U5)(f r:Int):List Wq->Int->List Int->Int×List Int
 |[],a,l=>(a,l)
 |s::S,a,l=>if s.fn=f/\s.nr=r then(a+l.length,yN T s.ty.toNat)else YL T f r S (a+l.length) (yN T s.ty.toNat)
section
variable (T:List U5)(F:List WP)(f:Int)(ks:List Int)(r:Int)
def WZ(q:Int):Int:=((zX T F).take f.toNat).sum+q
def zKj(b:Int)(l:List Int):List Wh:=(List.range l.length).flatMap fun(i:Nat)=>if W2 T (l.getD i 0)then[]else[⟨1,b+i,0,0,[]⟩]
def zFV(g:Int)(ps us:List Int):List Wh:=(List.range ps.length).flatMap fun(i:Nat)=>if W2 T (ps.getD i 0)then[]else[⟨2,WZ T F g i,WZ T F f (us.getD i 0),0,[]⟩]
def zNO(us:List Int):List Wh:=(List.range us.length).flatMap fun(i:Nat)=>[⟨2,WZ T F f r,WZ T F f (us.getD i 0),0,[]⟩]
def zGJ(q:Int×List Int):List Wh:=⟨1,WZ T F f r,0,1+F.length+q.1,[]⟩::zKj T (zl T F+F.length+q.1) q.2
def Z0(x:Wg):List Wh:=
 if x.op=2\/x.op=3 then[⟨1,WZ T F f r,0,if x.op=3 then x.n+1 else 0,[]⟩]
 else if x.op=11\/x.op=12 then zGJ T F f r (YL T f r (zn T F) 0 [])
 else if x.op=14\/x.op=15 then[⟨3,WZ T F f r,WZ T F f x.a,if x.op=14 then stepL T (T.getD (ks.getD x.a.toNat 0).toNat default).elem x.n else 0,[]⟩]
 else if x.op=16 then(if W2 T x.ty then[]else[⟨4,WZ T F f r,WZ T F f x.a,0,[]⟩])
 else if x.op=17 then(if W2 T (ks.getD x.b.toNat 0)then[]else[⟨5,WZ T F f x.a,WZ T F f x.b,0,[]⟩])
 else if x.op=18 then zFV T F f x.n (z8 T F x.n).parts x.args++(if W2 T x.ty then[]else[⟨2,WZ T F f r,zl T F+x.n,0,[]⟩])
 else if x.op=19 then[⟨6,WZ T F f r,WZ T F f x.a,0,x.args.map (WZ T F f)⟩]
 else if x.op=22 then(if W2 T x.ty then[]else zNO T F f r x.args)
 else[]
end
def zIs(T:List U5)(F:List WP)(f:Int)(B:WW):List Wh:=
 if B.fin.kind=3 then(if W2 T (z8 T F f).elem then[]else[⟨2,zl T F+f,WZ T F f B.fin.a,0,[]⟩])else[]
def zFo(T:List U5)(F:List WP)(f r:Int)(l:List Wg):List Wh:=(List.range l.length).flatMap fun(i:Nat)=>Z0 T F f (YC T F f) (r+i) (l.getD i default)
def consB(T:List U5)(F:List WP)(f:Int)(L:List WW)(n:Nat):List Wh:=(List.range n).flatMap fun(b:Nat)=>zFo T F f ((z8 T F f).parts.length+zI (L.take b)) (L.getD b default).ins++zIs T F f (L.getD b default)
def zAi(T:List U5)(F:List WP)(n:Nat):List Wh:=(List.range n).flatMap fun(f:Nat)=>consB T F f (zL F f) (zL F f).length
def zBH(T:List U5)(F:List WP):List Wh:=if zc T F=0 then zAi T F F.length else[]
theorem YH{α:Type}(g:Nat->List α)(n:Nat):(List.range (n+1)).flatMap g=(List.range n).flatMap g++g n:=by
 rw[Gy,List.flatMap_append];simp
structure CI(T:List U5)(F:List WP)(ks:List Int)(x:Wg):Prop where
 op:0<=x.op/\x.op<=22
 n3:x.op=3->0<=x.n/\x.n<(F.length:Int)
 a14:x.op=14\/x.op=15\/x.op=16\/x.op=17\/x.op=19->0<=x.a/\x.a<(ks.length:Int)
 k14:x.op=14->∃ s,(T.getD (ks.getD x.a.toNat 0).toNat default).elem=s/\(0<=ks.getD x.a.toNat 0/\ks.getD x.a.toNat 0<(T.length:Int))/\(0<=s/\s<(T.length:Int))/\(T.getD s.toNat default).kind=4/\0<=x.n/\x.n<((T.getD s.toNat default).parts.length:Int)
 ty:x.op=16\/x.op=18\/x.op=22->0<=x.ty/\x.ty<(T.length:Int)
 b17:x.op=17->(0<=x.b/\x.b<(ks.length:Int))/\0<=ks.getD x.b.toNat 0/\ks.getD x.b.toNat 0<(T.length:Int)
 c18:x.op=18->(0<=x.n/\x.n<(F.length:Int))/\(z8 T F x.n).parts.length=x.args.length/\(0<=(F.getD x.n.toNat default).sig/\(F.getD x.n.toNat default).sig<(T.length:Int))/\∀ t∈(z8 T F x.n).parts,0<=t/\t<(T.length:Int)
 args:x.op=18\/x.op=19\/x.op=22->∀ a∈x.args,0<=a/\a<(ks.length:Int)
 al:x.args.length<=20
theorem zSm:(zW 14).1=true/\(zW 15).1=true/\(zW 16).1=true/\(zW 17).1=true/\(zW 19).1=true/\(zW 17).2.1=true/\(zW 18).2.2.2.1=true/\(zW 19).2.2.2.1=true/\(zW 22).2.2.2.1=true/\(zW 14).2.1=false/\(zW 14).2.2.2.1=false/\(zW 18).1=false/\(zW 18).2.1=false/\(zW 19).2.1=false/\(zW 22).1=false/\(zW 22).2.1=false:=by decide
theorem zPw{T:List U5}{F:List WP}{f:Int}{i:Nat}(h:(Wu T F f).getD i 0≠ -1):(YC T F f).getD i 0=(Wu T F f).getD i 0/\(YC T F f).length=(Wu T F f).length:=by
 have key:∀ (L:List WW),(L.flatMap fun b=>b.ins.map fun x=>x.ty).length=(yn L).length/\∀ j,(yn L).getD j 0≠ -1->(L.flatMap fun b=>b.ins.map fun x=>x.ty).getD j 0=(yn L).getD j 0:=by
  intro L;have h1:yn L=(L.flatMap fun b=>b.ins).map Zu:=by unfold yn;rw[List.map_flatMap]
  have h2:(L.flatMap fun b=>b.ins.map fun x=>x.ty)=(L.flatMap fun b=>b.ins).map fun x=>x.ty:=by rw[List.map_flatMap]
  rw[h1,h2];refine⟨by simp,fun j hj=> ?_⟩;generalize(L.flatMap fun b=>b.ins)=l at *;simp only[QK,GU]at *;cases hx:l[j]? with
  |none=>rfl
  |some x=>
   rw[hx]at hj;simp only[QL,GC]at *;unfold Zu at *;split
   ·rfl
   ·rename_i q;rw[QC q]at hj;exact absurd rfl hj
 unfold Wu zAz at h |-;unfold YC;refine⟨?_,by rw[QM,QM,(key _).1]⟩;by_cases q:i<(z8 T F f).parts.length
 ·rw[zBY q,zBY q]
 ·rw[zAn (by omega)]at h;rw[zAn (by omega),zAn (by omega)];exact(key (zL F f)).2 _ h
theorem zKC(T:List U5)(F:List WP)(f:Int):(YC T F f).length=(Wu T F f).length:=by
 unfold YC Wu zAz yn;simp
theorem zNR{T:List U5}{F:List WP}(hs:zc T F=0){f:Nat}(hf:f<F.length){b:Nat}(hb:b<(zL F f).length){i:Nat}(hi:i<((zL F f).getD b default).ins.length):
  CI T F (YC T F f) (((zL F f).getD b default).ins.getD i default):=by
 obtain⟨hp,hw⟩:=zk hs;have Z:=Bo hp (f:=(f:Int)) (by omega);have W:=(hw f (by omega) (by omega)).2.2 b (by omega) (by omega);have h1:=W.1 i (by rw[QU];exact hi);have hBm:(zL F f).getD b default∈zL F f:=zJ hb;have hV:=Z.V _ hBm _ (zJ hi);have hU:=(Z.U _ hBm).ins _ (zJ hi);have hc:=Z.hc;have hraw:= @zPw T F f;have hlen:=zKC T F f;have hks:=Z.ks;unfold YI zEh at h1;rw[QU]at h1;obtain⟨g1,g2,-,-⟩:=h1;generalize((zL F f).getD b default).ins.getD i default=x at *;have hnone:∀ r∈zi x,(Wu T F f).getD r.toNat 0≠ -1:=fun r hr e=>g1 (Qt.2 ⟨r,hr,e⟩);have hus:∀ r∈zi x,(0<=r/\r<((YC T F f).length:Int))/\(YC T F f).getD r.toNat 0=(Wu T F f).getD r.toNat 0/\0<=(YC T F f).getD r.toNat 0/\(YC T F f).getD r.toNat 0<(T.length:Int):=fun r hr=>by
  have h1:=hU.uses r hr;have h2:=hraw (hnone r hr);have h3:=hks _ (zb (l:=Wu T F f) (i:=r.toNat) (by omega));refine⟨by omega,h2.1,?_⟩;rw[h2.1];exact h3.resolve_left (hnone r hr)
 obtain⟨u14,u15,u16,u17,u19,v17,w18,w19,w22,z14,z14',z18,z18',z19,z22,z22'⟩:=zSm;have ha:x.op=14\/x.op=15\/x.op=16\/x.op=17\/x.op=19->x.a∈zi x:=fun h=>by
  unfold zi;have:(zW x.op).1=true:=by rcases h with e|e|e|e|e<;>rw[e]<;>assumption
  rw[QI this];simp
 have hbb:x.op=17->x.b∈zi x:=fun e=>by
  unfold zi;rw[e,QI v17];simp
 have har:x.op=18\/x.op=19\/x.op=22->∀ a∈x.args,a∈zi x:=fun h a hm=>by
  unfold zi;have:(zW x.op).2.2.2.1=true:=by rcases h with e|e|e<;>rw[e]<;>assumption
  rw[QI this];simp[hm]
 refine⟨⟨by have:=hU.op;omega,hU.op.2⟩,fun e=>hV.n2 (.inl e),fun e=>(hus _ (ha e)).1,fun e=> ?_,fun e=> ?_,fun e=>⟨(hus _ (hbb e)).1,(hus _ (hbb e)).2.2⟩,fun e=> ?_,fun e a hm=>(hus _ (har e a hm)).1,hU.args⟩
 ·have hx:=hus _ (ha (.inl e));have hu:zi x=[x.a]:=by unfold zi;rw[e,QI u14,z14,z14'];rfl
  rw[hu]at g2;unfold zAs zGc at g2;simp only[e,Zh,Qm,Gf]at g2;simp at g2;(try simp only[<-QK]at g2);obtain⟨g3,g4⟩:=g2;rw[<-hx.2.1]at g3 g4;have hin:BI T ((YC T F f).getD x.a.toNat 0):= .inr hx.2.2;have h5:=zEq hc hin;have h6:=zGg g3;refine⟨_,rfl,hx.2.2,?_⟩;have h7:BK T ((YC T F f).getD x.a.toNat 0)=(T.getD ((YC T F f).getD x.a.toNat 0).toNat default).elem:=by
   unfold BK at h6 |-;split
   ·rfl
   ·rename_i q;rw[QC q]at h6;exact absurd rfl h6
  unfold zEW YS at g4;rw[h7]at g3 g4 h5 h6;refine⟨h5.resolve_left h6,?_,hV.n14 e,?_⟩
  ·unfold Ws at g3;simp only[QF,QV]at g3;exact g3.2
  ·have hk5:Ws T 5 (T.getD ((YC T F f).getD x.a.toNat 0).toNat default).elem=false:=by
    unfold Ws at g3 |-;simp only[QF,QV]at g3;rw[g3.2];simp
   rw[QC h6,g3,hk5]at g4;refine Gk fun hn=> ?_;rw[Qb hn]at g4;simp at g4
 ·have hin:=hV.ty;refine hin.resolve_left fun e1=> ?_;unfold zAs zGc at g2;rcases e with e|e|e
  ·simp[e]at g2;(try simp only[<-QK]at g2);have h1:=g2.1;rw[<-g2.2,e1]at h1;unfold zCx Ws at h1;simp at h1
  ·simp[e]at g2;have hn:=hV.n2 (.inr e);have Zn:=Bo hp (f:=x.n) hn;unfold zDL sigF at g2;simp only[QF,QV]at g2;(try simp only[<-QK]at g2);have h2:=Zn.el;unfold z8 PlT at h2;rw[g2.2]at h2;omega
  ·simp[e]at g2;rw[e1]at g2;unfold zCx Ws at g2;simp at g2
 ·have hn:=hV.n2 (.inr e);have Zn:=Bo hp (f:=x.n) hn;have hu:zi x=x.args:=by unfold zi;rw[e,z18,z18',w18];simp
  rw[hu]at g2;unfold zAs zDL sigF at g2;simp[e]at g2;(try simp only[<-QK]at g2);refine⟨hn,?_,Zn.sig,fun t ht=> ?_⟩
  ·unfold z8;rw[g2.1.2];unfold Zh;simp
  ·have:=Zn.par t ht;unfold PlT at this;omega
set_option maxRecDepth 100000
section
variable {P:Program}{tab:Wi}{t:U7 Value}{h:U2}{ds:List Deferred}{rd:Option Nat}{l:List U4}{Q:WF->U2->Prop}
theorem Uc{α:Type}{c b d2 gl:Nat}{R:U2->List Value->α->Prop}{hB:U2}{v:Value}{xs:List α}{cs:List Value}(a:α)(Dn:Nat->Prop){x y:Operand}(o:WR c R b h v xs)(e0:U8 hB h)(hb:hB.n<=b)(hbn:b<=h.n)(hc0:0<c)(hl:xs.length<=100000)
  (d:Bm R h cs a Dn) (hD:∀ k,Dn k->b<=k/\k<h.n) (hv:∀ g n k,v=.slice (some ⟨g,0,none⟩) n k->¬Dn g) (hc:cs.length=c) (h1:zK cs=true) (hg:h.get gl=some (.row cs true 0)) (hgl:gl<h.n)
  (k:∀ v' h',U8 hB h'->WR c R b h' v' (xs++[a])->h.n<=h'.n->(∀ k,k<h.n->(∀ n k',v≠ .slice (some ⟨k,0,none⟩) n k')->h'.get k=h.get k)->(∀ k∈h'.wr,k∈h.wr\/b<=k)->zAo h v'->WO P tab l ⟨t.set d2 v',ds,rd⟩ h' Q)
  (hx:WI t x v:=by exact zr) (hy:WI t y (.slice (some ⟨gl,0,none⟩) 1 c):=by exact zr):
  WO P tab (⟨some d2,none,.append c x y⟩::l) ⟨t,ds,rd⟩ h Q:=by
 have hx:ev t x=v:=hx;have hy:ev t y=.slice (some ⟨gl,0,none⟩) 1 c:=hy;obtain⟨v',H',q1,q2,q3,q4,q5,q6,q7,q8,n',k',g',q9,q10⟩:=Y2 (H:=h) (gl:=gl) o hc hc0 h1 hl hbn d hD hv (QE _) hgl (fun _ _=>rfl) hg;refine WO.op v' H' rfl (by simp only[WE,hx,hy,q1]) (k v' H' ?_ q2 (by rw[q3];exact GV _) q4 q6 fun j hj=>by subst q9;cases hj;exact q10);have hvb:∀ k,k<hB.n->∀ n k',v≠ .slice (some ⟨k,0,none⟩) n k':=fun k hk n k' e=>by
  rcases o with⟨e2,_⟩|⟨g,_,_,g1,_,e2,_⟩
  ·rw[e2]at e;cases e
  ·rw[e2]at e;cases e;omega
 have hn:=e0.n;exact⟨by rw[q3];omega,fun k hk=>by rw[q4 k (by omega) (hvb k hk)];exact e0.get k hk,fun w=>q8 (e0.wf w),q5.trans e0.mark,fun hm=>by rw[q7 (by rw[e0.mark];omega)];exact e0.wr hm⟩
end
theorem ZA{α:Type}{c b:Nat}{R:U2->List Value->α->Prop}{h:U2}{v:Value}{xs:List α}(o:WR c R b h v xs):∀ g,Bi v=some g->b<=g/\g<h.n:=fun g hg=>by
 rcases o with⟨rfl,_⟩|⟨g,_,_,g1,g2,rfl,_⟩
 ·cases hg
 ·cases hg;exact⟨g1,g2⟩
def zUs:U3:=(oR [oL 3 1,oM 4 0,oY 5 5 3 4,oS 1 1 5])
theorem zKk(hB h:U2)(b gl:Nat)(po vO:Value)(out:List Wh)(x:Wh)(cs:List Value)(Dn:Nat->Prop)(e:U8 hB h)(hb:hB.n<=b)(hbn:b<=h.n)(oo:U6 hB h po [vO])(pb:∀ g,Bi po=some g->g<b)(oO:WR 5 RCn b h vO out)(hl:out.length<=100000)
  (d:Bm RCn h cs x Dn) (hD:∀ k,Dn k->b<=k/\k<h.n) (hv:∀ g n k,vO=.slice (some ⟨g,0,none⟩) n k->¬Dn g) (hc:cs.length=5) (h1:zK cs=true) (hg:h.get gl=some (.row cs true 0)) (hgl:gl<h.n):
  WC Tryz.prog tb 26 [.slice (some ⟨gl,0,none⟩) 1 5,po] h fun r h'=>∃ vO',U8 hB h'/\U6 hB h' po [vO']/\WR 5 RCn b h' vO' (out++[x])/\WQ po vO h h' vO'/\∀ k∈h'.wr,k∈h.wr\/hB.n<=k:=by
 obtain⟨v1,v2,v3,hvO⟩:∃ a n k,vO=.slice a n k:=by
  rcases oO with⟨rfl,_⟩|⟨g,_,_,_,_,rfl,_⟩
  ·exact⟨_,_,_,rfl⟩
  ·exact⟨_,_,_,rfl⟩
 subst hvO;have hpo:=oo.within;refine en 6 [] zUs ?_;refine Uc x Dn oO e hb hbn (by decide) hl d hD hv hc h1 hg hgl ?_;intro v' h2 e2 o2 n2 k2 w2 s2;have oo2:U6 hB h2 po [.slice v1 v2 v3]:=by
  obtain⟨g,g1,g2,rfl,g3⟩:=oo;refine⟨g,g1,QG g2 n2,rfl,(k2 g g2 fun n k' e=> ?_).trans g3⟩;have h1:=pb g rfl;have h2:=(ZA oO g (by rw[e];rfl)).1;omega
 obtain⟨a1,a2,a3,rfl⟩:∃ a n k,v'=.slice a n k:=by
  rcases o2 with⟨rfl,_⟩|⟨g,_,_,_,_,rfl,_⟩
  ·exact⟨_,_,_,rfl⟩
  ·exact⟨_,_,_,rfl⟩
 refine go ?_;refine Xt (cs:=[.slice a1 a2 a3]) oo2 e2 ?_;intro h3 e3 o3 u3 w3;refine go ?_;refine BB ?_;refine⟨_,e3,o3,?_,⟨QO n2 u3.1,fun g hg h1 h2=> ?_,fun k hk=> .inr (s2 k hk)⟩,fun k hk=> ?_⟩
 ·refine WR.upd o2 (fun k k1 k2=>u3.2 k k2 fun e=> ?_) u3.1;have:=pb k (by rw[e];rfl);omega
 ·rw[u3.2 g (QG hg n2) fun e=>h1 (by rw[e];rfl),k2 g hg fun n k' e=>h2 (by rw[e];rfl)]
 ·rcases w3 k hk with h|h
  ·rcases w2 k h with h|h
   ·exact .inl h
   ·exact .inr (by omega)
  ·exact .inr h
theorem yg{h0 h:U2}{p:Value}{cs:List Value}(k:Nat)(o:U6 h0 h p cs):U6 h0 (inC (zC k h)) p cs:=by
 have:=o.ext (za k h);exact this
theorem YW{h:U2}{v:Value}{l:List Int}(k:Nat)(s:WM h v l):WM (inC (zC k h)) v l:=by
 have:=s.ext (za k h);exact this
theorem zJy{h:U2}{v:Value}{l:List U5}(k:Nat)(s:Wv h v l):Wv (inC (zC k h)) v l:=by
 have:=Wv.ext s (za k h);exact this
structure CE(hB:U2)(b:Nat)(vt vf pu po vS vR:Value)(T:List U5)(F:List WP):Prop where
 E:Env hB vt vf T F
 hs:zc T F=0
 hm:hB.mark<=hB.n
 bn:hB.n<=b
 bu:∀ g,Bi pu=some g->g<b
 bo:∀ g,Bi po=some g->g<b
 bS:∀ g,Bi vS=some g->g<b
 bR:∀ g,Bi vR=some g->g<b
 uo:WK pu po
 uS:WK pu vS
 uR:WK pu vR
 oS:WK po vS
 oR:WK po vR
def Ze(po:Value):Value:= .func (.func 26) #[] #[po]
structure CM(hB h:U2)(b:Nat)(vt vf pu po vS vR:Value)(T:List U5)(F:List WP)(vK vO:Value)(ks:List Int)(f r:Int)(out:List Wh):Prop where
 e:U8 hB h
 hb:b<=h.n
 ou:U6 hB h pu [vt,vf,vS,vR,I (zl T F),vK,I f,I r,Ze po]
 oo:U6 hB h po [vO]
 oS:WR 3 RSt hB.n h vS (zn T F)
 oR:WJ hB h vR ((List.range F.length).map fun i=>((zX T F).take i).sum)
 oK:WJ hB h vK ks
 oO:WR 5 RCn b h vO out
 kb:∀ g,Bi vK=some g->b<=g
 ko:WK vO vK
section
variable {hB h h':U2}{b:Nat}{vt vf pu po vS vR vK vO vO':Value}{T:List U5}{F:List WP}{ks:List Int}{f r:Int}{out:List Wh}{x:Wh}
theorem CM.ext(M:CM hB h b vt vf pu po vS vR T F vK vO ks f r out)(e:U8 h h'):CM hB h' b vt vf pu po vS vR T F vK vO ks f r out:=
 ⟨M.e.trans e,QO M.hb e.n,M.ou.ext e,M.oo.ext e,WR.ext M.oS e,M.oR.ext e,M.oK.ext e,WR.ext M.oO e,M.kb,M.ko⟩
theorem Yx{h0:U2}{v w w' p:Value}{l:List Int}(o:WJ h0 h v l)(k:WQ p w h h' w')(d1:WK p v)(d2:WK w v):WJ h0 h' v l:=by
 rcases o with o|⟨g,g1,g2,rfl,g3⟩
 ·exact .inl o
 ·exact .inr ⟨g,g1,QG g2 k.1,rfl,(k.2.1 g g2 (fun e=>d1 g e rfl) fun e=>d2 g e rfl).trans g3⟩
theorem zMK{n:Nat}{v w w' p:Value}{l:List Wq}(o:WR 3 RSt n h v l)(k:WQ p w h h' w')(d1:WK p v)(d2:WK w v):WR 3 RSt n h' v l:=by
 rcases o with o|⟨g,cells,D,g1,g2,rfl,g4,g5,g6,g7,g8⟩
 ·exact .inl o
 ·exact .inr ⟨g,cells,fun _=>False,g1,QG g2 k.1,rfl,(k.2.1 g g2 (fun e=>d1 g e rfl) fun e=>d2 g e rfl).trans g4,g5,fun h=>h,fun k h=>h.elim,fun i a ha=>fun _ _ _=>(g8 i a ha).self⟩
theorem CM.add(M:CM hB h b vt vf pu po vS vR T F vK vO ks f r out)(C:CE hB b vt vf pu po vS vR T F)(k:WQ po vO h h' vO')(e:U8 hB h')(oo:U6 hB h' po [vO'])(oO:WR 5 RCn b h' vO' (out++[x])):
  CM hB h' b vt vf pu po vS vR T F vK vO' ks f r (out++[x]):=by
 have hO:=ZA M.oO;have low:∀ {v},(∀ g,Bi v=some g->g<b)->WK vO v:=fun hv g h1 h2=>by
  have:=hv g h2;have:=(hO g h1).1;omega
 have poK:WK po vK:=fun g h1 h2=>by
  have:=C.bo g h1;have:=M.kb g h2;omega
 refine⟨e,QO M.hb k.1,(VP M.ou k C.uo.symm (low C.bu)).1,oo,zMK M.oS k C.oS (low C.bS),Yx M.oR k C.oR (low C.bR),Yx M.oK k poK M.ko,oO,M.kb,fun g h1 h2=> ?_⟩;rcases k.2.2 g h1 with h|h
 ·exact M.ko g h h2
 ·have:=WJ.within M.oK g h2;omega
end
section
variable {m N0:Nat}{cl:Bool}{K:WB->WF->U2->Prop}{t:U7 Value}{ds:List Deferred}{rd:Option Nat}
theorem WU.add{hB hS X:U2}{b d1 d2 a2 a3:Nat}{a1:Option Addr}{vt vf pu po vS vR vK vO:Value}{T:List U5}{F:List WP}{ks:List Int}{f r:Int}{out:List Wh}{y z:Operand}{zero:List Value}(x:Wh)(Dn:Nat->Prop)(C:CE hB b vt vf pu po vS vR T F)(M:CM hB hS b vt vf pu po vS vR T F vK vO ks f r out)(eX:U8 (Am.inC (zC 1 hS)) X)(hl:out.length<=100000)
  (d:Bm RCn X [.int .u8 x.kind,I x.to,I x.frm,I x.n,.slice a1 a2 a3] x Dn) (hD:∀ k,Dn k->hS.n<k/\k<X.n)
  (k:∀ H vO' t',zCV [d1,d2] t t'->CM hB H b vt vf pu po vS vR T F vK vO' ks f r (out++[x])->WQ po vO hS H vO'->K .normal ⟨t',ds,rd⟩ H)
  (hx:WI t y (.agg #[.int .u8 x.kind,I x.to,I x.frm,I x.n,.slice a1 a2 a3]):=by exact zr) (hz:zero.length=5:=by rfl) (hf:∀ u,WI (t.set d1 u) z (Ze po):=by intro u;exact zr) (hm0:m=hS.mark:=by rfl):
  WU Tryz.prog tb m N0 [(⟨some d1,none,.buildSlice 1 5 zero [(0,5,y)]⟩,[]),(⟨some d2,none,.call z [.tmp d1]⟩,[])] hS.n cl ⟨t,ds,rd⟩ (Am.inC X) (Bq K hS):=by
 subst hm0;have hx:ev t y=.agg #[.int .u8 x.kind,I x.to,I x.frm,I x.n,.slice a1 a2 a3]:=hx;have hw:(Value.agg #[.int .u8 x.kind,I x.to,I x.frm,I x.n,.slice a1 a2 a3]).cells=[Value.int .u8 x.kind,I x.to,I x.frm,I x.n,.slice a1 a2 a3].toArray:=by rfl
 have hfill:=Y6 (c:=5) (zero:=zero) hw rfl hz;have hnX:hS.n+1<=X.n:=eX.n;have e0:=M.e;have hBn:=e0.n;have hbS:=M.hb;have hbB:=C.bn;have hmk:hS.mark<=hB.n:=by rw[e0.mark];exact C.hm
 rw[WU,QI (show Nat.beq (zE (Wn.buildSlice 1 5 zero [(0,5,y)])) 3=true from rfl)];refine⟨rfl,.inl ⟨rfl,by omega,.row [.int .u8 x.kind,I x.to,I x.frm,I x.n,.slice a1 a2 a3] true 0,_,by simp only[ye,zo,Qm,Gf,hx];rw[hfill];rfl,?_⟩⟩;generalize hH1:(Am.inC (Am.inC X)).lay hS.n (.row [.int .u8 x.kind,I x.to,I x.frm,I x.n,.slice a1 a2 a3] true 0)=H1;have n1:H1.n=X.n:=by rw[<-hH1];rfl
 have get1:∀ c',H1.get c'=if c'=hS.n then some (.row [.int .u8 x.kind,I x.to,I x.frm,I x.n,.slice a1 a2 a3] true 0)else X.get c':=fun c'=>by rw[<-hH1];exact zQ _ _ _ _
 have getX:∀ k,k<hS.n->X.get k=hS.get k:=fun k hk=>eX.get k (by show k<hS.n+1;omega);have getS:∀ k,k<hS.n->H1.get k=hS.get k:=fun k hk=>by rw[get1,QC (by omega),getX k hk]
 have oX1:WR 5 RCn b (Am.inC H1) vO out:=M.oO.upd (fun k _ hk=>getS k hk) (by show hS.n<=H1.n;omega);have d1':Bm RCn (Am.inC H1) [.int .u8 x.kind,I x.to,I x.frm,I x.n,.slice a1 a2 a3] x Dn:=d.mono (fun _ h=>h) (fun k o hd e=>by
  show H1.get k=_;have:=hD k hd;rw[get1,QC (by omega)];exact e) (by show X.n<=H1.n;omega)
 have E1:U8 {hB with mark:=H1.n,wr:=[]} (Am.inC H1):=⟨by show hB.n<=H1.n;omega,fun g hg=>(getS g (QG hg hBn)).trans (e0.get g hg),fun w g hg=>by
  have hg:H1.n<=g:=hg;show H1.get g=none;rw[get1,QC (by omega)];exact eX.wf (fun q hq=>e0.wf w q (by have hq:hS.n+1<=q:=hq;omega)) g (by omega),rfl,fun _=>rfl⟩
 have oo1:U6 {hB with mark:=H1.n,wr:=[]} (Am.inC H1) po [vO]:=by
  obtain⟨g,g1,g2,g3,g4⟩:=M.oo;exact⟨g,g1,by show g<H1.n;omega,g3,(getS g g2).trans g4⟩
 rw[WU,QC (show ¬Nat.beq (zE (Wn.call z [.tmp d1])) 3=true from Bool.noConfusion)];refine VN (WV.func (args:=[.slice (some ⟨hS.n,0,none⟩) 1 5]) (first:=#[]) (cap:=#[po]) (zKk _ _ b hS.n po vO out x _ Dn E1 hbB (by show b<=H1.n;omega) oo1 C.bo oX1 hl d1' (fun k hd=>⟨by have:=hD k hd;omega,by have:=hD k hd;show k<H1.n;omega⟩) (fun g n k e hd=>by
  have h1:=(ZA M.oO g (by rw[e];rfl)).2;have h2:=hD g hd;omega) rfl rfl (by show H1.get hS.n=_;rw[get1,QI rfl]) (by show hS.n<H1.n;omega))) ?_ (hf _) (BJ.cons (WI.tmp Wj.here) BJ.nil)
 rintro _ h3 ⟨vO',e3,o3,oO3,k3,w3⟩;have hn3:H1.n<=h3.n:=k3.1;refine WO.nil ⟨⟨fun c' hc'=> ?_,hn3,.inl rfl⟩,?_⟩
 ·rcases w3 c' hc' with h|h
  ·cases h
  ·have h:hB.n<=c':=h;omega
 have kk:WQ po vO hS (Am.yu hS h3) vO':=⟨by show hS.n<=h3.n;omega,fun g hg h1 h2=>(k3.2.1 g (by show g<H1.n;omega) h1 h2).trans (getS g hg),fun q hq=>by
  rcases k3.2.2 q hq with h|h
  ·exact .inl h
  ·exact .inr (by have h:H1.n<=q:=h;omega)⟩
 exact k _ vO' _ (fun j hj=>by
  simp only[zF1,QF,GZ]at hj;rw[zh,zh,QC (fun e=>by subst e;simp at hj),QC (fun e=>by subst e;simp at hj)]) (M.add C kk ⟨e3.n,e3.get,fun w=>e3.wf w,e0.mark,fun hm=>e0.wr hm⟩ o3 (oO3.upd (fun _ _ _=>rfl) (QE _))) kk
end
end
end Go.Proofs.YtmejfcakhpihlaaGreatDoor
