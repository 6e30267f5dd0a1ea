/- Walks of functions, plain laws; proves no statement. -/
import Derived.Test.YtndffgfnndoifaaGreatDoorJh
set_option linter.all false
set_option maxHeartbeats 2000000
set_option maxRecDepth 100000
namespace Go.Proofs.YtndffgfnndoifaaGreatDoor
open Go.Am
def zJr{T:List WF}{f r:Int}:∀ {S:List W9} {a:Int} {l:List Int},l.length<=40->(∀ s∈S,(yF T s.ty.toNat).length<=40)->(Ym T f r S a l).2.length<=40
 |[],_,_,h,_=>h
 |s::S,a,l,h,hS=>by
  unfold Ym;split
  ·exact hS s (QR ..)
  ·exact zJr (hS s (QR ..)) fun q hq=>hS q (QW _ hq)
def zE7{α:Type}(g:Nat->List α)(m:Nat):∀ n,(∀ i,i<n->(g i).length<=m)->((List.range n).flatMap g).length<=m*n
 |0,_=>by simp
 |n+1,h=>by
  rw[JC,List.flatMap_append,QH];have:=zE7 g m n fun i hi=>h i ω;have:=h n ω;rw[List.flatMap_cons,List.flatMap_nil,GW,Nat.mul_succ];omega
def zMF{T:List WF}{F:List We}(hs:zb T F=0){f:Nat}(hf:f<F.length){b:Nat}(hb:b<(zR F f).length){i:Nat}(hi:i<((zR F f).getD b default).ins.length)(r:Int):
  (YH T F f (Zy T F f) r (((zR F f).getD b default).ins.getD i default)).length<=41:=by
 have I0:=zOq hs hf hb hi;have au:=zBu (yg (z8 hs).1).1;refine zSg _ _ _ _ _ _ I0.al (zJr (by simp) fun s jY=> ?_) fun e=> ?_
 ·have cD:=zAS hs s jY;have h1:=fun j (hj:j<=s.ty.toNat)=>(au j ω).1;exact QM (QM (zB2 (s.ty.toNat+1) s.ty.toNat (Q9 _) h1) (au s.ty.toNat ω).2) (by decide)
 ·have:=(I0.qM e).2.1;have:=I0.al;omega
def zPY(T:List WF)(F:List We)(f:Int)(B:Wk):(zJH T F f B).length<=1:=by
 unfold zJH;split
 ·exact zAp _ _
 ·simp
def zFl{T:List WF}{F:List We}(hs:zb T F=0)(f:Nat)(hf:f<F.length):∀ b,b<=(zR F f).length->((consB T F f (zR F f) b).length:Int)<=41*zL ((zR F f).take b)+b
 |0,_=>by simp[consB,zL]
 |b+1,hb=>by
  have ih:=zFl hs f hf b ω;have h1:consB T F f (zR F f) (b+1)=consB T F f (zR F f) b++(zHp T F f ((yb T F f).parts.length+zL ((zR F f).take b)) ((zR F f).getD b default).ins++zJH T F f ((zR F f).getD b default)):=yt _ b;have h2:(zHp T F f ((yb T F f).parts.length+zL ((zR F f).take b)) ((zR F f).getD b default).ins).length<=41*((zR F f).getD b default).ins.length:=zE7 _ 41 _ fun i hi=>zMF hs hf ω hi _;have h3:=zPY T F f ((zR F f).getD b default);rw[h1,yy ω];have h4:zL ((zR F f).take b++[(zR F f).getD b default])=zL ((zR F f).take b)+(((zR F f).getD b default).ins.length:Int):=by unfold zL;simp
  rw[h4,QH,QH];omega
def zKH{T:List WF}{F:List We}(hs:zb T F=0):∀ i:Nat,i<=F.length->(zBE T F i).length<=6000*i
 |0,_=>by simp[zBE]
 |i+1,hi=>by
  have ih:=zKH hs i ω;have h1:zBE T F (i+1)=zBE T F i++consB T F i (zR F i) (zR F i).length:=yt _ i;have Z:=zC5 (z8 hs).1 (f:=(i:Int)) ω;have h2:=zFl hs i ω (zR F i).length (QF _);rw[Qs]at h2;have h3:=Z.many;have h4:=Z.sW;rw[h1,QH];omega
section
variable {h hB:WA}{b:Nat}{vt vf pu po vS vR:Value}{T:List WF}{F:List We}
structure FR(hB h4 h:WA)(vt vf pu po vS vR:Value)(F:List We)(T:List WF)(i:Nat):Prop where
 e:WH hB h
 u:Wo pu h4 h
 ou:WB hB h pu [vt,vf,vS,vR,I ((zt T F).take i).sum,.slice none 0 0,I 0,I 0,Zr po]
 oR:WR 1 RI h4.n h vR (((List.range i).map fun i=>((zt T F).take i).sum))
def zPP(E:SE h vt vf T F):G0 21 [.agg #[vt,vf]] h fun r h'=>(∃ v,r=.tuple #[v,I (zb T F)]/\WR 5 RCn h.n h' v (Y9 T F)/\(Y9 T F).length<=90000)/\WH h h':=by
 refine en ?_;refine VH ?_;intro p1 h1 e1 o1;replace o1:WB h h1 p1 [vt,vf]:=o1;have E1:=E.ext e1;refine go ?_;refine WO.al ?_;intro po h2 e2 tw;have E2:=E1.ext e2;have cT:=o1.ext e2;refine go ?_;refine VA (zJm h2 vt vf T F E2) ?_;rintro _ h3 ⟨⟨vS,rfl,oS⟩,e3⟩;have DK:=cT.ext e3;have AL:=tw.ext e3;have E3:=E2.ext e3;obtain⟨s1,s2,s3,rfl⟩:=zD oS.sl;by_cases hs:zb T F=0;case neg=>
  have aO:Y9 T F=[]:=by unfold Y9;rw[QC hs]
  rw[aO];refine go ?_;refine VG AL (e2.trans e3) ?_;intro h4 e4 wS u4;refine go ?_;refine rt ?_ (VP WJ wS rfl (BI.cons WJ BI.nil));exact⟨⟨_,rfl,.inl ⟨rfl,rfl⟩,by simp⟩,e1.trans e4⟩
 rw[QJ hs]at oS;rw[hs];have hp:=(z8 hs).1;obtain⟨hc,l5,lQ,hfn⟩:=yg hp;obtain⟨ee,me,-,-⟩:=zAI hs;replace hfn:=Wi.mk hfn;obtain⟨t1,t2,t3,rfl⟩:=zD E.st;obtain⟨f1,f2,f3,rfl⟩:=zD E.sf;refine go ?_;refine VH ?_;intro pu h4 e4 pe;obtain⟨gu,PW,PX,rfl,PY⟩:=id pe;obtain⟨go',PZ,go2,rfl,P1⟩:=id tw;replace pe:WB h3 h4 (.pointer (some ⟨gu,0,none⟩)) [.slice t1 t2 t3,.slice f1 f2 f3,.slice s1 s2 s3,.slice none 0 0,I 0,.slice none 0 0,I 0,I 0,Zr (.pointer (some ⟨go',0,none⟩))]:=pe;have df:=e2.trans e3;have cB:=df.trans e4;have qS:=DK.ext e4;have wS:WB h1 h4 (.pointer (some ⟨go',0,none⟩)) [.slice none 0 0]:=AL.ext e4;have Fj:=(WR.ext oS e4).base e2.n;have E4:=E3.ext e4;have vI:=E4.sf;have rD:=pe.since df;have uo:WY (.pointer (some ⟨gu,0,none⟩)) (.pointer (some ⟨go',0,none⟩)):=VF pe.since' AL.within;have uS:WY (.pointer (some ⟨gu,0,none⟩)) (.slice s1 s2 s3):=VF pe.since' oS.within;have J0:WY (.pointer (some ⟨go',0,none⟩)) (.slice s1 s2 s3):=(VF (zOD oS) tw.within).symm;have Fk:∀ g,BJ (.pointer (some ⟨go',0,none⟩))=some g->g<h4.n:=wS.within;have rE:∀ g,BJ (.pointer (some ⟨gu,0,none⟩))=some g->g<h4.n:=pe.within;have E6:∀ g,BJ (.slice s1 s2 s3)=some g->g<h4.n:=Fj.within;have J1:FR h1 h4 h4 (.slice t1 t2 t3) (.slice f1 f2 f3) (.pointer (some ⟨gu,0,none⟩)) (.pointer (some ⟨go',0,none⟩)) (.slice s1 s2 s3) (.slice none 0 0) F T 0:=⟨cB,zD9 (WH.refl _),by simpa using rD,.inl ⟨rfl,rfl⟩⟩;have bp:h1.mark<=h1.n:=E1.hm;clear PW PX PY PZ go2 P1;refine go ?_;refine VD (fun i=>F.length-i) (fun i t h5=>zC t 31=I i/\i<=F.length/\∃ vR,(∃ a n c,vR=.slice a n c)/\FR h1 h4 h5 (.slice t1 t2 t3) (.slice f1 f2 f3) (.pointer (some ⟨gu,0,none⟩)) (.pointer (some ⟨go',0,none⟩)) (.slice s1 s2 s3) vR F T i) 0 ?_ ?_
 ·exact⟨WJ,QQ _,_,⟨_,_,_,rfl⟩,J1⟩
 rintro i t h5 ab ⟨s31,hi,vR,⟨r1,r2,r3,rfl⟩,R5⟩;have jt:=o1.ext R5.e;have P2:=R5.ou;refine F0 ?_ ?_<;>intro hb
 ·have af:i<F.length:=ω
  have E5:=E1.ext R5.e;have hR:=zIu h5 _ _ T F i E5.tt E5.hm E5.sm E5.st E5.sf;rw[zMX hp af]at hR;have aL:=zDi (l:=zt T F) (i:=i) ω;have Fm:(zt T F).getD i 0=((T.getD (F.getD i default).sig.toNat default).parts.length:Int)+zL (F.getD i default).blocks:=by
   unfold zt;rw[zAO af]
  have xI:=ee _ (zd (l:=zt T F) (i:=i) ω);have oh:=zAC (l:=(zt T F).take i) fun x hx=>ee x (GO hx);have xV:((zt T F).take i).length<=8:=by rw[Qp];omega
  have iP:((List.range (i+1)).map fun i=>((zt T F).take i).sum)=((List.range i).map fun i=>((zt T F).take i).sum)++[((zt T F).take i).sum]:=by rw[JC,Q5];rfl
  have Fo:((List.range i).map fun i=>((zt T F).take i).sum).length<=8:=by simp;omega
  have R5R:=R5.oR;rw[<-Fm]at hR;generalize(zt T F).getD i 0=m at *;refine go ?_;refine VA hR ?_;rintro _ h6 ⟨rfl,e6⟩;have Fp:=R5.ou.ext e6;have J2:=WR.ext R5.oR e6;have u6:=zCq R5.u (zD9 e6);have dD:=R5.e.trans e6;refine go ?_;refine Vh (fun k=>h4.n<=k) 1 rfl rfl ?_;have oY:WB h1 (inC (zB 1 h6)) (.pointer (some ⟨gu,0,none⟩)) [.slice t1 t2 t3,.slice f1 f2 f3,.slice s1 s2 s3,.slice r1 r2 r3,I ((zt T F).take i).sum,.slice none 0 0,I 0,I 0,Zr (.pointer (some ⟨go',0,none⟩))]:=zu 1 (Fp);have lU:h6.mark<=h1.n:=by rw[dD.mark];exact bp
  refine goW ?_;refine UR (hS:=h6) ((zt T F).take i).sum (fun _=>False) J2 (QM lU cB.n) u6.1 (by decide) ω zTk (fun _ h=>h.elim) (fun _ _ _ _ h=>h) (fun _ h=>h) ?_;intro X v' lit nX kX J3 sX wX;obtain⟨w1,w2,w3,rfl⟩:∃ a n c,v'=.slice a n c:=by
   rcases J3 with⟨rfl,_⟩|⟨_,_,_,_,_,rfl,_⟩
   ·exact⟨_,_,_,rfl⟩
   ·exact⟨_,_,_,rfl⟩
  have tE:∀ k,k<h4.n->∀ n k',(Value.slice r1 r2 r3)≠ .slice (some ⟨k,0,none⟩) n k':=fun k hk n k' e=>by
   have:=(zZ J2 k (by rw[e];rfl)).1;omega
  have oX:WB h1 (inC X) (.pointer (some ⟨gu,0,none⟩)) [.slice t1 t2 t3,.slice f1 f2 f3,.slice s1 s2 s3,.slice r1 r2 r3,I ((zt T F).take i).sum,.slice none 0 0,I 0,I 0,Zr (.pointer (some ⟨go',0,none⟩))]:=by
   obtain⟨q,q1,q2,q3,q4⟩:=Fp;refine⟨q,q1,by show q<X.n;omega,q3,(kX q q2 (tE q ?_)).trans q4⟩;exact rE q (by rw[q3];rfl)
  refine goW ?_;refine zQu (fun hh=> ?_) ?_ ?_
  ·have:=rE gu rfl;have hh:h4.n<=gu:=hh;omega
  ·have:=rE gu rfl;have:=u6.1;show gu<h6.n+1;omega
  refine V6 ?_;have P3:WB h1 X (.pointer (some ⟨gu,0,none⟩)) [.slice t1 t2 t3,.slice f1 f2 f3,.slice s1 s2 s3,.slice r1 r2 r3,I ((zt T F).take i).sum,.slice none 0 0,I 0,I 0,Zr (.pointer (some ⟨go',0,none⟩))]:=oX;refine WU ?_;refine Vy (hB:=h1) (j:=3) (cs:=[.slice w1 w2 w3]) (hl:=by simp) P3 lU ?_;intro X1 n1 lT iE wT Ff;replace iE:WB h1 X1 (.pointer (some ⟨gu,0,none⟩)) [.slice t1 t2 t3,.slice f1 f2 f3,.slice s1 s2 s3,.slice w1 w2 w3,I ((zt T F).take i).sum,.slice none 0 0,I 0,I 0,Zr (.pointer (some ⟨go',0,none⟩))]:=iE;have Fg:WB h1 (inC X1) (.pointer (some ⟨gu,0,none⟩)) [.slice t1 t2 t3,.slice f1 f2 f3,.slice s1 s2 s3,.slice w1 w2 w3,I ((zt T F).take i).sum,.slice none 0 0,I 0,I 0,Zr (.pointer (some ⟨go',0,none⟩))]:=iE;refine WU ?_;refine Vn (hB:=h1) (j:=4) (cs:=[I (((zt T F).take i).sum+m)]) (hl:=by simp) iE lU ?_;intro H n2 i5 ju ml m2 ji;refine go ?_;have P4:∀ k,k<h6.n->Value.pointer (some ⟨gu,0,none⟩)≠ .pointer (some ⟨k,0,none⟩)->(∀ n k',(Value.slice r1 r2 r3)≠ .slice (some ⟨k,0,none⟩) n k')->H.get k=h6.get k:=fun k hk ah hv=>by
   rw[i5 k ah,lT k ah];exact kX k hk hv
  have uH:Wo (.pointer (some ⟨gu,0,none⟩)) h4 H:=⟨by have:=u6.1;omega,fun k hk ah=>(P4 k (QG hk u6.1) ah (tE k hk)).trans (u6.2 k hk ah)⟩;have P5:h1.n<=gu:=by
   obtain⟨q,q1,_,q3,_⟩:=rD;cases q3;exact q1
  have eH:WH h1 H:=⟨QM cB.n uH.1,fun k hk=>(uH.2 k (QG hk cB.n) fun e=>by cases e;omega).trans (cB.get k hk),fun w=>ml (wT (wX (dD.wf w))),m2.trans dD.mark,fun hm=>ji.trans (dD.wr hm)⟩;refine zA (i+1) ω ⟨Wy,ω,_,⟨w1,w2,w3,rfl⟩,eH,uH,?_,?_⟩
  ·rw[aL];exact ju
  ·rw[iP];refine WR.upd J3 (fun k k1 k2=> ?_) ω;have ah:Value.pointer (some ⟨gu,0,none⟩)≠ .pointer (some ⟨k,0,none⟩):=fun e=>by
    have:=rE k (by rw[e];rfl);omega
   rw[i5 k ah,lT k ah]
 ·have bj:i=F.length:=ω
  subst bj;have AJ:((zt T F).take F.length).sum=zV T F:=by rw[Q3 ω];rfl
  have P6:WP h1 h5 (.slice r1 r2 r3) (Zz T F):=zBx R5.oR cB.n;have rF:=R5.ou;rw[AJ]at rF;have tE:∀ g,BJ (.slice r1 r2 r3)=some g->h4.n<=g/\g<h5.n:=zZ R5.oR;have C:CE h1 h5.n (.slice t1 t2 t3) (.slice f1 f2 f3) (.pointer (some ⟨gu,0,none⟩)) (.pointer (some ⟨go',0,none⟩)) (.slice s1 s2 s3) (.slice r1 r2 r3) T F:=⟨E1,hs,bp,R5.e.n,fun g hg=>QG (rE g hg) R5.u.1,fun g hg=>QG (Fk g hg) R5.u.1,fun g hg=>QG (E6 g hg) R5.u.1,fun g hg=>(tE g hg).2,uo,uS,
   fun g h1 h2=>by have:=rE g h1;have:=(tE g h2).1;omega,J0,fun g h1 h2=>by have:=Fk g h1;have:=(tE g h2).1;omega⟩
  have M5:CM h1 h5 h5.n (.slice t1 t2 t3) (.slice f1 f2 f3) (.pointer (some ⟨gu,0,none⟩)) (.pointer (some ⟨go',0,none⟩)) (.slice s1 s2 s3) (.slice r1 r2 r3) T F (.slice none 0 0) (.slice none 0 0) [] 0 0 []:=⟨R5.e,QF _,rF,zAT wS R5.u uo,Fj.upB zF2 R5.u.upB uS,P6,.inl ⟨rfl,rfl⟩,.inl ⟨rfl,rfl⟩,fun g hg=>(by cases hg),fun g hg=>(by cases hg)⟩;have P7:=o1.ext R5.e;have uF:=BA.ext E1.sf R5.e;have AM:=zKH hs;have Fq:=zFl hs;clear J1 Fk rE E6 J0 uo uS Fj wS pe rD AL oS tw P2 rF jt;have aO:Y9 T F=zBE T F F.length:=by unfold Y9;rw[QJ hs]
  rw[aO];replace AM:=Wi.mk AM;replace Fq:=Wi.mk Fq;refine go ?_;refine VD (fun i=>F.length-i) (fun i t h6=>zC t 66=I i/\i<=F.length/\∃ vK vO ks f r,CM h1 h6 h5.n (.slice t1 t2 t3) (.slice f1 f2 f3) (.pointer (some ⟨gu,0,none⟩)) (.pointer (some ⟨go',0,none⟩)) (.slice s1 s2 s3) (.slice r1 r2 r3) T F vK vO ks f r (zBE T F i)) 0 ?_ ?_
  ·exact⟨WJ,QQ _,_,_,_,_,_,M5⟩
  rintro i t h6 br ⟨s66,hi,vK,vO,ks,f,r,M6⟩;have rG:=o1.ext M6.e;have Fp:=M6.ou;have HQ:=BA.ext E1.sf M6.e;refine F0 ?_ ?_<;>intro hb
  ·have af:i<F.length:=ω
   have Z:=zC5 hp (f:=(i:Int)) ω;have P8:=AM.out i ω;have rI:=Fq.out i af;have b9:zBE T F (i+1)=zBE T F i++consB T F i (zR F i) (zR F i).length:=yt _ i;have gx:=Z.sig;have dL:=Z.par4;have wR:=Z.many;have kf:=Z.sW;have lj:=Z.el;have As:(Zy T F i).length<=1000:=by rw[zDJ];have:=Z.reg;unfold zJ9 at this;omega
   have Fs:=fun {b:Nat} (hb:b<(zR F i).length) {q:Nat} (hq:q<((zR F i).getD b default).ins.length)=>zOq hs af hb hq;have mh:=fun b=>zHL (zR F i) b;have aT:=fun {b:Nat} (hb:b<(zR F i).length) {q:Nat} (hq:q<((zR F i).getD b default).ins.length) (r:Int)=>zMF hs af hb hq r;have rJ:∀ b,consB T F i (zR F i) (b+1)=consB T F i (zR F i) b++(zHp T F i ((yb T F i).parts.length+zL ((zR F i).take b)) ((zR F i).getD b default).ins++zJH T F i ((zR F i).getD b default)):=fun b=>yt _ b;have Ft:∀ B,zJH T F i B=if B.fin.kind=3 then(if Be T (yb T F i).elem then[]else[⟨2,zV T F+i,Wn T F i B.fin.a,0,[]⟩])else[]:=fun B=>rfl;have cr:∀ b,b<(zR F i).length->((zR F i).getD b default).fin.kind=3->0<=((zR F i).getD b default).fin.a/\((zR F i).getD b default).fin.a<=1000:=fun b hb hk=>by
    have h1:=(Z.U _ (zH hb)).ends ((zR F i).getD b default).fin.a (by unfold yr;rw[QJ (.inr hk)];simp);have h2:=Z.reg;unfold zJ9 at h2;omega
   rw[QZ]at gx;have hL:zR F i=(F.getD i default).blocks:=by unfold zR;rw[QZ]
   have hP:yb T F i=T.getD (F.getD i default).sig.toNat default:=by unfold yb;rw[QZ]
   obtain⟨lx,⟨vb,rfl,sb,fC⟩,fS,jW⟩:=zq (i:=i) E1.sf af;obtain⟨nO,⟨va,rfl,sa,dP⟩,fB,qj⟩:=zq (i:=(F.getD i default).sig.toNat) E1.st ω;rw[<-hL]at sb fC;rw[<-hP]at sa dP fB;have pW:=E1.sm.blocks _ (zH af);have gb:=E1.sm.ins _ (zH af);rw[<-hL]at pW gb;generalize hLL:zR F i=L at *;generalize P9:yb T F i=P0 at *;generalize(F.getD i default).sig=sg at *;obtain⟨b1,b2,b3,rfl⟩:=zD sb;obtain⟨a1,a2,a3,rfl⟩:=Wm.shape sa;obtain⟨k1,k2,k3,rfl⟩:=Wm.shape M6.oK.sl;clear Z hL hP;replace Fs:=Wi.mk @Fs;replace aT:=Wi.mk @aT;replace rJ:=Wi.mk rJ;replace Ft:=Wi.mk Ft;replace cr:=Wi.mk cr;replace rI:=Wi.mk rI;replace mh:=Wi.mk mh;replace gb:=Wi.mk gb;have Ra:=(fS _ M6.e).1;refine go ?_;refine WO.al ?_;intro pf h7 e7 iw;refine go ?_;refine VG (cs:=[I sg,.slice b1 b2 b3]) iw e7 ?_;intro h8 e8 iw _;have M8:=M6.ext e8;have d1:WY (.pointer (some ⟨gu,0,none⟩)) pf:=(VF iw.since' M6.ou.within).symm;have d2:WY (.pointer (some ⟨go',0,none⟩)) pf:=(VF iw.since' M6.oo.within).symm;have d3:WY vO pf:=(VF iw.since' fun g hg=>(zZ M6.oO g hg).2).symm;refine go ?_;refine VA (zSt C M8 i af) ?_;rintro _ h9 ⟨iD,M9,u9⟩;have iw:=zAT iw u9 d1;have N1:=o1.ext M9.e;have Rb:=M9.ou;obtain⟨AN,AO,gY,rfl⟩:=Wm.shape M9.oK.sl;have Fv:=(fB _ M9.e).1;have Rc:=BB.ext E1.st M9.e;have Re:=sa.ext M9.e;have IV:=Bb.ext sb M9.e;refine go ?_;refine VX (j:=7) (cs:=[I P0.parts.length]) (hl:=by simp) Rb M9.e ?_;intro jo gj wU Aa;have J4:=M9.setR C Aa gj wU;have iw:=zAT iw Aa d1;have Rf:=Bb.ext sb J4.e;clear wU Aa Fv Re IV Rc;refine go ?_;refine VD (fun b=>L.length-b) (fun b t gi=>zC t 88=I b/\b<=L.length/\∃ bk,CM h1 gi h5.n (.slice t1 t2 t3) (.slice f1 f2 f3) (.pointer (some ⟨gu,0,none⟩)) (.pointer (some ⟨go',0,none⟩)) (.slice s1 s2 s3) (.slice r1 r2 r3) T F (.slice AN AO gY) bk (Zy T F i) i (P0.parts.length+zL (L.take b)) (zBE T F i++consB T F i L b)/\WB h6 gi pf [I sg,.slice b1 b2 b3]/\WY bk pf) 0 ?_ ?_
   ·refine⟨WJ,QQ _,vO,?_,iw,d3⟩;have h0:zL (L.take 0)=0:=by simp[zL]
    have h1:consB T F i L 0=[]:=by simp[consB]
    rw[h0,h1,GW,Int.add_zero];exact J4
   rintro b t gi dw ⟨s88,aR,bk,rK,Fx,Rh⟩;have Ri:=Bb.ext sb rK.e;refine go ?_;refine VE (fun eK=> ?_) (fun eK=> ?_)<;>simp only[DB]at eK
   ·have aI:b<L.length:=ω
    obtain⟨xQ,⟨vi,rfl,si,qo⟩,su,uJ⟩:=zq (i:=b) sb aI;have J5:=(su _ rK.e).1;have Rj:=mh.out b;have Rk:=mh.out (b+1);have bp:zL (L.take (b+1))=zL (L.take b)+((L.getD b default).ins.length:Int):=by rw[yy aI];unfold zL;simp
    have cf:=rJ.out b;have Ii:=rI.out b ω;have rM:=fun {q:Nat} (hq:q<(L.getD b default).ins.length)=>Fs.out aI hq;have kJ:=fun {q:Nat} (hq:q<(L.getD b default).ins.length) (r:Int)=>aT.out aI hq r;have wV:=cr.out b aI;have Rm:=gb.out _ (zH aI);rw[Ft.out]at cf;unfold zHp at cf;generalize L.getD b default=B at *;obtain⟨i1,i2,i3,rfl⟩:=zD si;have wB:∀ q,q<=B.ins.length->((List.range q).flatMap fun(j:Nat)=>YH T F i (Zy T F i) (P0.parts.length+zL (L.take b)+j) (B.ins.getD j default)).length<=41*q:=fun q hq=>zE7 _ 41 q fun j hj=>kJ ω _;replace rM:=Wi.mk @rM;replace kJ:=Wi.mk @kJ;replace wB:=Wi.mk wB;refine go ?_;refine WO.al ?_;intro lD sO df cT;refine go ?_;refine VG (cs:=[.slice i1 i2 i3,.int .u8 B.fin.kind,I B.fin.a,I B.fin.to,I B.fin.aK]) cT df ?_;intro gw wW cT _;have J6:=rK.ext wW;have Fy:=Fx.ext wW;have q1:WY (.pointer (some ⟨gu,0,none⟩)) lD:=(VF cT.since' rK.ou.within).symm;have q2:WY (.pointer (some ⟨go',0,none⟩)) lD:=(VF cT.since' rK.oo.within).symm;have q3:WY bk lD:=(VF cT.since' fun g hg=>(zZ rK.oO g hg).2).symm;have Rn:=Bx.ext si J6.e;refine go ?_;refine VD (fun q=>B.ins.length-q) (fun q t lP=>zC t 95=I q/\q<=B.ins.length/\∃ gA,CM h1 lP h5.n (.slice t1 t2 t3) (.slice f1 f2 f3) (.pointer (some ⟨gu,0,none⟩)) (.pointer (some ⟨go',0,none⟩)) (.slice s1 s2 s3) (.slice r1 r2 r3) T F (.slice AN AO gY) gA (Zy T F i) i (P0.parts.length+zL (L.take b)+q) (zBE T F i++consB T F i L b++(List.range q).flatMap fun(j:Nat)=>YH T F i (Zy T F i) (P0.parts.length+zL (L.take b)+j) (B.ins.getD j default))/\WB h6 lP pf [I sg,.slice b1 b2 b3]/\WY gA pf/\WB gi lP lD [.slice i1 i2 i3,.int .u8 B.fin.kind,I B.fin.a,I B.fin.to,I B.fin.aK]/\WY gA lD) 0 ?_ ?_
    ·refine⟨WJ,QQ _,bk,?_,Fy,Rh,cT,q3⟩;rw[show((0:Nat):Int)=0 from rfl,Int.add_zero];simpa using J6
    rintro q t' lP kj ⟨s95,hq,gA,i6,m8,m9,wZ,Fz⟩;have Ro:=Bx.ext si i6.e;have Rp:=wB.out q hq;have EW:(zBE T F i++consB T F i L b++(List.range q).flatMap fun(j:Nat)=>YH T F i (Zy T F i) (P0.parts.length+zL (L.take b)+j) (B.ins.getD j default)).length<=80000:=by
     rw[QH,QH];omega
    refine go ?_;refine VE (fun bH=> ?_) (fun bH=> ?_)<;>simp only[DB]at bH
    ·have di:q<B.ins.length:=ω
     have I0:=rM.out di;obtain⟨Jc,⟨xa,xf,rfl,fW,gy,l7,Jd,ho⟩,AA,Je⟩:=zq (i:=q) si di;have J7:=(AA _ i6.e).1;have rC:=yt (fun(j:Nat)=>YH T F i (Zy T F i) (P0.parts.length+zL (L.take b)+j) (B.ins.getD j default)) q;generalize B.ins.getD q default=x at *;obtain⟨lI,lJ,lK,rfl⟩:=Wm.shape fW;obtain⟨lM,lN,lO,rfl⟩:=Wm.shape gy;refine go ?_;refine WO.al ?_;intro p14 kf FA qS;refine go ?_;refine VG (cs:=[.int .u8 x.op,I x.ty,I x.a,I x.b,I x.n,.slice lI lJ lK,.slice lM lN lO]) qS FA ?_;intro Ef eU qS _;have Rq:=i6.ext eU;have FB:=m8.ext eU;have FC:=wZ.ext eU;refine go ?_;refine VA (zSC C Rq ⟨ω,ω⟩ ⟨ω,ω⟩ ω x _ _ _ _ fW I0 As) ?_;rintro _ N6 ⟨Rr,FD,J8⟩;obtain⟨rN,rO⟩:=VN FB J8 d2 m9;obtain⟨FE,FF⟩:=VN FC J8 q2 Fz;have FG:=FD.ou;refine go ?_;refine VX (j:=7) (cs:=[I (P0.parts.length+zL (L.take b)+q+1)]) (hl:=by simp) FG FD.e ?_;intro I1 iZ FH AG;have Rs:=FD.setR C AG iZ FH;refine go ?_;refine zA (q+1) ω ⟨Wy,ω,Rr,?_,zAT rN AG d1,rO,zAT FE AG q1,FF⟩;rw[show(P0.parts.length:Int)+zL (L.take b)+((q+1:Nat):Int)=P0.parts.length+zL (L.take b)+q+1 by omega,rC,<-Qd];exact Rs
    ·have lu:q=B.ins.length:=ω
     subst lu;have Rt:=i6.ou;have Ru:=o1.ext i6.e;by_cases cG:B.fin.kind=3;case neg=>
      rw[QC cG,GW]at cf;refine go ?_;refine zA (b+1) ω ⟨Wy,ω,gA,?_,m8,m9⟩;rw[bp,<-Int.add_assoc,cf,<-Qd];exact i6
     rw[QJ cG]at cf;have w8:=wV cG;have rP:0<=P0.elem/\P0.elem<(T.length:Int):=by unfold PlT at lj;omega
     have FI:=BB.ext E1.st i6.e;have J9:=(fB _ i6.e).1;refine go ?_;refine VA (Yz i6.ou FI P0.elem rP) ?_;rintro _ _ ⟨rfl,rfl⟩;cases ed:Be T P0.elem with
     |true=>
      rw[ed,QJ rfl,GW]at cf;refine go ?_;refine zA (b+1) ω ⟨Wy,ω,gA,?_,m8,m9⟩;rw[bp,<-Int.add_assoc,cf,<-Qd];exact i6
     |false=>
      rw[ed,QC Bool.false_ne_true,<-Qd]at cf;have Rv:=(zFb hs (f:=(i:Int)) ⟨ω,ω⟩).2.2.2.2;refine go ?_;refine VC 1 rfl rfl ?_;have oY:WB h1 (inC (zB 1 lP)) (.pointer (some ⟨gu,0,none⟩)) [.slice t1 t2 t3,.slice f1 f2 f3,.slice s1 s2 s3,.slice r1 r2 r3,I (zV T F),.slice AN AO gY,I i,I (P0.parts.length+zL (L.take b)+B.ins.length),Zr (.pointer (some ⟨go',0,none⟩))]:=zu 1 (i6.ou);have sY:Wc (inC (zB 1 lP)) (.slice r1 r2 r3) (Zz T F):=YW 1 (i6.oR.sl);have Rw:WB gi (inC (zB 1 lP)) lD [.slice i1 i2 i3,.int .u8 B.fin.kind,I B.fin.a,I B.fin.to,I B.fin.aK]:=zu 1 (wZ);refine WU ?_;refine VA (ZH oY sY C.hs ⟨ω,ω⟩ B.fin.a w8) ?_;rintro _ _ ⟨rfl,rfl⟩;refine WO.nil (ZP za ?_);refine WU ?_;refine Wb.add (X:=inC (zB 1 _)) (⟨2,zV T F+i,Wn T F i B.fin.a,0,[]⟩:Wh) (fun _=>False) C i6 (WH.refl _) ω YY (fun _ h=>h.elim) ?_;intro H Rx EB qD MH kH;obtain⟨rN,rO⟩:=VN m8 kH d2 m9;refine go ?_;refine zA (b+1) ω ⟨Wy,ω,Rx,?_,rN,rO⟩;rw[bp,<-Int.add_assoc,cf,<-Qd,<-Qd];exact MH
   ·have FJ:b=L.length:=ω
    subst FJ;refine go ?_;refine zA (i+1) ω ⟨Wy,ω,.slice AN AO gY,bk,Zy T F i,i,P0.parts.length+zL (L.take L.length),?_⟩;rw[b9];exact rK
  ·have bj:i=F.length:=ω
   subst bj;have Ry:=M6.oo;have hlen:=AM.out F.length (QF _);obtain⟨v1,v2,v3,rfl⟩:∃ a n k,vO=.slice a n k:=by
    rcases M6.oO with⟨rfl,_⟩|⟨g,_,_,_,_,rfl,_⟩
    ·exact⟨_,_,_,rfl⟩
    ·exact⟨_,_,_,rfl⟩
   refine go ?_;refine VG Ry M6.e ?_;intro h7 e7 o7 u7;refine go ?_;refine rt ?_ (VP WJ o7 rfl (BI.cons WJ BI.nil));refine⟨⟨_,rfl,?_,ω⟩,e1.trans e7⟩;refine(M6.oO.upd (fun k k1 k2=>u7.2 k k2 fun e=> ?_) u7.1).base (QM e1.n R5.e.n);have:=C.bo k (by rw[e];rfl);omega
end
def Y0(T:List WF)(F:List We):Int:=zM9 T F+(Z9 T F).sum
def zGL{l:List Int}(hb:∀ x∈l,0<=x){i j:Nat}(h:i<=j):(l.take i).sum<=(l.take j).sum:=by
 have h1:l.take j=l.take i++(l.drop i).take (j-i):=by
  rw[<-GR i (l.take j),List.take_take,Gg h,List.drop_take]
 have h2:∀ m:List Int,(∀ x∈m,0<=x)->0<=m.sum:=fun m hm=>by
  induction m with
  |nil=>simp
  |cons x m ih=>
   rw[G8];have:=hm x (QR ..);have:=ih fun y hy=>hm y (QW _ hy);omega
 have:=h2 ((l.drop i).take (j-i)) fun x hx=>hb x (List.mem_of_mem_drop (GO hx));rw[h1,Gs];omega
def zHo{T:List WF}{f r:Int}:∀ {S:List W9} (a:Int) (l:List Int),(∃ s∈S,s.fn=f/\s.nr=r)->∃ j,j<S.length/\(S.getD j default).fn=f/\(S.getD j default).nr=r/\Ym T f r S a l=(a+l.length+((S.take j).map fun s=>((yF T s.ty.toNat).length:Int)).sum,yF T (S.getD j default).ty.toNat)
 |[],_,_,⟨s,hs,_⟩=>by cases hs
 |s::S,a,l,⟨q,hq,h1,h2⟩=>by
  by_cases h:s.fn=f/\s.nr=r
  ·exact⟨0,by simp,h.1,h.2,by unfold Ym;rw[QJ h];simp⟩
  ·have hq:q∈S:=(Qt.1 hq).resolve_left fun e=>h (by subst e;exact⟨h1,h2⟩);obtain⟨j,a1,a2,a3,a4⟩:=zHo (a+l.length) (yF T s.ty.toNat) ⟨q,hq,h1,h2⟩;refine⟨j+1,by simpa using a1,a2,a3,?_⟩;unfold Ym;rw[QC h,a4];simp only[Qv,Qi,G8];congr 1;omega
def zFp{T:List WF}{f:Int}:∀ {l:List Wu} {n:Int} {i:Nat},i<l.length->Za (l.getD i default)=true->∃ s∈Zc T f n l,s.fn=f/\s.nr=n+i
 |[],_,_,h,_=>by simp at h
 |x::l,n,0,_,hm=>⟨⟨f,n,(T.getD x.ty.toNat default).elem⟩,by unfold Zc;rw[QJ (by exact hm)];simp,rfl,by simp⟩
 |x::l,n,i+1,h,hm=>by
  obtain⟨s,h1,h2,h3⟩:=zFp (T:=T) (f:=f) (l:=l) (n:=n+1) (i:=i) (by simpa using h) hm;exact⟨s,by unfold Zc;exact GY _ h1,h2,ω⟩
def zFc{T:List WF}{f:Int}:∀ {L:List Wk} {n:Int} {b i:Nat},b<L.length->i<(L.getD b default).ins.length->Za ((L.getD b default).ins.getD i default)=true->∃ s∈ZJ T f n L,s.fn=f/\s.nr=n+zL (L.take b)+i
 |[],_,_,_,h,_,_=>by simp at h
 |c::L,n,0,i,_,hi,hm=>by
  obtain⟨s,h1,h2,h3⟩:=zFp (T:=T) (f:=f) (l:=c.ins) (n:=n) (i:=i) hi hm;exact⟨s,by unfold ZJ;exact GV _ h1,h2,by rw[h3];simp[zL]⟩
 |c::L,n,b+1,i,hb,hi,hm=>by
  obtain⟨s,h1,h2,h3⟩:=zFc (T:=T) (f:=f) (L:=L) (n:=n+c.ins.length) (b:=b) (i:=i) (by simpa using hb) hi hm;exact⟨s,by unfold ZJ;exact GY _ h1,h2,by rw[h3,Qv,zAj];omega⟩
def zGP{T:List WF}:∀ {G:List We} {n:Int} {f b i:Nat},f<G.length->b<(G.getD f default).blocks.length->i<((G.getD f default).blocks.getD b default).ins.length->Za (((G.getD f default).blocks.getD b default).ins.getD i default)=true->
  ∃ s∈ZZ T n G,s.fn=n+f/\s.nr=((T.getD (G.getD f default).sig.toNat default).parts.length:Int)+zL ((G.getD f default).blocks.take b)+i
 |[],_,_,_,_,h,_,_,_=>by simp at h
 |g::G,n,0,b,i,_,hb,hi,hm=>by
  obtain⟨s,h1,h2,h3⟩:=zFc (T:=T) (f:=n) (L:=g.blocks) (n:=((T.getD g.sig.toNat default).parts.length:Int)) (b:=b) (i:=i) hb hi hm;exact⟨s,by unfold ZZ;exact GV _ h1,ω,h3⟩
 |g::G,n,f+1,b,i,hf,hb,hi,hm=>by
  obtain⟨s,h1,h2,h3⟩:=zGP (T:=T) (G:=G) (n:=n+1) (f:=f) (b:=b) (i:=i) (by simpa using hf) hb hi hm;exact⟨s,by unfold ZZ;exact GY _ h1,ω,h3⟩
def zSH{T:List WF}:∀ (n k:Nat),k<n->(∀ j,j<=k->ZY T j)->1<=(yF T k).length:=by
 intro n;induction n with
 |zero=>intro k h;omega
 |succ n ih=>
  intro k hk hM;have hm:=hM k (QF _);rw[zA0 hM];split
  ·rename_i h4;have hp:=(zGV hm h4).2;have h1:1<=(T.getD k default).parts.length:=by
    unfold ZY zGk at hm;rcases hm with h|h|h|h|h<;>omega
   generalize(T.getD k default).parts=l at *;cases l with
   |nil=>simp at h1
   |cons p l=>
    have:=ih p.toNat (by have:=hp p (QR ..);omega) fun j hj=>hM j (by have:=hp p (QR ..);omega);simp only[Qi,Gd,QH];omega
  ·split
   ·rename_i h4 h5;have hp:=zJp hm h5;exact ih (T.getD k default).elem.toNat ω fun j hj=>hM j ω
   ·simp
section
variable {T:List WF}{F:List We}
def zBz(hs:zb T F=0):0<=zV T F/\1<=F.length/\0<=(Z9 T F).sum/\zV T F+F.length+(Z9 T F).sum=Y0 T F:=by
 obtain⟨hb,hl,h1,h8⟩:=zAI hs;have h3:=zAC hb;have h4:∀ x∈Z9 T F,0<=x:=fun x hx=>by
  unfold Z9 at hx;obtain⟨s,_,rfl⟩:=Qw.1 hx;omega
 have h5:=zGL h4 (QQ (Z9 T F).length);rw[GK,Qs]at h5;unfold zV Y0 zM9;exact⟨h3.1,h1,h5,rfl⟩
def zLc(hs:zb T F=0){f q:Int}(hf:0<=f/\f<(F.length:Int))(hq:0<=q/\q<((B7 T F f).length:Int)):0<=Wn T F f q/\Wn T F f q<zV T F/\((B7 T F f).length:Int)=(zt T F).getD f.toNat 0:=by
 obtain⟨hb,hl,h1,h8⟩:=zAI hs;have Z:=zC5 (z8 hs).1 hf;have hr:((B7 T F f).length:Int)=(zt T F).getD f.toNat 0:=by
  rw[Z.reg];have:f.toNat<F.length:=ω
  unfold zt zJ9 yb zR;simp[List.getD,QB this]
 have h2:=zAC (l:=(zt T F).take f.toNat) fun x hx=>hb x (GO hx);have h3:=zDi (l:=zt T F) (i:=f.toNat) ω;have h4:=zTi hb (f.toNat+1);unfold Wn zV;omega
end
structure Wj where
 to:Int
 set:List Wa
instance:Inhabited Wj:=⟨⟨0,[]⟩⟩
def SY(n:Nat):List (Int×Int):=(List.range n).flatMap fun(f:Nat)=>[(1,(f:Int))]
def elS(T:List WF)(S:List W9)(n:Nat):List (Int×Int):=(List.range n).flatMap fun(j:Nat)=>List.replicate (yF T (S.getD j default).ty.toNat).length (2,(j:Int))
def ZR(T:List WF)(F:List We):List (Int×Int):=(0,0)::SY F.length++elS T (zW T F) (zW T F).length
def BK(T:List WF)(F:List We):Int:=(ZR T F).length
def Z2(T:List WF)(F:List We)(n:Int):Int:=Y0 T F-BK T F+n
def zAE(T:List WF)(F:List We)(n:Int):Int:=((ZR T F).getD n.toNat default).1
def yW(T:List WF)(F:List We)(n:Int):Int:=((ZR T F).getD n.toNat default).2
def setL(L:List (List Wa))(n:Int):List Wa:=L.getD n.toNat []
def zCZ(n:Int):List Wa:=[⟨n / 64,2 ^ (n % 64).toNat⟩]
section
variable (T:List WF)(F:List We)
def ye(s:List Wa)(k:Int):List Int:=(zQ s).filter fun n=>decide (zAE T F n=k)
def zAt(L:List (List Wa))(x:Wh)(n:Int):List Wj:=
 if(yb T F (yW T F n)).parts.length=x.args.length then((List.range x.args.length).flatMap fun(i:Nat)=>[⟨Wn T F (yW T F n) i,setL L (x.args.getD i 0)⟩])++[⟨x.to,setL L (zV T F+yW T F n)⟩]else[]
def Z6(x:Wh)(n:Int):List Wj:=
 if n+x.n<BK T F/\yW T F (n+x.n)=yW T F n then[⟨x.to,zCZ (n+x.n)⟩]else[]
def Zs(L:List (List Wa))(x:Wh):List Wj:=
 if x.kind=1 then[⟨x.to,zCZ x.n⟩]else if x.kind=2 then[⟨x.to,setL L x.frm⟩]
 else if x.kind=3 then(ye T F (setL L x.frm) 2).flatMap fun n=>Z6 T F x n
 else if x.kind=4 then(ye T F (setL L x.frm) 2).flatMap fun n=>[⟨x.to,setL L (Z2 T F n)⟩]
 else if x.kind=5 then(ye T F (setL L x.to) 2).flatMap fun n=>[⟨Z2 T F n,setL L x.frm⟩]
 else if x.kind=6 then(ye T F (setL L x.frm) 1).flatMap fun n=>zAt T F L x n
 else[]
def zMg(x:Wh):Bool:=decide (1<=x.kind/\x.kind<=6)
structure By(s:List Wa):Prop where
 ok:Bh s
 el:∀ n∈zQ s,n<BK T F
def Ba(n:Int):Prop:=0<=n/\n<Y0 T F
structure SV(L:List (List Wa))(x:Wh):Prop where
 len:(L.length:Int)=Y0 T F
 n:0<=x.n/\(x.n<=BK T F\/x.n<=1000000)
 sets:∀ s∈L,By T F s
 to:Ba T F x.to
 frm:Ba T F x.frm
 args:∀ a∈x.args,Ba T F a
end
variable {T:List WF}{F:List We}
def zPy{S:List W9}:∀ n,n<=S.length->(((elS T S n).length:Nat):Int)=(((S.map fun s=>((yF T s.ty.toNat).length:Int)).take n).sum)
 |0,_=>rfl
 |n+1,h=>by
  have ih:=zPy (S:=S) n ω;have e:elS T S (n+1)=elS T S n++List.replicate (yF T (S.getD n default).ty.toNat).length (2,(n:Int)):=yt _ n;rw[e,QH,Gk,GF,Gs,Int.natCast_add,ih,GQ,QB (by omega:n<S.length),QD,QB (by omega:n<S.length)];simp
def YF:∀ n,(SY n).length=n
 |0=>rfl
 |n+1=>by
  have e:SY (n+1)=SY n++[(1,(n:Int))]:=yt _ n;rw[e,QH,YF n];rfl
def zIa:BK T F=1+F.length+(Z9 T F).sum:=by
 have h:=zPy (T:=T) (S:=zW T F) _ (QF _);rw[Q3 (by simp)]at h;unfold BK ZR Z9;rw[QH,Qn,YF];omega
def zH3(n:Int)(hs:zb T F=0):Z2 T F n=zV T F+n-1:=by
 have:=zBz hs;unfold Z2;rw[zIa];omega
def zIy{n:Int}(h:0<=n/\n<1048576):Bo (zCZ n) [n]:=by
 have:=Bo.new zJi h (fun x hx=>by cases hx);exact this
def zT5{n:Int}{t:List Wa}(h:0<=n/\n<1048576)(u:Bo t [n]):t=zCZ n:=
 zIm u.ok (zIy h).ok fun m=>(u.mem m).trans ((zIy h).mem m).symm
end Go.Proofs.YtndffgfnndoifaaGreatDoor
namespace Go.Am
section
variable {P:Program}{tab:Ws}{t:WG Value}{ds:List Deferred}{rd:Option Nat}{l:List (WE×List Nat)}{Q:WM->WA->Prop}{α:Type}{c b d1 d2 m N0 g:Nat}{R:WA->List Value->α->Prop}{X:WA}{v w:Value}{xs:List α}{cs zero:List Value}{x y:Operand}
def zPm(a:α)(hi:∀ h h' cs a,R h cs a->R h' cs a)(r:R X cs a)(o:WR c R b X v xs)(hg:b<=g/\g<X.n)(w9:BJ v≠some g)(hc:cs.length=c)(a8:0<c)(h1:zK cs=true)(hl:xs.length<=100000):
  ∃ v' H2,yR c v (.slice (some ⟨g,0,none⟩) 1 c) (inC ((inC (inC X)).lay g (.row cs true 0)))=some (v',H2)/\WR c R b H2 v' (xs++[a])/\H2.n=X.n+1/\(∀ k,k<X.n->k≠g->BJ v≠some k->H2.get k=X.get k)/\(∀ k∈H2.wr,b<=k)/\(Wf X->Wf H2)/\(∃ n k q,v'=.slice (some ⟨q,0,none⟩) n k/\X.n<=q):=by
 generalize iu:(inC (inC X)).lay g (.row cs true 0)=H1;have n1:H1.n=X.n:=by rw[<-iu];rfl
 have aV:∀ c',H1.get c'=if c'=g then some (.row cs true 0)else X.get c':=fun c'=>by rw[<-iu];exact zU _ _ _ _
 have jT:WR c R b (inC H1) v xs:=o.upB (v:= .slice (some ⟨g,0,none⟩) 0 0) hi ⟨by show X.n<=H1.n;omega,fun k _ hk=>by
  show H1.get k=_;rw[aV,QC (fun e=>hk (by rw[e];rfl))]⟩ (fun k hk hv=>by cases hk;exact w9 hv)
 have qd:B6 R (inC H1) cs a (fun _=>False):=fun _ _ _=>hi _ _ _ _ r;obtain⟨v',H2,q1,q2,q3,q4,q5,q6,q7,q8,n',k',g',q9,nL⟩:=YJ (H:=inC H1) (gl:=g) jT hc a8 h1 hl (by show b<=H1.n;omega) qd (fun k hd=>hd.elim) (fun _ _ _ _ h=>h) (QF _) (by show g<H1.n;omega) (fun _ _=>rfl) (by show H1.get g=_;rw[aV,QJ rfl]);refine⟨v',H2,q1,q2,by rw[q3];show H1.n+1=_;omega,fun k hk Rz RA=> ?_,fun k hk=> ?_,fun wx=>q8 fun k hk=> ?_,n',k',g',q9,by have h5:H1.n<=g':=nL;omega⟩
 ·rw[q4 k (by show k<H1.n;omega) (fun n k' e=>RA (by rw[e];rfl))];show H1.get k=_;rw[aV,QC Rz]
 ·rcases q6 k hk with h|h
  ·cases h
  ·exact h
 ·have hk:H1.n<=k:=hk;show H1.get k=_;rw[aV,QC ω];exact wx k ω
def XM{aH:Nat->Prop}(a:α)(hi:∀ h h' cs a,R h cs a->R h' cs a)(r:R X cs a)(o:WR c R b X v xs)(hg:b<=g/\g<X.n)(w9:BJ v≠some g)(hm:m<=b)(a8:0<c)(hl:xs.length<=100000)(jU:∀ k,b<=k->aH k)
  (k:∀ Y v' lit,Y.n=X.n+1->(∀ k,k<X.n->k≠g->BJ v≠some k->Y.get k=X.get k)->WR c R b Y v' (xs++[a])->(∃ n k q,v'=.slice (some ⟨q,0,none⟩) n k/\X.n<=q)->(Wf X->Wf Y)->BW P tab m N0 aH l (g+1) true ⟨(t.set d1 lit).set d2 v',ds,rd⟩ (Am.inC Y) Q)
  (hx:WN t x w:=by exact zO) (hw:w.cells=cs.toArray:=by rfl) (hc:cs.length=c:=by rfl) (h1:zK cs=true:=by rfl) (hz:zero.length=c:=by rfl) (hy:∀ u,WN (t.set d1 u) y v:=by intro u;exact zO) (ah:l≠[]:=by exact List.cons_ne_nil _ _):
  BW P tab m N0 aH ((⟨some d1,none,.buildSlice 1 c zero [(0,c,x)]⟩,[])::(⟨some d2,none,.append c y (.tmp d1)⟩,[])::l) g true ⟨t,ds,rd⟩ (Am.inC X) Q:=by
 have hx:ev t x=w:=hx;rw[BW,QJ (show Nat.beq (zE (Wz.buildSlice 1 c zero [(0,c,x)])) 3=true from rfl)];refine⟨rfl,.inl ⟨rfl,QM hm hg.1,.row cs true 0,_,by simp only[yh,zr,Qi,Gc,hx,YB hw hc hz,QL];rfl,true,fun _=>⟨rfl,jU _ hg.1⟩,?_⟩⟩;obtain⟨v',H2,q1,q2,q3,q4,q5,q6,q7⟩:=zPm a hi r o hg w9 hc a8 h1 hl;rw[BW,QC (show ¬Nat.beq (zE (Wz.append c y (.tmp d1))) 3=true from Bool.noConfusion)];have gO:ev (t.set d1 (.slice (some ⟨g,0,none⟩) 1 c)) y=v:=hy _;have e1:ev (t.set d1 (.slice (some ⟨g,0,none⟩) 1 c)) (.tmp d1)=.slice (some ⟨g,0,none⟩) 1 c:=by simp only[ev,zg,Qz]
 refine WO.op v' H2 rfl (by simp only[WK,gO,e1,q1]) ?_;refine WO.nil ⟨⟨fun k hk=>QM hm (q5 k hk),by show X.n<=H2.n;omega,.inl rfl⟩,true,fun h=>⟨rfl,fun k hk=>jU k (q5 k hk)⟩,?_⟩;have fin:=k H2 v' (.slice (some ⟨g,0,none⟩) 1 c) q3 q4 q2 q7 q6;cases l with
 |nil=>exact absurd rfl ah
 |cons z l=>
  obtain⟨z1,z2⟩:=z;simp only[BW]at fin |-;exact fin
def XO{cl:Bool}(a:α)(hi:∀ h h' cs a,R h cs a->R h' cs a)(r:R X cs a)(o:WR c R b X v xs)(hg:b<=g/\g<X.n)(w9:BJ v≠some g)(hm:m<=b)(a8:0<c)(hl:xs.length<=100000)
  (k:∀ Y v' lit,Y.n=X.n+1->(∀ k,k<X.n->k≠g->BJ v≠some k->Y.get k=X.get k)->WR c R b Y v' (xs++[a])->(∃ n k q,v'=.slice (some ⟨q,0,none⟩) n k/\X.n<=q)->(Wf X->Wf Y)->Wb P tab m N0 l (g+1) false ⟨(t.set d1 lit).set d2 v',ds,rd⟩ (Am.inC Y) Q)
  (hx:WN t x w:=by exact zO) (hw:w.cells=cs.toArray:=by rfl) (hc:cs.length=c:=by rfl) (h1:zK cs=true:=by rfl) (hz:zero.length=c:=by rfl) (hy:∀ u,WN (t.set d1 u) y v:=by intro u;exact zO) (ah:l≠[]:=by exact List.cons_ne_nil _ _):
  Wb P tab m N0 ((⟨some d1,none,.buildSlice 1 c zero [(0,c,x)]⟩,[])::(⟨some d2,none,.append c y (.tmp d1)⟩,[])::l) g cl ⟨t,ds,rd⟩ (Am.inC X) Q:=by
 have hx:ev t x=w:=hx;rw[Wb,QJ (show Nat.beq (zE (Wz.buildSlice 1 c zero [(0,c,x)])) 3=true from rfl)];refine⟨rfl,.inl ⟨rfl,QM hm hg.1,.row cs true 0,_,by simp only[yh,zr,Qi,Gc,hx,YB hw hc hz,QL];rfl,?_⟩⟩;obtain⟨v',H2,q1,q2,q3,q4,q5,q6,q7⟩:=zPm a hi r o hg w9 hc a8 h1 hl;rw[Wb,QC (show ¬Nat.beq (zE (Wz.append c y (.tmp d1))) 3=true from Bool.noConfusion)];have gO:ev (t.set d1 (.slice (some ⟨g,0,none⟩) 1 c)) y=v:=hy _;have e1:ev (t.set d1 (.slice (some ⟨g,0,none⟩) 1 c)) (.tmp d1)=.slice (some ⟨g,0,none⟩) 1 c:=by simp only[ev,zg,Qz]
 refine WO.op v' H2 rfl (by simp only[WK,gO,e1,q1]) ?_;refine WO.nil ⟨⟨fun k hk=>QM hm (q5 k hk),by show X.n<=H2.n;omega,.inl rfl⟩,?_⟩;have fin:=k H2 v' (.slice (some ⟨g,0,none⟩) 1 c) q3 q4 q2 q7 q6;cases l with
 |nil=>exact absurd rfl ah
 |cons z l=>
  obtain⟨z1,z2⟩:=z;simp only[Wb,Qj]at fin |-;exact fin
end
end Go.Am
set_option maxRecDepth 100000
namespace Go.Proofs.YtndffgfnndoifaaGreatDoor
open Go.Am
def R8(_:WA)(cs:List Value)(x:Int):Prop:=cs=[.int .u8 x]
def zDr(h h':WA)(cs:List Value)(x:Int)(r:R8 h cs x):R8 h' cs x:=r
def zAM(h h':WA)(cs:List Value)(x:Int)(r:RI h cs x):RI h' cs x:=r
structure KT(hB h:WA)(b:Nat)(p vt vf vK vA vR:Value)(nn a:Int)(E:List (Int×Int))(rs:List Int):Prop where
 e:WH hB h
 hb:hB.n<=b/\b<=h.n
 own:WB hB h p [vt,vf,I nn,I E.length,vK,vA,vR,I a]
 pb:∀ g,BJ p=some g->g<b
 k:WR 1 R8 b h vK (E.map (·.1))
 f:WR 1 RI b h vA (E.map (·.2))
 r:WR 1 RI b h vR rs
 ka:WY vK vA
 kr:WY vK vR
 ar:WY vA vR
def KT.ext{hB h h':WA}{b:Nat}{p vt vf vK vA vR:Value}{nn a:Int}{E:List (Int×Int)}{rs:List Int}(K:KT hB h b p vt vf vK vA vR nn a E rs)(e:WH h h'):KT hB h' b p vt vf vK vA vR nn a E rs:=
 ⟨K.e.trans e,⟨K.hb.1,QM K.hb.2 e.n⟩,K.own.ext e,K.pb,K.k.ext e,K.f.ext e,K.r.ext e,K.ka,K.kr,K.ar⟩
def Ys{α:Type}{c b:Nat}{R:WA->List Value->α->Prop}{h:WA}{v:Value}{xs:List α}(o:WR c R b h v xs):∃ a n k,v=.slice a n k:=by
 rcases o with⟨rfl,_⟩|⟨_,_,_,_,_,rfl,_⟩
 ·exact⟨_,_,_,rfl⟩
 ·exact⟨_,_,_,rfl⟩
def zAY{α:Type}{c b:Nat}{R:WA->List Value->α->Prop}{h h':WA}{v:Value}{xs:List α}(hi:∀ h h' cs a,R h cs a->R h' cs a)(o:WR c R b h v xs)(hk:∀ g,BJ v=some g->g<h'.n/\h'.get g=h.get g):WR c R b h' v xs:=by
 rcases o with o|⟨g,cells,D,g1,g2,rfl,g3,g4,_,_,g7⟩
 ·exact .inl o
 ·exact .inr ⟨g,cells,fun _=>False,g1,(hk g rfl).1,rfl,(hk g rfl).2.trans g3,g4,id,fun _ h=>h.elim,fun i a ha hx _ _=>hi _ _ _ _ (g7 i a ha).self⟩
def zHz{hB h:WA}{b:Nat}{p vt vf vK vA vR:Value}{nn a:Int}{E:List (Int×Int)}{rs:List Int}(K:KT hB h b p vt vf vK vA vR nn a E rs)(hm:hB.mark<=hB.n)(hl:E.length<=90000)(kd x:Int):
  G0 70 [p,.int .u8 kd,I x] h fun r h'=>∃ iD eE,KT hB h' b p vt vf iD eE vR nn a (E++[(kd,x)]) rs:=by
 obtain⟨k1,k2,k3,rfl⟩:=Ys K.k;obtain⟨f1,f2,f3,rfl⟩:=Ys K.f;obtain⟨r1,r2,r3,rfl⟩:=Ys K.r;obtain⟨gp,g1,g2,rfl,g3⟩:=id K.own;have xF:gp<b:=K.pb gp rfl;have dC:=K.hb;have iL:h.mark<=b:=by rw[K.e.mark];omega
 have own:=K.own;refine en ?_;refine Vh (fun k=>b<=k) 2 rfl rfl ?_;have oY:WB hB (inC (zB 2 h)) (.pointer (some ⟨gp,0,none⟩)) [vt,vf,I nn,I E.length,.slice k1 k2 k3,.slice f1 f2 f3,.slice r1 r2 r3,I a]:=zu 2 own;have AP:∀ q,BJ (Value.slice k1 k2 k3)=some q->b<=q/\q<h.n:=zZ K.k;have tC:∀ q,BJ (Value.slice f1 f2 f3)=some q->b<=q/\q<h.n:=zZ K.f;have ee:∀ q,BJ (Value.slice r1 r2 r3)=some q->b<=q/\q<h.n:=zZ K.r;refine goW ?_;refine XM (X:=zB 2 h) (R:=R8) kd zDr rfl (K.k.ext (zG 2 h)) ⟨dC.2,by show h.n<h.n+2;omega⟩ (fun e=>by have:=AP _ e;omega) iL (by decide) (by rw[Qr];omega) (fun _ h=>h) ?_;rintro Y iD lit nY kY FK ⟨w1,w2,w3,rfl,hw⟩ FL;replace nY:Y.n=h.n+3:=nY;have tG:∀ k,k<h.n->BJ (Value.slice k1 k2 k3)≠some k->Y.get k=h.get k:=fun k hk hv=>kY k (by show k<h.n+2;omega) ω hv;have AQ:Y.get gp=h.get gp:=tG gp g2 fun e=>by have:=AP _ e;omega
 have oY:WB hB (inC Y) (.pointer (some ⟨gp,0,none⟩)) [vt,vf,I nn,I E.length,.slice k1 k2 k3,.slice f1 f2 f3,.slice r1 r2 r3,I a]:=⟨gp,g1,by show gp<Y.n;omega,rfl,AQ.trans g3⟩;have CS:h.n+2<=w3:=hw;refine goW ?_;refine zQu (fun hh=> ?_) ?_ ?_
 ·have hh:b<=gp:=hh;omega
 ·show gp<h.n+2;omega
 refine V6 ?_;have oA:=K.f.upB zAM (⟨ω,tG⟩:UpB (.slice k1 k2 k3) h Y) K.ka;refine WU ?_;refine XO (X:=Y) (R:=RI) x zAM rfl oA ⟨ω,ω⟩ (fun e=>by have:=tC _ e;omega) iL (by decide) (by rw[Qr];omega) ?_;rintro Z eE RB nZ kZ Ka ⟨z1,z2,z3,rfl,hz⟩ RC;have oZ:WB hB Z (.pointer (some ⟨gp,0,none⟩)) [vt,vf,I nn,I E.length,.slice k1 k2 k3,.slice f1 f2 f3,.slice r1 r2 r3,I a]:=⟨gp,g1,ω,rfl,((kZ gp ω ω fun e=>by have:=tC _ e;omega).trans AQ).trans g3⟩;have PF:WB hB (inC Z) (.pointer (some ⟨gp,0,none⟩)) [vt,vf,I nn,I E.length,.slice k1 k2 k3,.slice f1 f2 f3,.slice r1 r2 r3,I a]:=oZ;refine WU ?_;refine Vy (hB:=hB) (j:=4) (cs:=[.slice (some ⟨w3,0,none⟩) w1 w2]) (hl:=by simp) oZ (by rw[K.e.mark];exact hm) ?_;intro X1 n1 lT iE wT Ff;replace iE:WB hB X1 (.pointer (some ⟨gp,0,none⟩)) [vt,vf,I nn,I E.length,.slice (some ⟨w3,0,none⟩) w1 w2,.slice f1 f2 f3,.slice r1 r2 r3,I a]:=iE;have Fg:WB hB (inC X1) (.pointer (some ⟨gp,0,none⟩)) [vt,vf,I nn,I E.length,.slice (some ⟨w3,0,none⟩) w1 w2,.slice f1 f2 f3,.slice r1 r2 r3,I a]:=iE;refine WU ?_;refine Vn (hB:=hB) (j:=5) (cs:=[.slice (some ⟨z3,0,none⟩) z1 z2]) (hl:=by simp) iE (by rw[K.e.mark];exact hm) ?_;intro H n2 i5 ju ml m2 ji;replace ju:WB hB H (.pointer (some ⟨gp,0,none⟩)) [vt,vf,I nn,I E.length,.slice (some ⟨w3,0,none⟩) w1 w2,.slice (some ⟨z3,0,none⟩) z1 z2,.slice r1 r2 r3,I a]:=ju;have kH:∀ k,k≠gp->H.get k=Z.get k:=fun k hk=>(i5 k fun e=>by cases e;exact hk rfl).trans (lT k fun e=>by cases e;exact hk rfl);have tH:∀ k,k<h.n->k≠gp->BJ (Value.slice k1 k2 k3)≠some k->BJ (Value.slice f1 f2 f3)≠some k->H.get k=h.get k:=fun k h1 h2 h3 h4=>(kH k h2).trans ((kZ k ω ω h4).trans (tG k h1 h3));have eH:WH hB H:=⟨by have:=K.e.n;omega,fun k hk=>(tH k (by have:=K.e.n;omega) ω (fun e=>by have:=AP _ e;omega) (fun e=>by have:=tC _ e;omega)).trans (K.e.get k hk),fun w=>ml (wT (RC (FL fun k hk=>K.e.wf w k (by have hk:h.n+2<=k:=hk;omega)))),m2.trans K.e.mark,fun hm=>ji.trans (K.e.wr hm)⟩;refine go ?_;refine VX (j:=3) (cs:=[I (E.length+1)]) (hl:=by simp) ju eH ?_;intro h3 e3 o3 u3;refine go ?_;refine BN ?_;have k3:∀ k,k<H.n->k≠gp->h3.get k=H.get k:=fun k hk ah=>u3.2 k hk fun e=>by cases e;exact ah rfl
 have n3:H.n<=h3.n:=u3.1;have Dq:WB hB h3 (.pointer (some ⟨gp,0,none⟩)) [vt,vf,I nn,I ((E++[(kd,x)]).length:Nat),.slice (some ⟨w3,0,none⟩) w1 w2,.slice (some ⟨z3,0,none⟩) z1 z2,.slice r1 r2 r3,I a]:=by
  rw[QH];exact o3
 refine⟨_,_,⟨e3,⟨dC.1,ω⟩,Dq,K.pb,?_,?_,zAY zAM K.r fun q hq=> ?_,?_,?_,?_⟩⟩
 ·rw[Q5];refine zAY zDr FK fun q hq=> ?_;have h2:=zZ FK q hq;have hq:w3=q:=Qm hq;subst hq;exact⟨ω,(k3 _ ω ω).trans ((kH _ ω).trans (kZ _ ω ω fun e=>by have:=tC _ e;omega))⟩
 ·rw[Q5];refine zAY zAM Ka fun q hq=> ?_;have h2:=zZ Ka q hq;have hq:z3=q:=Qm hq;subst hq;exact⟨ω,(k3 _ ω ω).trans (kH _ ω)⟩
 ·have h2:=ee q hq;exact⟨ω,(k3 _ ω ω).trans (tH _ h2.2 ω (fun e=>K.kr q e hq) (fun e=>K.ar q e hq))⟩
 ·intro q h1 h2;have aI:=zZ FK q h1;have h1:w3=q:=Qm h1;have h2:z3=q:=Qm h2;omega
 ·intro q h1 h2;have:=ee q h2;have h1:w3=q:=Qm h1;omega
 ·intro q h1 h2;have:=ee q h2;have h1:z3=q:=Qm h1;omega
structure TE(h0 h:WA)(p vt vf vK vA vR:Value)(T:List WF)(F:List We):Prop where
 own:WB h0 h p [vt,vf,I (Y0 T F),I (BK T F),vK,vA,vR,I (zV T F)]
 k:W7 1 R8 h vK ((ZR T F).map (·.1))
 f:Wc h vA ((ZR T F).map (·.2))
 r:Wc h vR (Zz T F)
 sh:(∃ a n k,vK=.slice a n k)/\(∃ a n k,vA=.slice a n k)/\∃ a n k,vR=.slice a n k
def TE.ext{h0 h h':WA}{p vt vf vK vA vR:Value}{T:List WF}{F:List We}(K:TE h0 h p vt vf vK vA vR T F)(e:WH h h'):TE h0 h' p vt vf vK vA vR T F:=
 ⟨K.own.ext e,W7.ext (fun _ _ r=>zDr _ _ _ _ r) K.k e,K.f.ext e,K.r.ext e,K.sh⟩
def zI0{T:List WF}{S:List W9}(hS:∀ s∈S,(yF T s.ty.toNat).length<=40):∀ n,n<=S.length->(elS T S n).length<=40*n:=fun n hn=>zE7 _ 40 n fun i hi=>by
 rw[Gk];exact hS _ (zH ω)
def zOm{h:WA}{vt vf:Value}{T:List WF}{F:List We}(E:SE h vt vf T F):
  G0 28 [.agg #[vt,vf]] h fun r h'=>(∃ p,r=.tuple #[p,I (zb T F)]/\(zb T F=0->∃ vK vA vR,TE h h' p vt vf vK vA vR T F))/\WH h h':=by
 refine en ?_;refine VH ?_;intro p1 h1 e1 o1;replace o1:WB h h1 p1 [vt,vf]:=o1;have E1:=E.ext e1;refine go ?_;refine VA (zJm h1 vt vf T F E1) ?_;rintro _ h2 ⟨⟨vS,rfl,oS⟩,e2⟩;have cT:=o1.ext e2;have aE:=e1.trans e2;obtain⟨s1,s2,s3,rfl⟩:=zD oS.sl;by_cases hs:zb T F=0;case neg=>
  refine gr ?_;exact⟨⟨_,rfl,fun h=>absurd h hs⟩,aE⟩
 rw[QJ hs]at oS;rw[hs];have hp:=(z8 hs).1;obtain⟨hc,l5,lQ,hfn⟩:=yg hp;obtain⟨ee,me,-,-⟩:=zAI hs;have au:=zBu hc;have gZ:∀ s∈zW T F,(yF T s.ty.toNat).length<=40:=fun s jY=>by
  have cD:=zAS hs s jY;have h1:=fun j (hj:j<=s.ty.toNat)=>(au j ω).1;exact QM (QM (zB2 (s.ty.toNat+1) s.ty.toNat (Q9 _) h1) (au s.ty.toNat ω).2) (by decide)
 have rQ:∀ j,j<(zW T F).length->0<=((zW T F).getD j default).ty/\((zW T F).getD j default).ty<(T.length:Int):=fun j hj=>zAS hs _ (zH hj);have bP:=zCm hs;obtain⟨t1,t2,t3,rfl⟩:=zD E.st;obtain⟨f1,f2,f3,rfl⟩:=zD E.sf;have E2:=E1.ext e2;have bT:=E2.hm;refine go ?_;refine VH ?_;intro p h3 e3 o3;obtain⟨gp,mj,pZ,rfl,nJ⟩:=id o3;replace o3:WB h2 h3 (.pointer (some ⟨gp,0,none⟩)) [.slice t1 t2 t3,.slice f1 f2 f3,I 0,I 0,.slice none 0 0,.slice none 0 0,.slice none 0 0,I 0]:=o3;have K3:KT h2 h3 h3.n (.pointer (some ⟨gp,0,none⟩)) (.slice t1 t2 t3) (.slice f1 f2 f3) (.slice none 0 0) (.slice none 0 0) (.slice none 0 0) 0 0 [] []:=⟨e3,⟨e3.n,QF _⟩,o3,o3.within,WR.nil,WR.nil,WR.nil,(fun b hb=>by cases hb),(fun b hb=>by cases hb),fun b hb=>by cases hb⟩;refine go ?_;refine VA (zHz K3 bT (by simp) 0 0) ?_;rintro _ h4 ⟨vK,vA,K4⟩;have fR:h2.n<=h3.n:=e3.n;have qS:=cT.ext K4.e;have vI:=BA.ext E2.sf K4.e;clear K3 o3 mj pZ nJ;replace hfn:=Wi.mk hfn;replace rQ:=Wi.mk rQ;replace gZ:=Wi.mk gZ;refine go ?_;refine VD (fun i=>F.length-i) (fun i t h5=>zC t 30=I i/\i<=F.length/\∃ vK vA vR,KT h2 h5 h3.n (.pointer (some ⟨gp,0,none⟩)) (.slice t1 t2 t3) (.slice f1 f2 f3) vK vA vR 0 ((zt T F).take i).sum ((0,0)::SY i) ((List.range i).map fun i=>((zt T F).take i).sum)) 0 ?_ ?_
 ·exact⟨WJ,QQ _,_,_,_,K4⟩
 rintro i t h5 ab ⟨s30,hi,vK,vA,vR,K5⟩;have jt:=cT.ext K5.e;refine F0 ?_ ?_<;>intro hb
 ·have af:i<F.length:=ω
  have E5:=E2.ext K5.e;have hR:=zIu h5 _ _ T F i E5.tt E5.hm E5.sm E5.st E5.sf;rw[zMX hp af]at hR;have aL:=zDi (l:=zt T F) (i:=i) ω;have Fm:(zt T F).getD i 0=((T.getD (F.getD i default).sig.toNat default).parts.length:Int)+zL (F.getD i default).blocks:=by
   unfold zt;rw[zAO af]
  have xI:=ee _ (zd (l:=zt T F) (i:=i) ω);have oh:=zAC (l:=(zt T F).take i) fun x hx=>ee x (GO hx);have xV:((zt T F).take i).length<=8:=by rw[Qp];omega
  have iP:((List.range (i+1)).map fun i=>((zt T F).take i).sum)=((List.range i).map fun i=>((zt T F).take i).sum)++[((zt T F).take i).sum]:=by rw[JC,Q5];rfl
  have lj:(0,0)::SY (i+1)=((0,0)::SY i)++[(1,(i:Int))]:=by
   have e:SY (i+1)=SY i++[(1,(i:Int))]:=yt _ i;rw[e];rfl
  have Fo:((List.range i).map fun i=>((zt T F).take i).sum).length<=8:=by simp;omega
  have mM:((0,0)::SY i).length<=100:=by rw[Qn,YF];omega
  rw[<-Fm]at hR;generalize((List.range i).map fun i=>((zt T F).take i).sum)=rs at *;generalize((0,0)::SY i)=El at *;generalize(zt T F).getD i 0=m at *;generalize((zt T F).take i).sum=sm at *;refine go ?_;refine VA hR ?_;rintro _ h6 ⟨rfl,e6⟩;have K6:=K5.ext e6;have rG:=jt.ext e6;obtain⟨k1,k2,k3,rfl⟩:=Ys K6.k;obtain⟨a1,a2,a3,rfl⟩:=Ys K6.f;obtain⟨r1,r2,r3,rfl⟩:=Ys K6.r;obtain⟨_,g1,g2,nh,g3⟩:=id K6.own;cases nh;have xF:gp<h3.n:=K6.pb gp rfl;have dC:=K6.hb;have lU:h6.mark<=h2.n:=by rw[K6.e.mark];exact bT
  have oY:WB h2 (inC (zB 1 h6)) (.pointer (some ⟨gp,0,none⟩)) [.slice t1 t2 t3,.slice f1 f2 f3,I 0,I El.length,.slice k1 k2 k3,.slice a1 a2 a3,.slice r1 r2 r3,I sm]:=zu 1 K6.own;have mZ:∀ q,BJ (Value.slice r1 r2 r3)=some q->h3.n<=q/\q<h6.n:=zZ K6.r;refine go ?_;refine Vh (fun k=>h3.n<=k) 1 rfl rfl ?_;refine goW ?_;refine XM (X:=zB 1 h6) (R:=RI) sm zAM rfl (K6.r.ext (zG 1 h6)) ⟨dC.2,by show h6.n<h6.n+1;omega⟩ (fun e=>by have:=mZ _ e;omega) ω (by decide) ω (fun _ h=>h) ?_;rintro Y gz lit nY kY Kb ⟨w1,w2,w3,rfl,hw⟩ FL;replace nY:Y.n=h6.n+2:=nY;have tG:∀ k,k<h6.n->BJ (Value.slice r1 r2 r3)≠some k->Y.get k=h6.get k:=fun k hk hv=>kY k (by show k<h6.n+1;omega) ω hv;have AQ:Y.get gp=h6.get gp:=tG gp g2 fun e=>by have:=mZ _ e;omega
  have Kc:WB h2 Y (.pointer (some ⟨gp,0,none⟩)) [.slice t1 t2 t3,.slice f1 f2 f3,I 0,I El.length,.slice k1 k2 k3,.slice a1 a2 a3,.slice r1 r2 r3,I sm]:=⟨gp,g1,ω,rfl,AQ.trans g3⟩;have oYi:WB h2 (inC Y) (.pointer (some ⟨gp,0,none⟩)) [.slice t1 t2 t3,.slice f1 f2 f3,I 0,I El.length,.slice k1 k2 k3,.slice a1 a2 a3,.slice r1 r2 r3,I sm]:=Kc;have CS:h6.n+1<=w3:=hw;refine goW ?_;refine zQu (fun hh=> ?_) ?_ ?_
  ·have hh:h3.n<=gp:=hh;omega
  ·show gp<h6.n+1;omega
  refine V6 ?_;refine WU ?_;refine Vy (hB:=h2) (j:=6) (cs:=[.slice (some ⟨w3,0,none⟩) w1 w2]) (hl:=by simp) Kc lU ?_;intro X1 n1 lT iE wT Ff;replace iE:WB h2 X1 (.pointer (some ⟨gp,0,none⟩)) [.slice t1 t2 t3,.slice f1 f2 f3,I 0,I El.length,.slice k1 k2 k3,.slice a1 a2 a3,.slice (some ⟨w3,0,none⟩) w1 w2,I sm]:=iE;have Fg:WB h2 (inC X1) (.pointer (some ⟨gp,0,none⟩)) [.slice t1 t2 t3,.slice f1 f2 f3,I 0,I El.length,.slice k1 k2 k3,.slice a1 a2 a3,.slice (some ⟨w3,0,none⟩) w1 w2,I sm]:=iE;refine WU ?_;refine Vn (hB:=h2) (j:=7) (cs:=[I (sm+m)]) (hl:=by simp) iE lU ?_;intro H n2 i5 ju ml m2 ji;replace ju:WB h2 H (.pointer (some ⟨gp,0,none⟩)) [.slice t1 t2 t3,.slice f1 f2 f3,I 0,I El.length,.slice k1 k2 k3,.slice a1 a2 a3,.slice (some ⟨w3,0,none⟩) w1 w2,I (sm+m)]:=ju;have kH:∀ k,k≠gp->H.get k=Y.get k:=fun k hk=>(i5 k fun e=>by cases e;exact hk rfl).trans (lT k fun e=>by cases e;exact hk rfl);have tH:∀ k,k<h6.n->k≠gp->BJ (Value.slice r1 r2 r3)≠some k->H.get k=h6.get k:=fun k h1 h2 h3=>(kH k h2).trans (tG k h1 h3);have eH:WH h2 H:=⟨by have:=K6.e.n;omega,fun k hk=>(tH k (by have:=K6.e.n;omega) ω (fun e=>by have:=mZ _ e;omega)).trans (K6.e.get k hk),fun w=>ml (wT (FL fun k hk=>K6.e.wf w k (by have hk:h6.n+1<=k:=hk;omega))),m2.trans K6.e.mark,fun hm=>ji.trans (K6.e.wr hm)⟩;have K7:KT h2 H h3.n (.pointer (some ⟨gp,0,none⟩)) (.slice t1 t2 t3) (.slice f1 f2 f3) (.slice k1 k2 k3) (.slice a1 a2 a3) (.slice (some ⟨w3,0,none⟩) w1 w2) 0 (sm+m) El (rs++[sm]):=by
   refine⟨eH,⟨dC.1,ω⟩,ju,K6.pb,zAY zDr K6.k fun q hq=> ?_,zAY zAM K6.f fun q hq=> ?_,zAY zAM Kb fun q hq=> ?_,K6.ka,fun q h1 h2=> ?_,fun q h1 h2=> ?_⟩
   ·have h4:=zZ K6.k q hq;exact⟨ω,tH q h4.2 ω fun e=>K6.kr q hq e⟩
   ·have h4:=zZ K6.f q hq;exact⟨ω,tH q h4.2 ω fun e=>K6.ar q hq e⟩
   ·have h4:=zZ Kb q hq;have hq:w3=q:=Qm hq;subst hq;exact⟨ω,kH _ ω⟩
   ·have h4:=zZ K6.k q h1;have h2:w3=q:=Qm h2;omega
   ·have h4:=zZ K6.f q h1;have h2:w3=q:=Qm h2;omega
  have o17:=cT.ext eH;refine go ?_;refine VA (zHz K7 bT ω 1 i) ?_;rintro _ h8 ⟨iD,eE,K8⟩;refine go ?_;exact zA (i+1) ω ⟨Wy,ω,_,_,_,by rw[lj,iP,aL];exact K8⟩
 ·have bj:i=F.length:=ω
  subst bj;have AJ:((zt T F).take F.length).sum=zV T F:=by rw[Q3 ω];rfl
  rw[AJ]at K5;have oS5:=SlS.ext oS.sl K5.e;refine go ?_;refine VD (fun j=>(zW T F).length-j) (fun j t h6=>zC t 67=I j/\j<=(zW T F).length/\∃ vK vA vR,KT h2 h6 h3.n (.pointer (some ⟨gp,0,none⟩)) (.slice t1 t2 t3) (.slice f1 f2 f3) vK vA vR 0 (zV T F) ((0,0)::SY F.length++elS T (zW T F) j) (Zz T F)) 0 ?_ ?_
  ·exact⟨WJ,QQ _,_,_,_,by rw[show elS T (zW T F) 0=[]from rfl,GW];exact K5⟩
  rintro j t' h6 gW ⟨s67,hj,vK,vA,vR,K6⟩;have rG:=cT.ext K6.e;have RD:=SlS.ext oS.sl K6.e;refine go ?_;refine VE (fun eK=> ?_) (fun eK=> ?_)<;>simp only[DB]at eK
  ·have dY:j<(zW T F).length:=ω
   have cD:=rQ.out j dY;have jb:(0,0)::SY F.length++elS T (zW T F) (j+1)=((0,0)::SY F.length++elS T (zW T F) j)++List.replicate (yF T ((zW T F).getD j default).ty.toNat).length (2,(j:Int)):=by
    have e:elS T (zW T F) (j+1)=elS T (zW T F) j++List.replicate (yF T ((zW T F).getD j default).ty.toNat).length (2,(j:Int)):=yt _ j;rw[e,Qd]
   have fw:=zI0 gZ.out j hj;have dK:=gZ.out _ (zH dY);have hEl:((0,0)::SY F.length++elS T (zW T F) j).length<=41000:=by rw[QH,Qn,YF];omega
   obtain⟨RE,FM,pcS,Ps⟩:=yv (i:=j) RD dY;generalize(zW T F).getD j default=x at *;have FM:RE=[I x.fn,I x.nr,I x.ty]:=FM;subst FM;generalize(0,0)::SY F.length++elS T (zW T F) j=El at *;refine go ?_;refine WO.al ?_;intro p8 h7 e7 o8;refine go ?_;refine VG o8 e7 ?_;intro h8 e8 o8 _;have K8:=K6.ext e8;have E8:=E2.ext K8.e;have o18:=rG.ext e8;refine go ?_;refine VA (zEQ h8 _ T x.ty E8.st E8.sm.types E8.sm.parts hc cD E8.hm) ?_;rintro _ h9 ⟨⟨v9,rfl,o9⟩,e9⟩;obtain⟨l1,l2,l3,rfl⟩:=Wm.shape o9.sl;have K9:=K8.ext e9;have s9:=o9.sl;refine go ?_;refine VD (fun q=>(yF T x.ty.toNat).length-q) (fun q t gV=>zC t 82=I q/\q<=(yF T x.ty.toNat).length/\∃ vK vA vR,KT h2 gV h3.n (.pointer (some ⟨gp,0,none⟩)) (.slice t1 t2 t3) (.slice f1 f2 f3) vK vA vR 0 (zV T F) (El++List.replicate q (2,(j:Int))) (Zz T F)) 0 ?_ ?_
   ·exact⟨WJ,QQ _,_,_,_,by simpa using K9⟩
   rintro q EB gV iA ⟨s82,hq,iD,eE,gz,Kd⟩;refine go ?_;refine VE (fun bH=> ?_) (fun bH=> ?_)<;>simp only[DB]at bH
   ·have di:q<(yF T x.ty.toNat).length:=ω
    refine go ?_;refine VA (zHz Kd bT (by rw[QH,Gk];omega) 2 j) ?_;rintro _ jo ⟨vK2,vA2,RF⟩;refine go ?_;exact zA (q+1) ω ⟨Wy,ω,_,_,_,by rw[List.replicate_succ',<-Qd];exact RF⟩
   ·have lu:q=(yF T x.ty.toNat).length:=ω
    subst lu;refine go ?_;exact zA (j+1) ω ⟨Wy,ω,_,_,_,by rw[jb];exact Kd⟩
  ·have mK:j=(zW T F).length:=ω
   subst mK;have hnd:=zBz hs;have ah:=zIa (T:=T) (F:=F);have nb:WB h2 h6 (.pointer (some ⟨gp,0,none⟩)) [.slice t1 t2 t3,.slice f1 f2 f3,I 0,I (BK T F),vK,vA,vR,I (zV T F)]:=K6.own;obtain⟨k1,k2,k3,rfl⟩:=Ys K6.k;obtain⟨a1,a2,a3,rfl⟩:=Ys K6.f;obtain⟨r1,r2,r3,rfl⟩:=Ys K6.r;have hEb:BK T F<=100000:=by
    have fw:=zI0 gZ.out _ (QF (zW T F).length);unfold BK ZR;rw[QH,Qn,YF];omega
   have Rv:zV T F<=8000:=by
    have oh:=zAC ee;unfold zV;omega
   have oY:WB h2 (inC (zB 0 h6)) (.pointer (some ⟨gp,0,none⟩)) [.slice t1 t2 t3,.slice f1 f2 f3,I 0,I (BK T F),.slice k1 k2 k3,.slice a1 a2 a3,.slice r1 r2 r3,I (zV T F)]:=zu 0 nb;refine go ?_;refine VC 0 rfl rfl ?_;refine WU ?_;refine Vn (hB:=h2) (X:=zB 0 h6) (j:=2) (cs:=[I (zV T F+BK T F-1)]) (hl:=by simp) (nb.ext (zG 0 h6)) (by rw[K6.e.mark];exact bT) ?_;intro H n2 i5 ju ml m2 ji;have eH:WH h2 H:=⟨by rw[n2];exact K6.e.n,fun k hk=>(i5 k fun e=>by cases e;have:=K6.own.since' gp rfl;omega).trans (K6.e.get k hk),fun w=>ml (K6.e.wf w),m2.trans K6.e.mark,fun hm=>ji.trans (K6.e.wr hm)⟩;have xF:gp<h3.n:=K6.pb gp rfl;have dC:=K6.hb;replace n2:H.n=h6.n:=n2;have kk:∀ q,h3.n<=q->H.get q=h6.get q:=fun q hq=>i5 q fun e=>by cases e;omega
   rw[show zV T F+BK T F-1=Y0 T F by omega]at ju;have o0:=(show WB h2 H (.pointer (some ⟨gp,0,none⟩)) [.slice t1 t2 t3,.slice f1 f2 f3,I (Y0 T F),I (BK T F),.slice k1 k2 k3,.slice a1 a2 a3,.slice r1 r2 r3,I (zV T F)]from ju).since aE;have qk:=(zAY (h':=H) zDr K6.k fun q hq=>⟨by have:=zZ K6.k q hq;omega,kk q (zZ K6.k q hq).1⟩).sl;have qa:=(zBx (zAY (h':=H) zAM K6.f fun q hq=>⟨by have:=zZ K6.f q hq;omega,kk q (zZ K6.f q hq).1⟩) dC.1).sl;have qr:=(zBx (zAY (h':=H) zAM K6.r fun q hq=>⟨by have:=zZ K6.r q hq;omega,kk q (zZ K6.r q hq).1⟩) dC.1).sl;refine gr ?_;exact⟨⟨_,rfl,fun _=>⟨_,_,_,o0,qk,qa,qr,⟨_,_,_,rfl⟩,⟨_,_,_,rfl⟩,⟨_,_,_,rfl⟩⟩⟩,aE.trans eH⟩
def W4(h:WA)(X:Nat)(v:Value)(s:List Wa):Prop:=W8 h v s/\s.length<=1000/\∀ b,BJ v=some b->X<=b
def W4.keep{h h':WA}{X:Nat}{v:Value}{s:List Wa}(F:W4 h X v s)(hk:∀ k,X<=k->k<h.n->h'.get k=h.get k)(hn:h.n<=h'.n):W4 h' X v s:=by
 obtain⟨⟨cells,⟨h1,h2⟩,hR⟩,hl,hf⟩:=F;refine⟨⟨cells,⟨h1,h2.imp id ?_⟩,fun i a ha=>hR i a ha⟩,hl,hf⟩;rintro⟨g,off,row,rfl,hr,hc,hg⟩;have:=hf g rfl;refine⟨g,off,row,rfl,?_,hc,QG hg hn⟩;unfold z0 at hr |-;rw[hk g this hg];exact hr
def W4.ext{h h':WA}{X:Nat}{v:Value}{s:List Wa}(F:W4 h X v s)(e:WH h h'):W4 h' X v s:=F.keep (fun k _ hk=>e.get k hk) e.n
def W4.nil{h:WA}{X:Nat}:W4 h X (.slice none 0 0) []:=⟨W7.nil,QQ _,fun b e=>by cases e⟩
def W4.shape{h:WA}{X:Nat}{v:Value}{s:List Wa}(F:W4 h X v s):∃ a n k,v=.slice a n k:=zD F.1
def BL.far{h h':WA}{X:Nat}{v:Value}{s:List Wa}(m:BL h h' v s)(hX:X<=h.n)(hl:s.length<=1000):W4 h' X v s:=by
 refine⟨m.sl,hl,fun b e=> ?_⟩;obtain⟨c,hc,o⟩:=m;have:=(zZ o b e).1;omega
def RLs(X:Nat)(h:WA)(cs:List Value)(s:List Wa):Prop:=∃ v,cs=[v]/\W4 h X v s
abbrev BH(X:Nat)(h:WA)(v:Value)(L:List (List Wa)):Prop:=W7 1 (RLs X) h v L
def RLs.ext{X:Nat}{h h':WA}{cs:List Value}{s:List Wa}(r:RLs X h cs s)(e:WH h h'):RLs X h' cs s:=let⟨v,a,b⟩:=r;⟨v,a,b.ext e⟩
def BH.ext{X:Nat}{h h':WA}{v:Value}{L:List (List Wa)}(s:BH X h v L)(e:WH h h'):BH X h' v L:=W7.ext (fun _ _ r=>RLs.ext r e) s e
def BH.get{X:Nat}{h:WA}{v:Value}{L:List (List Wa)}{i:Nat}(s:BH X h v L)(hi:i<L.length):∃ w,W4 h X w (L.getD i [])/\(∃ a n k,w=.slice a n k)/\(∀ h',WH h h'->Wv h' v (i*1) [w]/\Wv (inC h') v (i*1) [w])/\zJQ v:=by
 obtain⟨cs,⟨w,rfl,F⟩,pc,hs⟩:=zq s hi;exact⟨w,F,F.shape,pc,hs⟩
def RNv(_:WA)(cs:List Value)(x:Int×Value):Prop:=cs=[I x.1,x.2]
def zDI(h h':WA)(cs:List Value)(x:Int×Value)(r:RNv h cs x):RNv h' cs x:=r
def NV(h:WA)(X:Nat)(vs:List (Int×Value))(N:List Wj):Prop:=vs.length=N.length/\∀ i,i<N.length->(vs.getD i default).1=(N.getD i default).to/\W4 h X (vs.getD i default).2 (N.getD i default).set
def NV.nil{h:WA}{X:Nat}:NV h X [] []:=⟨rfl,fun i hi=>by cases hi⟩
def NV.keep{h h':WA}{X:Nat}{vs:List (Int×Value)}{N:List Wj}(s:NV h X vs N)(hk:∀ k,X<=k->k<h.n->h'.get k=h.get k)(hn:h.n<=h'.n):NV h' X vs N:=⟨s.1,fun i hi=>⟨(s.2 i hi).1,(s.2 i hi).2.keep hk hn⟩⟩
def NV.snoc{h:WA}{X:Nat}{vs:List (Int×Value)}{N:List Wj}{x:Wj}{v:Value}(s:NV h X vs N)(F:W4 h X v x.set):NV h X (vs++[(x.to,v)]) (N++[x]):=by
 refine⟨by rw[QH,QH,s.1];rfl,fun i hi=> ?_⟩;rw[QH]at hi;have hl:=s.1;by_cases h:i<N.length
 ·rw[QD,Qg ω,QD,Qg h,<-QD,<-QD];exact s.2 i h
 ·have e:i=N.length:=by simp only[Qb]at hi;omega
  subst e;rw[QD,Qk ω,QD,Qk (QF _),hl,JI];exact⟨rfl,F⟩
def Bs(h:WA)(X g:Nat)(S:List (List Wa)):Prop:=∃ vs:List Value,h.get g=some (.row vs true 0)/\vs.length=S.length/\∀ i,i<S.length->W4 h X (vs.getD i undef) (S.getD i [])
def Bs.keep{h h':WA}{X g:Nat}{S:List (List Wa)}(r:Bs h X g S)(hg:h'.get g=h.get g)(hk:∀ k,X<=k->k<h.n->h'.get k=h.get k)(hn:h.n<=h'.n):Bs h' X g S:=by
 obtain⟨vs,a,b,c⟩:=r;exact⟨vs,hg.trans a,b,fun i hi=>(c i hi).keep hk hn⟩
def Bs.ext{h h':WA}{X g:Nat}{S:List (List Wa)}(r:Bs h X g S)(hg:g<h.n)(e:WH h h'):Bs h' X g S:=r.keep (e.get g hg) (fun k _ hk=>e.get k hk) e.n
def Bs.sl{h:WA}{X g:Nat}{S:List (List Wa)}(r:Bs h X g S)(hg:g<h.n):BH X h (.slice (some ⟨g,0,none⟩) S.length 1) S:=by
 obtain⟨vs,a,b,c⟩:=r;refine⟨vs,Wm.own (own:=true) (lo:=0) hg a ω,fun i s hs=> ?_⟩;have hi:=(QS.1 hs).1;refine⟨vs.getD i undef,?_,?_⟩
 ·rw[G7,GB ω,Qv,GK,QD,QB ω];rfl
 ·have:=c i hi;rwa [QD (l:=S),hs]at this
def Bs.put{h H:WA}{X g i:Nat}{S:List (List Wa)}{s:List Wa}{v:Value}{vs:List Value}(r2:vs.length=S.length)(r3:∀ i,i<S.length->W4 h X (vs.getD i undef) (S.getD i []))(hg:g<X)(F:W4 h X v s)(hi:i<S.length)(hH:H.get g=some (.row (vs.set i v) true 0))(hk:∀ k,k<h.n->k≠g->H.get k=h.get k)(hn:h.n<=H.n):Bs H X g (S.set i s):=by
 have fz:∀ k,X<=k->k<h.n->H.get k=h.get k:=fun k h1 h2=>hk k h2 ω;refine⟨_,hH,by rw[Gh,Gh];exact r2,fun j hj=> ?_⟩;rw[Gh]at hj;by_cases e:j=i
 ·subst e;rw[QD,JJ ω,QD,JJ hi];exact F.keep fz hn
 ·rw[QD,Ja (fun h=>e h.symm),QD,Ja (fun h=>e h.symm),<-QD,<-QD];exact(r3 j hj).keep fz hn
section
variable {h0 h:WA}{p vt vf vK vA vR:Value}{T:List WF}{F:List We}
def zJo(K:TE h0 h p vt vf vK vA vR T F)(n:Int)(hn:0<=n/\n<=1000000)(hN:0<=Y0 T F/\Y0 T F<=1000000)(hE:0<=BK T F/\BK T F<=1000000):
  G0 77 [p,I n] h fun r h'=>r=I (Z2 T F n)/\h=h':=by
 obtain⟨⟨k1,k2,k3,rfl⟩,⟨a1,a2,a3,rfl⟩,⟨r1,r2,r3,rfl⟩⟩:=K.sh;have own:=K.own;obtain⟨gp,g1,g2,rfl,g3⟩:=id own;have oY:WB h0 (inC h) (.pointer (some ⟨gp,0,none⟩)) [vt,vf,I (Y0 T F),I (BK T F),.slice k1 k2 k3,.slice a1 a2 a3,.slice r1 r2 r3,I (zV T F)]:=own;refine en ?_;refine rt ?_;exact⟨rfl,rfl⟩
def zQv(h:WA)(n:Int)(hn:0<=n/\n<1048576)(hm:h.mark<=h.n):G0 75 [I n] h fun r h'=>BL h h' r (zCZ n)/\WH h h':=by
 refine en ?_;refine WO.bl [n] ?_;intro v h1 e1 o1;refine go ?_;refine VA (zTR h1 v [n] o1.sl (by simp) (by rw[e1.mark];exact QM hm e1.n)) ?_;rintro _ h2 ⟨⟨w,t,rfl,m,hu,_⟩,e2⟩;have he:ofE [n]=0:=zJN fun k hk=>by rw[QO]at hk;subst hk;exact hn
 have:=zT5 hn (hu he);subst this;have m':BL h h2 w (zCZ n):=let⟨b,hb,o⟩:=m;⟨b,QM e1.n hb,o⟩;obtain⟨a,c,k,rfl⟩:=zD m'.sl;refine gr ?_;exact⟨m',e1.trans e2⟩
def zSZ(K:TE h0 h p vt vf vK vA vR T F){n:Int}(hn:0<=n/\n<BK T F):∃ cs,cs=[.int .u8 (zAE T F n)]/\Wv h vK (n.toNat*1) cs/\n.toNat<((ZR T F).map (·.1)).length:=by
 have h1:n.toNat<(ZR T F).length:=by unfold BK at hn;omega
 obtain⟨cs,hR,pc,_⟩:=yv (i:=n.toNat) K.k (by rw[Qr];exact h1);rw[show((ZR T F).map (·.1)).getD n.toNat default=zAE T F n from zAO h1]at hR;exact⟨cs,hR,pc,by rw[Qr];exact h1⟩
def zED{n:Int}(hn:0<=n/\n<BK T F):((ZR T F).map (·.2)).getD n.toNat 0=yW T F n/\n.toNat<((ZR T F).map (·.2)).length:=by
 have h1:n.toNat<(ZR T F).length:=by unfold BK at hn;omega
 exact⟨zAO h1,by rw[Qr];exact h1⟩
def zDG(K:TE h0 h p vt vf vK vA vR T F)(hm:h.mark<=h.n)(TT:SF h){v:Value}{s:List Wa}(k:W8 h v s)(hl:s.length<=1000)(ok:By T F s)(kd:Int):
  G0 76 [p,v,.int .u8 kd] h fun r h'=>WP h h' r (ye T F s kd)/\WH h h':=by
 obtain⟨⟨k1,k2,k3,rfl⟩,⟨a1,a2,a3,rfl⟩,⟨r1,r2,r3,rfl⟩⟩:=K.sh;have nj:zv (-1) s=true:=(YE ok.ok.bd).2 ok.ok;have hL:=zM2 h v s k TT ω hm;rw[nj,QJ rfl,show zBo true=0 from rfl]at hL;have lj:=fun n hn=>And.intro (((yw ok.ok).1 hn).range ok.ok).1 (ok.el n hn);have aO:(zQ s).length<=64000:=by
  have h1:∀ q:List Wa,(zQ q).length<=64*q.length:=fun q=>by
   induction q with
   |nil=>simp[zQ]
   |cons w q ih=>
    have h2:=JK w.bits.testBit (List.range 64);rw[List.length_range]at h2;have e:zQ (w::q)=(Y5 w.bits).map (fun k:Nat=>64*w.pos+(k:Int))++zQ q:=rfl;rw[e,QH,Qr,Qn];unfold Y5;omega
  have:=h1 s;omega
 have hf:∀ i,i<(zQ s).length->((zQ s).take (i+1)).filter (fun n=>decide (zAE T F n=kd))=((zQ s).take i).filter (fun n=>decide (zAE T F n=kd))++(if zAE T F ((zQ s).getD i 0)=kd then[(zQ s).getD i 0]else[]):=fun i hi=>by
  rw[yy hi,List.filter_append];congr 1;rw[show(zQ s).getD i default=(zQ s).getD i 0 from rfl,List.filter_cons,List.filter_nil];simp only[Qc]
 have rP:∀ i,i<(zQ s).length->0<=(zQ s).getD i 0/\(zQ s).getD i 0<BK T F:=fun i hi=>lj _ (zd hi);unfold ye;generalize hN:zQ s=N at *;refine en ?_;refine VA hL ?_;rintro _ h1 ⟨⟨w,rfl,o1⟩,e1⟩;have K1:=K.ext e1;obtain⟨w1,w2,w3,rfl⟩:=Wm.shape o1.sl;refine go ?_;refine VD (fun i=>N.length-i) (fun i t h2=>zC t 18=I i/\i<=N.length/\WH h1 h2/\∃ a b c,zC t 6=.slice a b c/\WP h1 h2 (.slice a b c) ((N.take i).filter fun n=>decide (zAE T F n=kd))) 0 ?_ ?_
 ·exact⟨WJ,QQ _,WH.refl _,_,_,_,WJ,.inl ⟨rfl,rfl⟩⟩
 rintro i t h2 ab ⟨s18,hi,e2,b1,b2,b3,s6,o2⟩;have s2:=o1.sl.ext e2;have K2:=K1.ext e2;have dI:=K2.own;refine F0 ?_ ?_<;>intro hb
 ·have af:i<N.length:=ω
  have hx:=rP i af;have cI:=hf i af;have aD:((N.take i).filter fun n=>decide (zAE T F n=kd)).length<=64000:=QM (JK _ _) (by rw[Qp];omega);generalize(N.take i).filter (fun n=>decide (zAE T F n=kd))=A at *;obtain⟨cs,rfl,pc,lq⟩:=zSZ K2 hx;have AS:=K2.k;by_cases hkd:zAE T F (N.getD i 0)=kd
  ·rw[QJ hkd]at cI;refine go ?_;refine WO.bl [N.getD i 0] ?_;intro v4 h4 e4 o4;have cB:=e2.trans e4;refine go ?_;refine Uz (o2.ext e4) o4.sl cB (by simp) (by simp at aD |-;omega) ?_;intro v5 h5 e5 o5 u5;obtain⟨g5,_,_,rfl,_⟩:=id o5;refine go ?_;exact zA (i+1) ω ⟨Wy,ω,e5,_,_,_,WJ,by rw[cI];exact .inr o5⟩
  ·rw[QC hkd,GW]at cI;refine go ?_;exact zA (i+1) ω ⟨Wy,ω,e2,_,_,_,WJ,by rw[cI];exact o2⟩
 ·have bj:i=N.length:=ω
  subst bj;rw[Qs]at o2;refine gr ?_;exact⟨o2.since e1,e1.trans e2⟩
end
def zCA:∀ {l:List Int} {a b:Int},l.Pairwise (·<·)->(∀ x∈l,a<=x/\x<b)->a<=b->(l.length:Int)<=b-a
 |[],a,b,_,_,h=>by simp;omega
 |y::l,a,b,hp,hx,h=>by
  have h1:=hx y (QR ..);have h2:=zCA (l:=l) (a:=y+1) (b:=b) (GT.1 hp).2 (fun x h=>⟨by have:=(GT.1 hp).1 x h;omega,(hx x (QW _ h)).2⟩) ω;rw[Qn];omega
section
variable {T:List WF}{F:List We}
def zEL{n:Int}(hn:0<=n/\n<BK T F):(n=0/\zAE T F n=0)\/(1<=n/\n<=F.length/\zAE T F n=1/\yW T F n=n-1)\/(F.length<n/\zAE T F n=2/\0<=yW T F n/\yW T F n<(zW T F).length):=by
 have h1:n.toNat<(ZR T F).length:=by unfold BK at hn;omega
 have hF:∀ k i,i<k->(SY k)[i]?=some (1,(i:Int)):=fun k=>by
  induction k with
  |zero=>intro i hi;omega
  |succ k ih=>
   intro i hi;have e:SY (k+1)=SY k++[(1,(k:Int))]:=yt _ k;rw[e];by_cases h:i<k
   ·rw[Qg (by rw[YF];exact h)];exact ih i h
   ·have:i=k:=ω
    subst this;rw[Qk (by rw[YF];exact QF _),YF,JI];rfl
 unfold zAE yW;rw[QD];by_cases h0:n=0
 ·subst h0;exact .inl ⟨rfl,rfl⟩
 ·by_cases h2:n<=F.length
  ·refine .inr (.inl ⟨ω,h2,?_⟩);have e:(ZR T F)[n.toNat]?=some (1,n-1):=by
    unfold ZR;rw[Qg (by rw[Qn,YF];omega),show n.toNat=(n-1).toNat+1 by omega,List.getElem?_cons_succ,hF _ _ ω];rw[show((n-1).toNat:Int)=n-1 by omega]
   rw[e];exact⟨rfl,rfl⟩
  ·refine .inr (.inr ⟨ω,?_⟩);have hm:(ZR T F)[n.toNat]?.getD default∈elS T (zW T F) (zW T F).length:=by
    have e:(ZR T F)[n.toNat]?=(elS T (zW T F) (zW T F).length)[n.toNat-(1+F.length)]?:=by
     unfold ZR;rw[Qk (by rw[Qn,YF];omega),Qn,YF,Nat.add_comm]
    rw[QB h1]at e;rw[QB h1];exact Gb e.symm
   unfold elS at hm;obtain⟨j,hj,hm⟩:=GA.1 hm;rw[List.eq_of_mem_replicate hm];rw[Q4]at hj;exact⟨rfl,by simp only;omega,by simp only;omega⟩
def YA{s:List Wa}{k:Int}(ok:By T F s):∀ n∈ye T F s k,(0<=n/\n<BK T F)/\zAE T F n=k:=fun n hn=>by
 unfold ye at hn;obtain⟨h1,h2⟩:=Gp.1 hn;exact⟨⟨(((yw ok.ok).1 h1).range ok.ok).1,ok.el n h1⟩,by simpa using h2⟩
def zFu{s:List Wa}{k:Int}(ok:By T F s):(ye T F s k).Pairwise (·<·):=List.Pairwise.filter _ (zAk ok.ok)
def zBH{s:List Wa}{k:Int}(ok:By T F s):((ye T F s k).length:Int)<=BK T F:=by
 have:=zCA (zFu (k:=k) ok) (fun n hn=>(YA ok n hn).1) (by unfold BK;omega);omega
def zHW{s:List Wa}(ok:By T F s):(ye T F s 1).length<=F.length:=by
 have:=zCA (a:=1) (b:=F.length+1) (zFu (k:=1) ok) (fun n hn=>by
  obtain⟨h1,h2⟩:=YA ok n hn;rcases zEL h1 with h|h|h
  ·omega
  ·omega
  ·omega) ω
 omega
def zBi{α:Type}(g:Int->List α)(m:Nat):∀ {l:List Int},(∀ x∈l,(g x).length<=m)->(l.flatMap g).length<=m*l.length
 |[],_=>by simp
 |y::l,h=>by
  have h1:=zBi g m (l:=l) fun x hx=>h x (QW _ hx);have h2:=h y (QR ..);rw[List.flatMap_cons,QH,Qn,Nat.mul_succ];omega
def zMa{α:Type}(g:Nat->α)(n:Nat):((List.range n).flatMap fun i=>[g i]).length=n:=by
 induction n with
 |zero=>rfl
 |succ n ih=>rw[yt,QH,ih];rfl
def zFA{α:Type}(g:Int->List α){l:List Int}{i:Nat}(hi:i<l.length):(l.take (i+1)).flatMap g=(l.take i).flatMap g++g (l.getD i 0):=by
 rw[yy hi,List.flatMap_append];congr 1;rw[List.flatMap_cons,List.flatMap_nil,GW];rfl
end
def W4.at'{h h':WA}{X:Nat}{v:Value}{s:List Wa}(F:W4 h X v s)(hk:s≠[]->∀ b,BJ v=some b->b<h.n->b<h'.n/\h'.get b=h.get b):W4 h' X v s:=by
 obtain⟨⟨cells,⟨h1,h2⟩,hR⟩,hl,hf⟩:=F;refine⟨⟨cells,⟨h1,?_⟩,fun i a ha=>hR i a ha⟩,hl,hf⟩;rcases h2 with h2|⟨g,off,row,rfl,hr,hc,hg⟩
 ·exact .inl h2
 ·by_cases hs:s=[]
  ·subst hs;exact .inl ⟨rfl,.inr ⟨_,_,rfl⟩⟩
  ·obtain⟨k1,k2⟩:=hk hs g rfl hg;refine .inr ⟨g,off,row,rfl,?_,hc,k1⟩;unfold z0 at hr |-;rw[k2];exact hr
def W4.upB{h h':WA}{X:Nat}{v w:Value}{s:List Wa}(F:W4 h X v s)(u:UpB w h h')(d:s≠[]->WY w v):W4 h' X v s:=F.at' fun hs b hb hn=>⟨QG hn u.1,u.2 b hn fun e=>d hs b e hb⟩
def W4.inn{h:WA}{X:Nat}{v:Value}{s:List Wa}(F:W4 h X v s)(hs:s≠[]):∀ b,BJ v=some b->b<h.n:=fun b hb=>by
 obtain⟨⟨cells,⟨h1,h2⟩,hR⟩,hl,hf⟩:=F;rcases h2 with⟨h2,_⟩|⟨g,off,row,rfl,hr,hc,hg⟩
 ·exact absurd (Gq h2) hs
 ·cases hb;exact hg
structure NdV(hB h:WA)(X:Nat)(v:Value)(vs:List (Int×Value))(N:List Wj):Prop where
 o:WR 2 RNv hB.n h v vs
 s:NV h X vs N
 d:∀ i,i<N.length->(N.getD i default).set≠[]->WY v (vs.getD i default).2
def Bu(hB h:WA)(X:Nat)(v:Value)(N:List Wj):Prop:=∃ vs,NdV hB h X v vs N
def Bu.nil{hB h:WA}{X:Nat}:Bu hB h X (.slice none 0 0) []:=⟨[],WR.nil,NV.nil,fun i hi=>by cases hi⟩
def Bu.since{h0 hB h:WA}{X:Nat}{v:Value}{N:List Wj}(D:Bu hB h X v N)(e:WH h0 hB):Bu h0 h X v N:=let⟨vs,a⟩:=D;⟨vs,a.o.base e.n,a.s,a.d⟩
def Bu.shape{hB h:WA}{X:Nat}{v:Value}{N:List Wj}(D:Bu hB h X v N):∃ a n k,v=.slice a n k:=let⟨_,a⟩:=D;Ys a.o
def Bu.old{h0 hB h:WA}{X X0:Nat}{v w:Value}{N:List Wj}{s:List Wa}(D:Bu hB h X v N)(F:W4 h0 X0 w s)(e:WH h0 hB)(e0:WH hB h):s≠[]->∀ q,BJ w=some q->q≠h.n/\BJ v≠some q:=fun hs q hq=>by
 obtain⟨vs,D⟩:=D;have h1:=F.inn hs q hq;have h2:=e.n;have h3:=e0.n;exact⟨ω,fun h=>by have:=(zZ D.o q h).1;omega⟩
def zO0{hB h H:WA}{X:Nat}{v v' w:Value}{vs:List (Int×Value)}{N:List Wj}{x:Wj}(D:NdV hB h X v vs N)(u:UpB v h H)(o':WR 2 RNv hB.n H v' (vs++[(x.to,w)]))(Co:∀ q,BJ v'=some q->h.n<=q)(F:W4 H X w x.set)(hw:x.set≠[]->WY v' w):Bu hB H X v' (N++[x]):=by
 have s1:NV H X vs N:=⟨D.s.1,fun i hi=>⟨(D.s.2 i hi).1,(D.s.2 i hi).2.upB u (D.d i hi)⟩⟩;refine⟨_,o',s1.snoc F,fun i hi hs=> ?_⟩;have hl:=s1.1;rw[QH]at hi;by_cases h1:i<N.length
 ·rw[QD,Qg h1,<-QD]at hs;rw[QD,Qg ω,<-QD];intro q h2 h3;have h4:=Co q h2;have h5:=(D.s.2 i h1).2.inn hs q h3;omega
 ·have e:i=N.length:=by simp only[Qb]at hi;omega
  subst e;rw[QD,Qk (QF _),JI]at hs;rw[QD,Qk ω,<-hl,JI];exact hw hs
section
variable {P:Program}{tab:Ws}{t:WG Value}{ds:List Deferred}{rd:Option Nat}
def VZ{d1 d2 d3 m N0 X0:Nat}{cl:Bool}{hB hS X:WA}{v w:Value}{N:List Wj}{zero:List Value}{y z:Operand}{K:WL->WM->WA->Prop}(x:Wj)(D:Bu hB hS X0 v N)(e0:WH hB hS)(hm:hS.mark<=hB.n)(eX:WH (inC (zB 1 hS)) X)(F:W4 X X0 w x.set)(hw:x.set≠[]->∀ q,BJ w=some q->q≠hS.n/\BJ v≠some q)(hl:N.length<=100000)
  (k:∀ H v' lit,WH hB H->Bu hB H X0 v' (N++[x])->UpB v hS H->(∃ a n k,v'=.slice a n k)->K .normal ⟨((t.set d1 lit).set d2 v').set d3 v',ds,rd⟩ H)
  (hx:WN t y (.agg #[I x.to,w]):=by exact zO) (mc:(Value.agg #[I x.to,w]).cells=[I x.to,w].toArray:=by rfl) (h1:zK [I x.to,w]=true:=by rfl) (hz:zero.length=2:=by rfl) (hy:∀ u,WN (t.set d1 u) z v:=by intro u;exact zO) (gg:m=hS.mark:=by rfl):
  Wb P tab m N0 [(⟨some d1,none,.buildSlice 1 2 zero [(0,2,y)]⟩,[]),(⟨some d2,none,.append 2 z (.tmp d1)⟩,[]),(⟨some d3,none,.mov (.tmp d2)⟩,[])] hS.n cl ⟨t,ds,rd⟩ (inC X) (SJ K hS):=by
 subst gg;obtain⟨vs,D⟩:=D;have C0:hS.n+1<=X.n:=eX.n;have eC:∀ k,k<hS.n->X.get k=hS.get k:=fun k hk=>eX.get k (by show k<hS.n+1;omega);have gf:=zZ D.o;have xS:vs.length<=100000:=by rw[D.s.1];exact hl
 have oX:WR 2 RNv hB.n X v vs:=zAY zDI D.o fun g hg=>⟨by have:=gf g hg;omega,eC g (gf g hg).2⟩;have kM:=e0.n;refine XO (R:=RNv) (x.to,w) zDI rfl oX ⟨kM,ω⟩ (fun e=>by have:=gf _ e;omega) hm (by decide) xS ?_ hx mc rfl h1 hz hy;rintro Y v' lit nY kY oY ⟨n',k',q',rfl,hq⟩ wY;rw[Wb,QC (show ¬Nat.beq (zE (Wz.mov (.tmp d2))) 3=true from Bool.noConfusion)];refine WO.op (.slice (some ⟨q',0,none⟩) n' k') (inC Y) rfl (by simp only[WK,ev,zg,Qz];rfl) ?_;refine WO.nil (zMJ ?_);have kS:∀ k,k<hS.n->BJ v≠some k->Y.get k=hS.get k:=fun k hk hv=>(kY k ω ω hv).trans (eC k hk);have FY:W4 Y X0 w x.set:=F.at' fun hs b hb hn=>⟨ω,kY b hn (hw hs b hb).1 (hw hs b hb).2⟩;refine k (z9 hS Y) _ _ ⟨by show hB.n<=Y.n;omega,fun k hk=>(kS k ω (fun e=>by have:=gf k e;omega)).trans (e0.get k hk),fun w=> ?_,e0.mark,fun de=>e0.wr de⟩ (zO0 D ⟨by show hS.n<=Y.n;omega,kS⟩ oY (fun q ly=> ?_) FY fun hs q h1 h2=> ?_) ⟨by show hS.n<=Y.n;omega,kS⟩ ⟨_,_,_,rfl⟩
 ·exact wY (eX.wf fun k hk=>e0.wf w k (by have hk:hS.n+1<=k:=hk;omega))
 ·cases ly;show hS.n<=q';omega
 ·cases h1;have:=F.inn hs _ h2;have h3:X.n<=q':=hq;have h4:q'<X.n:=this;omega
end
end Go.Proofs.YtndffgfnndoifaaGreatDoor
