/- Walks of functions, plain laws; proves no statement. -/
import Derived.Test.YtmejfcakhpihlaaGreatDoorJi
set_option linter.all false
set_option maxHeartbeats 4000000
set_option maxRecDepth 100000
namespace Go.Proofs.YtmejfcakhpihlaaGreatDoor
open Go.Am
theorem _root_.Go.Am.OwnR.lt{α:Type}{c b:Nat}{R:WA->List Value->α->Prop}{h:WA}{v:Value}{xs:List α}(o:OwnR c R b h v xs){g n k:Nat}(e:v=.slice (some ⟨g,0,none⟩) n k):b<=g/\g<h.n:=by
 rcases o with⟨e2,_⟩|⟨g1,_,_,g2,g3,e2,_⟩
 ·rw[e2]at e;cases e
 ·rw[e2]at e;cases e;exact⟨g2,g3⟩
theorem zBu{hb h h':WA}{p w:Value}{l:List Int}(o:WL hb h w l)(u:Wm p h h')(hp:∀ g,p=.pointer (some ⟨g,0,none⟩)->g<hb.n):WL hb h' w l:=by
 rcases o with o|⟨g,g1,g2,g3,g4⟩
 ·exact .inl o
 ·exact .inr ⟨g,g1,QI g2 u.1,g3,(u.2 g g2 (fun e=>by have:=hp g e;omega)).trans g4⟩
theorem zCS{hb h:WA}{w:Value}{l:List Int}(o:WL hb h w l):∃ a n k,w=.slice a n k:=Wi.shape o.sl
theorem zEU{h0 h:WA}{p:Value}{cs:List Value}(o:WB h0 h p cs):∀ g,p=.pointer (some ⟨g,0,none⟩)->h0.n<=g/\g<h.n:=by
 obtain⟨g,a,b,rfl,_⟩:=o;intro g' e;cases e;exact⟨a,b⟩
theorem zQa{hb h:WA}{x:WE}{w:Value}(o:WL hb h w x.parts)(hl:(x.parts.length:Int)<=9223372036854775807):Ba RTy h [.int .u8 x.kind,I x.elem,I x.many,w] x (fun k=>hb.n<=k/\k<h.n):=
 fun hx hk hn=>⟨w,rfl,o.depI (fun k o a b e=>hk k o ⟨a,b⟩ e) hn,hl⟩
theorem zOV{hb h:WA}{x:Wj}{va vf:Value}(oa:WL hb h va x.args)(of:WL hb h vf x.frm)(br:(x.args.length:Int)<=1152921504606846976)(dZ:(x.frm.length:Int)<=1152921504606846976)(ho:0<=x.op/\x.op<=255):Ba W8 h [.int .u8 x.op,I x.ty,I x.a,I x.b,I x.n,va,vf] x (fun k=>hb.n<=k/\k<h.n):=
 fun hx hk hn=>⟨va,vf,rfl,oa.depI (fun k o a b e=>hk k o ⟨a,b⟩ e) hn,of.depI (fun k o a b e=>hk k o ⟨a,b⟩ e) hn,br,dZ,ho⟩
theorem zPM{b:Nat}{h:WA}{x:Wc}{vi:Value}(o:OwnR 7 W8 b h vi x.ins)(hl:(x.ins.length:Int)<=1152921504606846976):Ba Bc h [vi,.int .u8 x.fin.kind,I x.fin.a,I x.fin.to,I x.fin.aE] x (fun k=>b<=k/\k<h.n):=
 fun hx hk hn=>⟨vi,rfl,o.dep (fun k o a b e=>hk k o ⟨a,b⟩ e) hn,hl⟩
theorem zQs{b:Nat}{h:WA}{x:Wa}{vb:Value}(o:OwnR 5 Bc b h vb x.blocks)(hl:(x.blocks.length:Int)<=1152921504606846976):Ba RFn h [I x.sig,vb] x (fun k=>b<=k/\k<h.n):=
 fun hx hk hn=>⟨vb,rfl,o.dep (fun k o a b e=>hk k o ⟨a,b⟩ e) hn,hl⟩
theorem zAF{α:Type}{c b:Nat}{R:WA->List Value->α->Prop}{h:WA}{v:Value}{xs:List α}(o:OwnR c R b h v xs):∃ a n k,v=.slice a n k:=zD o.sl
theorem zAx{α:Type}[Inhabited α]{l:List α}{i:Nat}(h:i<l.length):l.take (i+1)=l.take i++[l.getD i default]:=by
 rw[Q1,QB h];simp[List.getD,QB h]
theorem zLC(h:WA)(vt:Value)(T:List WE)(st:Wu h vt T)(hT:T.length<=1000)(hp:∀ x∈T,x.parts.length<=1000):
  WC Tryz.prog tb 23 [vt] h fun r h'=>OwnR 4 RTy h.n h' r T/\Ext h h':=by
 refine en ?_;replace hp:=WK.mk hp;refine go ?_;refine VD (fun i=>T.length-i) (fun i t h1=>Ext h h1/\zC t 4=I i/\i<=T.length/\∃ w,zC t 3=w/\OwnR 4 RTy h.n h1 w (T.take i)) 0 ?_ ?_
 ·exact⟨Ext.refl _,WH,QK _,_,WH,OwnR.nil⟩
 rintro i t h1 ab ⟨e1,s4,hi,w,s3,ow⟩;have bL:=st.ext e1;refine go ?_;refine VE (fun hc=> ?_) (fun hc=> ?_)<;>simp only[DB]at hc
 ·have ae:i<T.length:=by omega
  obtain⟨cs,⟨va,rfl,sa,br⟩,pc,hs⟩:=yM bL ae;have bD:=hp.out _ (zE (l:=T) ae);have au:=zAx (l:=T) ae;generalize T.getD i default=x at *;obtain⟨aa,an,ak,rfl⟩:=yo sa;refine go ?_;refine WO.al ?_;intro p h2 e2 o2;have gz:=zEU o2;refine go ?_;refine VH o2 e2 ?_;intro h3 e3 o3 u3;have i7:=sa.ext e3;have d7:h2.n<=h3.n:=u3.1;refine go ?_;refine WO.bl [] ?_;intro v4 h4 e4 o4;have o3:=o3.ext e4;have Ah:=i7.ext e4;refine go ?_;refine VN (h0:=h3) (.inr o4) Ah e4 (by simp;omega) ?_;intro v5 h5 e5 o5;rw[GJ]at o5;obtain⟨b5,n5,k5,rfl⟩:=zCS o5;have o3:=(by assumption:WB h1 h3 p _).ext e5;refine go ?_;refine VX (cs:=[.slice b5 n5 k5]) (j:=3) (hl:=by simp[zh]) o3 (e3.trans e5) ?_;intro h6 e6 o6 u6;have PU:=zBu o5 u6 (fun g e=>by have:=(gz g e).2;omega);have eu:=e1.trans e6;refine go ?_;have HC:h3.n<=h6.n:=by have:=e5.n;have:=u6.1;omega
  have ju:h1.n<=h3.n:=e3.n;refine V7 x (fun k=>h3.n<=k/\k<h6.n) (ow.ext e6) eu (QE _) (by have:=e1.n;omega) (by decide) (by rw[Qn];omega) (zQa PU br) (fun k hk=>⟨by have:=e1.n;omega,hk.2⟩) (fun g n k e hk=>by have:=(ow.lt e).2;omega) ?_;intro v7 h7 lit e7 o7 _ _;refine go ?_;exact zA (i+1) (by omega) ⟨e7,Wn,by omega,v7,WH,by rw[au];exact o7⟩
 ·have aK:i=T.length:=by omega
  subst aK;rw[Qg]at ow;refine gr ?_;exact⟨ow,e1⟩
theorem zK4(h:WA)(vb:Value)(L:List Wc)(sb:Wv h vb L)(hL:L.length<=1000)(hI:∀ b∈L,b.ins.length<=1000)(hX:∀ b∈L,∀ x∈b.ins,x.args.length<=20/\x.frm.length<=20):
  WC Tryz.prog tb 24 [vb] h fun r h'=>OwnR 5 Bc h.n h' r L/\Ext h h':=by
 refine en ?_;replace hI:=WK.mk hI;replace hX:=WK.mk hX;refine go ?_;refine VD (fun i=>L.length-i) (fun i t h1=>Ext h h1/\zC t 4=I i/\i<=L.length/\∃ w,zC t 3=w/\OwnR 5 Bc h.n h1 w (L.take i)) 0 ?_ ?_
 ·exact⟨Ext.refl _,WH,QK _,_,WH,OwnR.nil⟩
 rintro i t h1 ab ⟨e1,s4,hi,w,s3,ow⟩;have mu:=Wv.ext sb e1;refine go ?_;refine VE (fun hc=> ?_) (fun hc=> ?_)<;>simp only[DB]at hc
 ·have ae:i<L.length:=by omega
  obtain⟨cs,⟨vi,rfl,si,fc⟩,pc,hs⟩:=zq mu ae;have HD:=hI.out _ (zE (l:=L) ae);have wF:=hX.out _ (zE (l:=L) ae);have au:=zAx (l:=L) ae;obtain⟨B,ud⟩:∃ B,L.getD i default=B:=⟨_,rfl⟩;rw[ud]at si fc HD wF au pc;replace wF:=WK.mk wF;have pf:Wp h1 vb (i*5) [vi,.int .u8 B.fin.kind,I B.fin.a,I B.fin.to,I B.fin.aE]:=pc;obtain⟨ia,iN,ik,rfl⟩:=zD si;refine go ?_;refine WO.al ?_;intro p h2 e2 o2;have gz:=zEU o2;refine go ?_;refine VH o2 e2 ?_;intro h3 e3 o3 u3;have vB:h2.n<=h3.n:=u3.1;refine go ?_;refine VD (fun k=>B.ins.length-k) (fun k t h4=>Ext h1 h4/\h3.n<=h4.n/\zC t 6=I k/\k<=B.ins.length/\∃ v',WB h1 h4 p [v',.int .u8 B.fin.kind,I B.fin.a,I B.fin.to,I B.fin.aE]/\OwnR 7 W8 h3.n h4 v' (B.ins.take k)) 0 ?_ ?_
  ·exact⟨e3,QE _,WH,QK _,_,o3,OwnR.nil⟩
  rintro k t2 h4 aZ ⟨e4,Kp,s6,hk,v',o4,ov⟩;have ry:=Wv.ext mu e4;obtain⟨Lr,ki,AF,vU⟩:=zq ry ae;rw[ud]at ki;obtain⟨vi4,rfl,F8,PV⟩:=ki;obtain⟨tJ,Dv,tI,rfl⟩:=zAF ov;refine go ?_;refine VE (fun hd=> ?_) (fun hd=> ?_)<;>simp only[DB]at hd
  ·have bK:k<B.ins.length:=by omega
   obtain⟨Hl,⟨xa,xf,rfl,cr,cz,br,dZ,ho⟩,pU,Dh⟩:=zq F8 bK;have Db:=wF.out _ (zE (l:=B.ins) bK);have uf:=zAx (l:=B.ins) bK;generalize B.ins.getD k default=x at *;obtain⟨a1,a2,a3,rfl⟩:=yo cr;obtain⟨f1,f2,f3,rfl⟩:=yo cz;refine go ?_;refine WO.al ?_;intro q h5 e5 o5;have HE:=zEU o5;have FF:=o4.ext e5;refine go ?_;refine VH o5 e5 ?_;intro h6 e6 o6 u6;have HC:h5.n<=h6.n:=u6.1;have PW:=e6.n;have HF:=cr.ext e6;have PX:=cz.ext e6;have PY:=o4.ext e6;refine go ?_;refine WO.bl [] ?_;intro v7 h7 e7 o7;have o6:=o6.ext e7;have HG:=HF.ext e7;refine go ?_;refine VN (h0:=h6) (.inr o7) HG e7 (by simp;omega) ?_;intro v8 h8 e8 o8;rw[GJ]at o8;obtain⟨b8,n8,k8,rfl⟩:=zCS o8;have o6:=(by assumption:WB h4 h6 q _).ext e8;refine go ?_;refine VX (cs:=[.slice b8 n8 k8]) (j:=5) (hl:=by simp[zh]) o6 (e6.trans e8) ?_;intro h9 e9 o9 u9;have o8:=zBu o8 u9 (fun g e=>by have:=(HE g e).2;omega);have mT:=cz.ext e9;have hn9:h6.n<=h9.n:=by have:=e8.n;have:=u9.1;omega
   refine go ?_;refine WO.bl [] ?_;intro v10 gV bJ fg;have o9:=o9.ext bJ;have mU:=mT.ext bJ;have o8:=o8.ext bJ;refine go ?_;refine VN (h0:=h9) (.inr fg) mU bJ (by simp;omega) ?_;intro v11 gH dI jD;rw[GJ]at jD;obtain⟨Ls,Lt,Lu,rfl⟩:=zCS jD;have o8:=(by assumption:WL h6 h9 (.slice b8 n8 k8) x.args).ext dI;have o9:=(by assumption:WB h4 h9 q _).ext dI;refine go ?_;refine VX (cs:=[.slice Ls Lt Lu]) (j:=6) (hl:=by simp[zh]) o9 (e9.trans dI) ?_;intro dB az dH HH;have HI:h9.n<=dB.n:=by have:=dI.n;have:=HH.1;omega
   have o8:=zBu o8 HH (fun g e=>by have:=(HE g e).2;omega);have jD:=zBu jD HH (fun g e=>by have:=(HE g e).2;omega);have HJ:=o4.ext az;have HK:=ov.ext az;refine go ?_;have HL:WL h6 dB (.slice Ls Lt Lu) x.frm:=by
    rcases jD with o|⟨g,g1,g2⟩
    ·exact .inl o
    ·exact .inr ⟨g,by omega,g2⟩
   have qI:=e3.n;refine V7 x (fun k=>h6.n<=k/\k<dB.n) HK (e4.trans az) qI (by omega) (by decide) (by rw[Qn];omega) (zOV o8 HL br dZ ho) (fun k hk=>⟨by omega,hk.2⟩) (fun g n k e hk=>by have:=(ov.lt e).2;omega) ?_;intro v13 C6 lit dk wg PZ ug;obtain⟨P1,P2,P3,rfl⟩:=zAF wg;have HM:WB h1 C6 p [.slice tJ Dv tI,.int .u8 B.fin.kind,I B.fin.a,I B.fin.to,I B.fin.aE]:=by
    obtain⟨g,g1,g2,hg,g3⟩:=HJ;refine⟨g,g1,by omega,hg,(ug g g2 (fun n k e=> ?_)).trans g3⟩;have h1:=(ov.lt e).1;have h2:=(gz g hg).2;omega
   refine go ?_;refine VX (cs:=[.slice P1 P2 P3]) (j:=0) (hl:=by simp[zh]) HM dk ?_;intro kV bV rm AO;have HN:=wg.upd (h':=kV) (fun k dj aS=>AO.2 k aS (fun e=>by have:=(gz k e).2;omega)) AO.1;refine go ?_;refine zA (k+1) (by omega) ⟨bV,by have:=AO.1;omega,Wn,by omega,_,rm,?_⟩;rw[uf];exact HN
  ·have jC:k=B.ins.length:=by omega
   subst jC;rw[Qg]at ov;refine go ?_;have qI:=e3.n;refine V7 B (fun k=>h3.n<=k/\k<h4.n) (ow.ext e4) (e1.trans e4) (QE _) (by have:=e1.n;omega) (by decide) (by rw[Qn];omega) (zPM ov fc) (fun k hk=>⟨by have:=e1.n;omega,hk.2⟩) (fun g n k e hk=>by have:=(ow.lt e).2;omega) ?_;intro v5 h5 lit e5 o5 _ _;refine go ?_;exact zA (i+1) (by omega) ⟨e5,Wn,by omega,v5,WH,by rw[au];exact o5⟩
 ·have aK:i=L.length:=by omega
  subst aK;rw[Qg]at ow;refine gr ?_;exact⟨ow,e1⟩
theorem zOE(h:WA)(vt vf:Value)(T:List WE)(F:List Wa)(sm:BC T F)(HO:zEw F)(hm:h.mark<=h.n)(st:Wu h vt T)(sf:Wo h vf F):
  WC Tryz.prog tb 9 [.agg #[vt,vf]] h fun r h'=>(∃ x9 Lw,r=.agg #[x9,Lw]/\Wu h' x9 T/\Wo h' Lw F)/\Ext h h':=by
 have hT:=sm.types;have hF:=sm.funcs;obtain⟨ta,tn,tk,rfl⟩:=zD st;obtain⟨ga,gn,gk,rfl⟩:=zD sf;refine en ?_;refine VF ?_;intro p1 h1 e1 o1;refine go ?_;refine WO.al ?_;intro p2 h2 e2 o2;have cU:=zEU o2;have o1:=o1.ext e2;have bj:=e1.trans e2;have bC:=st.ext bj;refine go ?_;refine VA (zLC h2 _ T bC (by omega) (fun x hx=>by have:=sm.parts x hx;omega)) ?_;rintro w h3 ⟨ow,e3⟩;have swT:=ow.sl;obtain⟨wa,wn,wk,rfl⟩:=zAF ow;have o1:=o1.ext e3;have o2:=o2.ext e3;have aN:=bj.trans e3;have gT:=Wo.ext sf aN;have mi:=zp aN hm;refine go ?_;refine WO.al ?_;intro p4 h4 e4 o4;have gz:=zEU o4;refine go ?_;refine VH o4 e4 ?_;intro h5 e5 o5 u5;have Kt:h4.n<=h5.n:=u5.1;have Kp:=e5.n;have o1:=o1.ext e5;have o2:=o2.ext e5;refine go ?_;refine VD (fun i=>F.length-i) (fun i t h6=>Ext h3 h6/\h5.n<=h6.n/\zC t 4=I i/\i<=F.length/\∃ v',WB h3 h6 p4 [.slice wa wn wk,v']/\OwnR 2 RFn h5.n h6 v' (F.take i)) 0 ?_ ?_
 ·exact⟨e5,QE _,WH,QK _,_,o5,OwnR.nil⟩
 rintro i t h6 ab ⟨e6,HC,s4,hi,v',o6,ov⟩;have o1:=(by assumption:WB h h3 p1 _).ext e6;have o2:=(by assumption:WB h1 h3 p2 _).ext e6;have pD:=Wo.ext gT e6;obtain⟨tJ,Dv,tI,rfl⟩:=zAF ov;refine go ?_;refine VE (fun hd=> ?_) (fun hd=> ?_)<;>simp only[DB]at hd
 ·have ae:i<F.length:=by omega
  have aw:=zE (l:=F) ae;have au:=zAx (l:=F) ae;refine go ?_;refine VC 1 rfl rfl ?_;have jd:WB h (inC (zB 1 h6)) p1 [.slice ta tn tk,.slice ga gn gk]:=by have:=o1.ext (zH 1 h6);exact this
  have Lx:WB h3 (inC (zB 1 h6)) p4 [.slice wa wn wk,.slice tJ Dv tI]:=by have:=o6.ext (zH 1 h6);exact this
  have dJ:Wo (inC (zB 1 h6)) (.slice ga gn gk) F:=by have:=Wo.ext pD (zH 1 h6);exact this
  obtain⟨cs,⟨vb,rfl,sb,cD⟩,pc,hs⟩:=zq dJ ae;have hB:=sm.blocks _ aw;have hI:=sm.ins _ aw;have hX:=HO _ aw;generalize F.getD i default=f at *;obtain⟨ba,bn,bk,rfl⟩:=zD sb;refine WJ ?_;refine VA (zK4 (inC (zB 1 h6)) _ f.blocks sb hB hI hX) ?_;rintro v h7 ⟨Ly,e7⟩;obtain⟨ca,cn,ck,rfl⟩:=zAF Ly;refine nE e7 ?_;have wG:h6.n+1<=h7.n:=e7.n;refine WJ ?_;have eF:(inC (zB 1 h6)).n=h6.n+1:=rfl;refine UP (hB:=h3) (p:=p4) (cells:=[.slice wa wn wk,.slice tJ Dv tI]) f (fun k=>h6.n+1<=k/\k<h7.n) e7 ov e6 (by rw[e6.mark];exact mi) (by omega) HC (by decide) (by rw[Qn];omega) o6 (fun g e=>by have:=(gz g e).2;omega) (zQs (b:=h6.n+1) Ly (by omega)) (fun k hk=>⟨by omega,hk.2⟩) (fun g n k e hk=>by have:=(ov.lt e).2;omega) (fun hk=>by omega) (by simp) rfl ?_;intro H v8 t8 xI eH oH _ P4 _ hnH;refine go ?_;exact zA (i+1) (by omega) ⟨eH,by omega,Wn,by omega,v8,oH,by rw[au];exact P4⟩
 ·have aK:i=F.length:=by omega
  subst aK;rw[Qg]at ov;refine go ?_;refine VH o2 (e2.trans (e3.trans e6)) ?_;intro h7 e7 o7 u7;refine gr ?_;have keep:∀ k,h2.n<=k->k<h6.n->h7.get k=h6.get k:=fun k dj aS=>u7.2 k aS (fun e=>by
   have:=cU k e;omega)
  exact⟨⟨_,_,rfl,((ow.ext e6).upd keep u7.1).sl,(ov.upd (fun k dj aS=>keep k (by have:=e3.n;omega) aS) u7.1).sl⟩,e1.trans e7⟩
end Go.Proofs.YtmejfcakhpihlaaGreatDoor
set_option maxRecDepth 100000
namespace Go.Proofs.YtmejfcakhpihlaaGreatDoor
open Go.Am
theorem Yt(h:WA)(v w:Value)(a b:List Int)(sa:WQ h v a)(sb:WQ h w b)(ha:(a.length:Int)<=1000000000):
  WC Tryz.prog tb 33 [v,w] h fun r h'=>r=.bool (decide (a=b))/\h=h':=by
 refine en ?_;by_cases hl:(a.length:Int)=(b.length:Int);case neg=>
  have aq:a≠b:=fun e=>hl (by rw[e]);refine gr ?_;exact⟨by rw[QY aq];rfl,rfl⟩
 refine go ?_;refine VD (fun i=>a.length-i) (fun i t h1=>h=h1/\zC t 5=I i/\i<=a.length/\WK (∀ j,j<i->a.getD j 0=b.getD j 0)) 0 ?_ ?_
 ·exact⟨rfl,WH,QK _,⟨fun j hj=>absurd hj (Qk _)⟩⟩
 rintro i t _ ab ⟨rfl,s5,hi,hm⟩;refine go ?_;refine VE (fun hb=> ?_) (fun hb=> ?_)<;>simp only[DB]at hb
 ·have ae:i<a.length:=by omega
  by_cases he:a.getD i 0=b.getD i 0
  ·refine go ?_;refine zA (i+1) (by omega) ⟨rfl,Wn,by omega,⟨fun j hj=> ?_⟩⟩;by_cases e:j=i
   ·subst e;exact he
   ·exact hm.out j (by omega)
  ·have aq:a≠b:=fun e=>he (by rw[e]);refine gr ?_;exact⟨by rw[QY aq];rfl,rfl⟩
 ·have heq:a=b:=by
   refine G6 (by omega) fun j h1 h2=> ?_;have:=hm.out j (by omega);simpa [List.getD,QB h1,QB h2]using this
  refine gr ?_;exact⟨by rw[Qc heq];rfl,rfl⟩
theorem zK9(h:WA)(v w:Value)(T:List WE)(sa:Wu h v T)(sb:Wu h w T)(hT:T.length<=1000)(hp:∀ x∈T,x.parts.length<=1000):
  WC Tryz.prog tb 34 [v,w] h fun r h'=>r=.bool true/\h=h':=by
 refine en ?_;replace hp:=WK.mk hp;refine go ?_;refine VD (fun i=>T.length-i) (fun i t h1=>h=h1/\zC t 5=I i/\i<=T.length) 0 ?_ ?_
 ·exact⟨rfl,WH,QK _⟩
 rintro i t _ ab ⟨rfl,s5,hi⟩;refine go ?_;refine VE (fun hb=> ?_) (fun hb=> ?_)<;>simp only[DB]at hb
 ·have ae:i<T.length:=by omega
  have bD:=hp.out _ (zE (l:=T) ae);obtain⟨gj,⟨tV,rfl,je,P5⟩,eJ,iA⟩:=yM sa ae;obtain⟨iy,⟨tW,rfl,pZ,P6⟩,nW,eW⟩:=yM sb ae;generalize T.getD i default=x at *;refine go ?_;refine VD (fun k=>x.parts.length-k) (fun k t h1=>h=h1/\zC t 6=I k/\k<=x.parts.length) 0 ?_ ?_
  ·exact⟨rfl,WH,QK _⟩
  rintro k t2 _ aZ ⟨rfl,s6,hk⟩;refine go ?_;refine VE (fun hc=> ?_) (fun hc=> ?_)<;>simp only[DB]at hc
  ·have bK:k<x.parts.length:=by omega
   refine go ?_;exact zA (k+1) (by omega) ⟨rfl,Wn,by omega⟩
  ·refine go ?_;exact zA (i+1) (by omega) ⟨rfl,Wn,by omega⟩
 ·refine gr ?_;exact⟨rfl,rfl⟩
theorem zH3(h:WA)(v w:Value)(L:List Wj)(sa:BB h v L)(sb:BB h w L)(hm:h.mark<=h.n)(hL:L.length<=1000)(hX:∀ x∈L,x.args.length<=20/\x.frm.length<=20):
  WC Tryz.prog tb 67 [v,w] h fun r h'=>r=.bool true/\Ext h h':=by
 refine en ?_;replace hX:=WK.mk hX;refine go ?_;refine VD (fun i=>L.length-i) (fun i t h1=>Ext h h1/\zC t 5=I i/\i<=L.length) 0 ?_ ?_
 ·exact⟨Ext.refl _,WH,QK _⟩
 rintro i t h1 ab ⟨e1,s5,hi⟩;have je:=BB.ext sa e1;have mu:=BB.ext sb e1;have cH:=zp e1 hm;refine go ?_;refine VE (fun hb=> ?_) (fun hb=> ?_)<;>simp only[DB]at hb
 ·have ae:i<L.length:=by omega
  have Db:=hX.out _ (zE (l:=L) ae);obtain⟨aa,an,ak,pN,du⟩:=YI je ae;obtain⟨ba,bn,bk,P7,aC⟩:=YI mu ae;refine go ?_;refine Vh (fun g=>g=h1.n\/g=h1.n+1) 2 rfl rfl ?_;have og:BB (inC (zB 2 h1)) v L:=by have:=BB.ext je (zH 2 h1);exact this
  have fj:BB (inC (zB 2 h1)) w L:=by have:=BB.ext mu (zH 2 h1);exact this
  obtain⟨gj,⟨xa,xf,rfl,cr,cz,br,dZ,ho⟩,P8,iA⟩:=zP je ae;obtain⟨iy,⟨ya,yf,rfl,uh,Dw,cD,hlg,wh⟩,P9,eW⟩:=zP mu ae;have eJ:=(P8 _ (zH 2 h1)).2;have nW:=(P9 _ (zH 2 h1)).2;generalize L.getD i default=x at *;obtain⟨a1,a2,a3,rfl⟩:=yo cr;obtain⟨f1,f2,f3,rfl⟩:=yo cz;obtain⟨b1,b2,b3,rfl⟩:=yo uh;obtain⟨g1,g2,g3,rfl⟩:=yo Dw;refine goV ?_;refine zMl ⟨aa,an,ak,pN,by omega⟩ ?_;refine goV ?_;refine zMl ⟨ba,bn,bk,P7,by omega⟩ ?_;refine goV ?_;refine UH cH ?_;intro h2 p q e2 op oq;have HP:WQ h2 (.slice a1 a2 a3) x.args:=cr.ext e2;have HQ:WQ h2 (.slice f1 f2 f3) x.frm:=cz.ext e2;have HR:WQ h2 (.slice b1 b2 b3) x.args:=uh.ext e2;have HT:WQ h2 (.slice g1 g2 g3) x.frm:=Dw.ext e2;refine go ?_;refine VA (Yt h2 _ _ x.args x.args HP HR (by omega)) ?_;rintro _ _ ⟨rfl,rfl⟩;refine go ?_;refine VA (Yt h2 _ _ x.frm x.frm HQ HT (by omega)) ?_;rintro _ _ ⟨rfl,rfl⟩;refine go ?_;exact zA (i+1) (by omega) ⟨e1.trans e2,Wn,by omega⟩
 ·refine gr ?_;exact⟨rfl,e1⟩
theorem zLJ(h:WA)(v w:Value)(L:List Wc)(sa:Wv h v L)(sb:Wv h w L)(hm:h.mark<=h.n)(hL:L.length<=1000)(hI:∀ b∈L,b.ins.length<=1000)(hX:∀ b∈L,∀ x∈b.ins,x.args.length<=20/\x.frm.length<=20):
  WC Tryz.prog tb 35 [v,w] h fun r h'=>r=.bool true/\Ext h h':=by
 refine en ?_;replace hI:=WK.mk hI;replace hX:=WK.mk hX;refine go ?_;refine VD (fun i=>L.length-i) (fun i t h1=>Ext h h1/\zC t 5=I i/\i<=L.length) 0 ?_ ?_
 ·exact⟨Ext.refl _,WH,QK _⟩
 rintro i t h1 ab ⟨e1,s5,hi⟩;have je:=Wv.ext sa e1;have mu:=Wv.ext sb e1;refine go ?_;refine VE (fun hb=> ?_) (fun hb=> ?_)<;>simp only[DB]at hb
 ·have ae:i<L.length:=by omega
  have aw:=zE (l:=L) ae;have HD:=hI.out _ aw;have wF:=hX.out _ aw;refine go ?_;refine VC 0 rfl rfl ?_;have og:Wv (inC (zB 0 h1)) v L:=je;have fj:Wv (inC (zB 0 h1)) w L:=mu;obtain⟨gj,⟨v1,rfl,AP,eD⟩,eJ,iA⟩:=zq og ae;obtain⟨iy,⟨v2,rfl,AQ,df⟩,nW,eW⟩:=zq fj ae;generalize L.getD i default=B at *;obtain⟨a1,a2,a3,rfl⟩:=zD AP;obtain⟨b1,b2,b3,rfl⟩:=zD AQ;refine WJ ?_;refine Vt (zP6 (xs:=#[.int .u8 B.fin.kind,I B.fin.a,I B.fin.to,I B.fin.aE]) (ys:=#[.int .u8 B.fin.kind,I B.fin.a,I B.fin.to,I B.fin.aE]) (b:=true) (by kernel_rfl) (by simp[zAs,zFT,I])) ?_;refine nQ ?_;refine WJ ?_;refine VA (zH3 _ _ _ B.ins AP AQ (QE _) HD wF) ?_;rintro _ h2 ⟨rfl,e2⟩;refine nE e2 ?_;refine WJ ?_;have e3:Ext h1 (outC h1 (inC h2)):=e2.reg;refine go ?_;exact zA (i+1) (by omega) ⟨e1.trans e3,Wn,by omega⟩
 ·refine gr ?_;exact⟨rfl,e1⟩
theorem zMu(h:WA)(vt vf wt wf:Value)(T:List WE)(F:List Wa)(sm:BC T F)(HO:zEw F)(hm:h.mark<=h.n)(st:Wu h vt T)(sf:Wo h vf F)(bC:Wu h wt T)(cW:Wo h wf F):
  WC Tryz.prog tb 13 [.agg #[vt,vf],.agg #[wt,wf]] h fun r h'=>r=.bool true/\Ext h h':=by
 have hT:=sm.types;have hF:=sm.funcs;obtain⟨ta,tn,tk,rfl⟩:=zD st;obtain⟨ga,gn,gk,rfl⟩:=zD sf;obtain⟨ua,un,uk,rfl⟩:=zD bC;obtain⟨za,zn,zk,rfl⟩:=zD cW;refine en ?_;refine VF ?_;intro p h1 e1 o1;refine go ?_;refine VF ?_;intro q h2 e2 o2;have o1:=o1.ext e2;have az:=e1.trans e2;have HU:=st.ext az;have HV:=Wo.ext sf az;have AS:=bC.ext az;have AT:=Wo.ext cW az;have cS:=zp az hm;refine go ?_;refine VA (zK9 h2 _ _ T HU AS (by omega) (fun x hx=>by have:=sm.parts x hx;omega)) ?_;rintro _ _ ⟨rfl,rfl⟩;refine go ?_;refine VD (fun i=>F.length-i) (fun i t h3=>Ext h2 h3/\zC t 5=I i/\i<=F.length) 0 ?_ ?_
 ·exact⟨Ext.refl _,WH,QK _⟩
 rintro i t h3 ab ⟨e3,s5,hi⟩;have o1:=o1.ext e3;have o2:=o2.ext e3;have gT:=Wo.ext HV e3;have HW:=Wo.ext AT e3;refine go ?_;refine VE (fun hb=> ?_) (fun hb=> ?_)<;>simp only[DB]at hb
 ·have ae:i<F.length:=by omega
  have aw:=zE (l:=F) ae;have hB:=sm.blocks _ aw;have hI:=sm.ins _ aw;have hX:=HO _ aw;refine go ?_;refine VC 0 rfl rfl ?_;have jd:WB h (inC (zB 0 h3)) p [_,_]:=o1;have mw:WB h1 (inC (zB 0 h3)) q [_,_]:=o2;have og:Wo (inC (zB 0 h3)) _ F:=gT;have fj:Wo (inC (zB 0 h3)) _ F:=HW;obtain⟨gj,⟨v1,rfl,AP,eD⟩,eJ,iA⟩:=zq og ae;obtain⟨iy,⟨v2,rfl,AQ,df⟩,nW,eW⟩:=zq fj ae;generalize F.getD i default=f at *;obtain⟨a1,a2,a3,rfl⟩:=zD AP;obtain⟨b1,b2,b3,rfl⟩:=zD AQ;refine WJ ?_;refine VA (zLJ _ _ _ f.blocks AP AQ (QE _) hB hI hX) ?_;rintro _ h4 ⟨rfl,e4⟩;refine nE e4 ?_;refine WJ ?_;have e5:Ext h3 (outC h3 (inC h4)):=e4.reg;refine go ?_;exact zA (i+1) (by omega) ⟨e3.trans e5,Wn,by omega⟩
 ·refine gr ?_;exact⟨rfl,az.trans e3⟩
inductive B7(nx:Int->List Int)(first:List Int)(aU:Int):Int->Prop
 |here {a:Int}:a∈first->a≠aU->B7 nx first aU a
 |step {b c:Int}:B7 nx first aU b->c∈nx b->c≠aU->B7 nx first aU c
theorem B7.way{nx:Int->List Int}{first:List Int}{aU c:Int}(h:B7 nx first aU c):∃ a∈first,Wl nx a c:=by
 induction h with
 |here h _=>exact⟨_,h,.here⟩
 |step _ hc _ ih=>obtain⟨a,h1,h2⟩:=ih;exact⟨a,h1,.step h2 hc⟩
theorem B7.in{nx:Int->List Int}{first:List Int}{aU c:Int}{N:Nat}(ah:∀ b,0<=b/\b<(N:Int)->∀ c∈nx b,0<=c/\c<(N:Int))(hf:∀ a∈first,0<=a/\a<(N:Int))(h:B7 nx first aU c):0<=c/\c<(N:Int):=by
 induction h with
 |here h _=>exact hf _ h
 |step _ hc _ ih=>exact ah _ ih _ hc
theorem zKQ{nx:Int->List Int}{first:List Int}{c:Int}{N:Nat}(ah:∀ b,0<=b/\b<(N:Int)->∀ c∈nx b,0<=c/\c<(N:Int))(hf:∀ a∈first,0<=a/\a<(N:Int)):B7 nx first (-1) c↔∃ a∈first,Wl nx a c:=by
 refine⟨B7.way,fun hh=> ?_⟩;obtain⟨a,h1,h2⟩:=hh;have:B7 nx first (-1) c/\0<=c/\c<(N:Int):=by
  induction h2 with
  |here=>exact⟨.here h1 (by have:=hf a h1;omega),hf a h1⟩
  |step _ hc ih=>
   have:=ah _ ih.2 _ hc;exact⟨.step ih.1 hc (by omega),this⟩
 exact this.1
abbrev bO(bs:List Bool)(j:Int):Bool:=bs.getD j.toNat false
theorem zM9{bs:List Bool}{j c:Int}{b:Bool}(hc:0<=c/\c<(bs.length:Int))(hj:0<=j):bO (bs.set c.toNat b) j=if j=c then b else bO bs j:=by
 unfold bO;rw[QG,List.getElem?_set];by_cases e:j=c
 ·subst e;rw[QF rfl,QF (by omega),QF rfl];rfl
 ·rw[QC (by omega),QC e,QG]
theorem zFo{xs ys:List Bool}(hl:xs.length=ys.length)(h:∀ j:Int,0<=j/\j<(xs.length:Int)->bO xs j=bO ys j):xs=ys:=by
 refine G6 hl fun j h1 h2=> ?_;have:=h (j:Int) (by omega);simpa [bO,List.getD,QB h1,QB h2]using this
def zQi(nx:Int->List Int)(aU:Int)(bs:List Bool)(j:Int):Prop:=bO bs j=true->∀ c∈nx j,c≠aU->bO bs c=true
def Cl(nx:Int->List Int)(aU:Int)(bs:List Bool):Prop:=∀ j:Int,0<=j/\j<(bs.length:Int)->zQi nx aU bs j
structure Swp(nx:Int->List Int)(first:List Int)(aU:Int)(N:Nat)(dK bs:List Bool)(i:Nat):Prop where
 len0:dK.length=N
 len:bs.length=N
 le:∀ j:Int,0<=j->bO dK j=true->bO bs j=true
 sound:∀ j:Int,0<=j->bO bs j=true->B7 nx first aU j
 cl:Cl nx aU dK->bs=dK
 fix:bs=dK->∀ j:Int,0<=j/\j<(i:Int)->zQi nx aU bs j
theorem XP{nx:Int->List Int}{first:List Int}{aU:Int}{N:Nat}{bs:List Bool}(hl:bs.length=N)(hs:∀ j:Int,0<=j->bO bs j=true->B7 nx first aU j):Swp nx first aU N bs bs 0:=
 ⟨hl,hl,fun _ _ h=>h,hs,fun _=>rfl,fun _ j hj=>by omega⟩
theorem Swp.add{nx:Int->List Int}{first:List Int}{aU:Int}{N i:Nat}{dK bs:List Bool}{c:Int}(s:Swp nx first aU N dK bs i)(hi:bO bs i=true)(hc:c∈nx i)(ah:0<=c/\c<(N:Int))(hiN:i<N):
  Swp nx first aU N dK (bs.set c.toNat (bO bs c|| !decide (c=aU))) i/\(bs.set c.toNat (bO bs c|| !decide (c=aU))=dK->bs=dK)/\bO (bs.set c.toNat (bO bs c|| !decide (c=aU))) i=true/\(c≠aU->bO (bs.set c.toNat (bO bs c|| !decide (c=aU))) c=true):=by
 have jv:0<=c/\c<(bs.length:Int):=by rw[s.len];exact ah
 have get:∀ j:Int,0<=j->bO (bs.set c.toNat (bO bs c|| !decide (c=aU))) j=if j=c then(bO bs c|| !decide (c=aU))else bO bs j:=fun j hj=>zM9 jv hj;have up:∀ j:Int,0<=j->bO bs j=true->bO (bs.set c.toNat (bO bs c|| !decide (c=aU))) j=true:=fun j hj h=>by
  rw[get j hj];split
  ·rename_i e;subst e;rw[h];rfl
  ·exact h
 have back:bs.set c.toNat (bO bs c|| !decide (c=aU))=dK->bs=dK:=fun e=>by
  refine zFo (by rw[s.len,s.len0]) fun j hj=> ?_;cases h1:bO bs j with
  |true=>have:=up j hj.1 h1;rw[e]at this;exact this.symm
  |false=>
   cases h2:bO dK j with
   |false=>rfl
   |true=>rw[s.le j hj.1 h2]at h1;cases h1
 refine⟨⟨s.len0,by rw[Gh];exact s.len,fun j hj h=>up j hj (s.le j hj h),fun j hj h=> ?_,fun h=> ?_,fun e j hj=> ?_⟩,back,up i (by omega) hi,fun h=> ?_⟩
 ·rw[get j hj]at h;split at h
  ·rename_i e;subst e;rw[GN]at h;rcases h with h|h
   ·exact s.sound _ hj h
   ·exact .step (s.sound i (by omega) hi) hc (by simpa using h)
  ·exact s.sound j hj h
 ·have e:=s.cl h;subst e;refine zFo (by rw[Gh]) fun j hj=> ?_;rw[Gh]at hj;rw[get j hj.1];split
  ·rename_i e;subst e;by_cases hb:j=aU
   ·simp[hb]
   ·rw[h i (by rw[s.len];omega) hi j hc hb];rfl
  ·rfl
 ·have e2:=back e;have:=s.fix e2 j hj;subst e2;rw[e];exact this
 ·rw[get c ah.1,QF rfl];simp[h]
theorem Swp.next{nx:Int->List Int}{first:List Int}{aU:Int}{N i:Nat}{dK bs:List Bool}(s:Swp nx first aU N dK bs i)(h:bs=dK->zQi nx aU bs i):Swp nx first aU N dK bs (i+1):=
 ⟨s.len0,s.len,s.le,s.sound,s.cl,fun e j hj=>by
  by_cases Ew:j=i
  ·rw[Ew];exact h e
  ·exact s.fix e j (by omega)⟩
def zLW(bs:List Bool):Nat:=bs.countP id
theorem zOh{xs ys:List Bool}(hl:xs.length=ys.length)(hle:∀ j:Int,0<=j->bO xs j=true->bO ys j=true)(aq:xs≠ys):zLW xs<zLW ys:=by
 unfold zLW;induction xs generalizing ys with
 |nil=>cases ys with
  |nil=>exact absurd rfl aq
  |cons=>cases hl
 |cons x xs ih=>
  cases ys with
  |nil=>cases hl
  |cons y ys=>
   have AU:∀ j:Int,0<=j->bO xs j=true->bO ys j=true:=fun j hj h=>by
    have:=hle (j+1) (by omega);have e:(j+1).toNat=j.toNat+1:=by omega
    unfold bO at this h |-;rw[e]at this;simpa [List.getD]using this (by simpa [List.getD]using h)
   have h0:x=true->y=true:=fun h=>by have:=hle 0 (Ql _);simpa [bO,List.getD,h]using this
   have hlen:xs.length=ys.length:=by simpa using hl
   have mono:∀ {ps qs:List Bool},ps.length=qs.length->(∀ j:Int,0<=j->bO ps j=true->bO qs j=true)->ps.countP id<=qs.countP id:=by
    intro ps;induction ps with
    |nil=>intro qs _ _;simp
    |cons a ps EF=>
     intro qs df h2;cases qs with
     |nil=>cases df
     |cons b qs=>
      have h3:∀ j:Int,0<=j->bO ps j=true->bO qs j=true:=fun j hj h=>by
       have:=h2 (j+1) (by omega);have e:(j+1).toNat=j.toNat+1:=by omega
       unfold bO at this h |-;rw[e]at this;simpa [List.getD]using this (by simpa [List.getD]using h)
      have h4:a=true->b=true:=fun h=>by have:=h2 0 (Ql _);simpa [bO,List.getD,h]using this
      have:=EF (by simpa using df) h3;simp only[List.countP_cons,id];cases a with
      |true=>rw[h4 rfl];omega
      |false=>cases b<;>simp<;>omega
   have hm:=mono hlen AU;simp only[List.countP_cons,id];by_cases w9:x=y
   ·subst w9;have:=ih hlen AU (fun e=>aq (by rw[e]));omega
   ·cases x with
    |true=>exact absurd (h0 rfl).symm w9
    |false=>
     cases y with
     |true=>simp;omega
     |false=>exact absurd rfl w9
theorem zOR{bs:List Bool}(h:bs.length<=zLW bs){j:Int}(hj:0<=j/\j<(bs.length:Int)):bO bs j=true:=by
 unfold zLW at h;have h2:bs.countP id=bs.length:=Nat.le_antisymm List.countP_le_length h;rw[List.countP_eq_length]at h2;have hi:j.toNat<bs.length:=by omega
 have:=h2 (bs[j.toNat]) (List.getElem_mem hi);simpa [bO,List.getD,QB hi]using this
structure Rds(nx:Int->List Int)(first:List Int)(aU:Int)(N:Nat)(bs:List Bool)(n:Nat):Prop where
 len:bs.length=N
 sound:∀ j:Int,0<=j->bO bs j=true->B7 nx first aU j
 init:∀ a∈first,a≠aU->bO bs a=true
 cl:Cl nx aU bs\/n<=zLW bs
theorem Rds.next{nx:Int->List Int}{first:List Int}{aU:Int}{N n:Nat}{dK bs:List Bool}(hf:∀ a∈first,0<=a)(r:Rds nx first aU N dK n)(s:Swp nx first aU N dK bs N):Rds nx first aU N bs (n+1):=by
 refine⟨s.len,s.sound,fun a ha hb=>s.le a (hf a ha) (r.init a ha hb),?_⟩;by_cases e:bs=dK
 ·left;intro j hj;exact s.fix e j (by rw[s.len]at hj;exact hj)
 ·right;rcases r.cl with h|h
  ·exact absurd (s.cl h) e
  ·have:=zOh (by rw[s.len,s.len0]) s.le (Ne.symm e);omega
theorem Rds.done{nx:Int->List Int}{first:List Int}{aU:Int}{N:Nat}{bs:List Bool}(ah:∀ b,0<=b/\b<(N:Int)->∀ c∈nx b,0<=c/\c<(N:Int))(hf:∀ a∈first,0<=a/\a<(N:Int))(r:Rds nx first aU N bs N)(j:Int)(hj:0<=j/\j<(N:Int)):bO bs j=true↔B7 nx first aU j:=by
 refine⟨r.sound j hj.1,fun h=> ?_⟩;have a7:Cl nx aU bs:=by
  rcases r.cl with h|h
  ·exact h
  ·intro i hi _ c hc _;rw[r.len]at hi;exact zOR (by rw[r.len];exact h) (by rw[r.len];exact ah i hi c hc)
 clear hj;induction h with
 |here ha hb=>exact r.init _ ha hb
 |step hb hc aq ih=>exact a7 _ (by rw[r.len];exact hb.in ah hf) ih _ hc aq
end Go.Proofs.YtmejfcakhpihlaaGreatDoor
set_option maxRecDepth 100000
namespace Go.Proofs.YtmejfcakhpihlaaGreatDoor
open Go.Am
theorem zNW(h:WA)(x:Bl):
  WC Tryz.prog tb 150 [.agg #[.int .u8 x.kind,I x.a,I x.to,I x.aE]] h fun r h'=>WL h h' r (ZU x)/\Ext h h':=by
 refine en ?_;refine VF ?_;intro p h1 e1 o1;unfold ZU;by_cases k1:x.kind=1
 ·rw[QF k1];refine go ?_;refine WO.bl [x.to] ?_;intro v h2 e2 o2;refine gr ?_;exact⟨.inr (o2.since e1),e1.trans e2⟩
 rw[QC k1];by_cases k2:x.kind=2
 ·rw[QF k2];by_cases k3:x.to=x.aE
  ·rw[QF k3];refine go ?_;refine WO.bl [x.to] ?_;intro v h2 e2 o2;refine gr ?_;exact⟨.inr (o2.since e1),e1.trans e2⟩
  ·rw[QC k3];refine go ?_;refine WO.bl [x.to,x.aE] ?_;intro v h2 e2 o2;refine gr ?_;exact⟨.inr (o2.since e1),e1.trans e2⟩
 ·rw[QC k2];refine gr ?_;exact⟨.inl ⟨rfl,rfl⟩,e1⟩
theorem zPw(h:WA)(v:Value)(l:List Int)(n:Int)(s:WQ h v l)(hl:(l.length:Int)<=1000000):
  WC Tryz.prog tb 149 [v,I n] h fun r h'=>r=.bool (decide (n∈l))/\h=h':=by
 refine en ?_;refine VD (fun i=>l.length-i) (fun i t h1=>h=h1/\zC t 5=I i/\i<=l.length/\WK (∀ j,j<i->l.getD j 0≠n)) 0 ?_ ?_
 ·exact⟨rfl,WH,QK _,⟨fun j hj=>absurd hj (Qk _)⟩⟩
 rintro i t _ ab ⟨rfl,s5,hi,hm⟩;refine go ?_;refine VE (fun hb=> ?_) (fun hb=> ?_)<;>simp only[DB]at hb
 ·have ae:i<l.length:=by omega
  by_cases he:l.getD i 0=n
  ·have ah:n∈l:=by rw[<-he];exact zM ae
   refine gr ?_;exact⟨by rw[Qc ah];rfl,rfl⟩
  ·refine go ?_;refine zA (i+1) (by omega) ⟨rfl,Wn,by omega,⟨fun j hj=> ?_⟩⟩;by_cases e:j=i
   ·subst e;exact he
   ·exact hm.out j (by omega)
 ·have bW:n∉l:=fun ah=>by
   obtain⟨j,hj,e⟩:=Zw ah;exact hm.out j (by omega) e
  refine gr ?_;exact⟨by rw[QY bW];rfl,rfl⟩
theorem zIz{h0 h h':WA}{v:Value}{bs:List Bool}(o:BD h0 h v bs){q:Nat}(hq:∃ n k,v=.slice (some ⟨q,0,none⟩) n k):h0.n<=q/\q<h.n:=by
 obtain⟨g,a,b,rfl,_⟩:=o;obtain⟨n,k,e⟩:=hq;cases e;exact⟨a,b⟩
theorem zDn{hA h h':WA}{v w:Value}{l:List Int}(o:WL hA h w l)(keep:∀ k,k<h.n->(∀ n k',v≠ .slice (some ⟨k,0,none⟩) n k')->h'.get k=h.get k)(hn:h.n<=h'.n)(hv:∀ q n k,v=.slice (some ⟨q,0,none⟩) n k->q<hA.n):WL hA h' w l:=by
 rcases o with o|⟨g,g1,g2,g3,g4⟩
 ·exact .inl o
 ·exact .inr ⟨g,g1,by omega,g3,(keep g g2 (fun n k' e=>by have:=hv g n k' e;omega)).trans g4⟩
theorem zHE(h:WA)(v w:Value)(L:List Wc)(first:List Int)(aU:Int)(hm:h.mark<=h.n)(sb:Wv h v L)(sw:WQ h w first)(hL:L.length<=16)(ah:∀ c,0<=c/\c<(L.length:Int)->∀ d∈Wr L c,0<=d/\d<(L.length:Int))(hf:∀ a∈first,0<=a/\a<(L.length:Int))(cG:first.length<=1000):
  WC Tryz.prog tb 142 [v,w,I aU] h fun r h'=>(∃ bs:List Bool,BD h h' r bs/\bs.length=L.length/\∀ j:Int,0<=j/\j<(L.length:Int)->(bO bs j=true↔B7 (Wr L) first aU j))/\Ext h h':=by
 replace ah:=WK.mk ah;replace hf:=WK.mk hf;refine en ?_;refine UQ (n:=L.length) (by omega) ?_;intro r h1 e1 o1;have sJ:∀ j:Int,bO (List.replicate L.length false) j=false:=fun j=>by
  unfold bO;rw[QG,JG];split<;>rfl
 refine go ?_;refine VD (fun i=>first.length-i) (fun i t h2=>Ext h h2/\zC t 8=I i/\i<=first.length/\∃ bs:List Bool,BD h h2 r bs/\bs.length=L.length/\WK ((∀ j:Int,0<=j->bO bs j=true->B7 (Wr L) first aU j)/\∀ k,k<i->first.getD k 0≠aU->bO bs (first.getD k 0)=true)) 0 ?_ ?_
 ·exact⟨e1,WH,QK _,_,o1,by simp,⟨⟨fun j hj hh=>(by rw[sJ]at hh;cases hh),fun k hk=>absurd hk (Qk _)⟩⟩⟩
 clear o1 sJ;rintro i t h2 ab ⟨e2,s8,hi,bs,o2,jG,hP⟩;have Ra:=sw.ext e2;refine go ?_;refine VE (fun hb=> ?_) (fun hb=> ?_)<;>simp only[DB]at hb
 ·have ae:i<first.length:=by omega
  have fI:=hf.out _ (zM ae);have gx:(first.getD i 0).toNat<bs.length:=by omega
  refine go ?_;refine VC 0 rfl rfl ?_;have swX:WQ (inC (zB 0 h2)) w first:=Ra
  have oX:BD h (zB 0 h2) r bs:=o2;have sX:zOk (inC (zB 0 h2)) r bs:=o2.sl;refine WJ ?_;refine Vw (hS:=h2) (i:=(first.getD i 0).toNat) (b:= !decide (first.getD i 0=aU)) oX e2 (by rw[e2.mark];exact hm) rfl gx ?_;intro h3 e3 o3 _ _;refine go ?_;have cf:∀ j:Int,0<=j->bO (bs.set (first.getD i 0).toNat (!decide (first.getD i 0=aU))) j=if j=first.getD i 0 then !decide (first.getD i 0=aU)else bO bs j:=fun j hj=>zM9 (by omega) hj
  refine zA (i+1) (by omega) ⟨e3,Wn,by omega,_,o3,by rw[Gh];exact jG,⟨⟨fun j hj hh=> ?_,fun k hk aq=> ?_⟩⟩⟩
  ·rw[cf j hj]at hh;split at hh
   ·rename_i e;rw[e];exact .here (zM ae) (by simpa using hh)
   ·exact hP.out.1 j hj hh
  ·by_cases e:k=i
   ·subst e;rw[cf _ fI.1,QF rfl];simpa using aq
   ·have bK:k<first.length:=by omega
    rw[cf _ (hf.out _ (zM bK)).1];split
    ·rename_i e2;rw[e2]at aq;simpa using aq
    ·exact hP.out.2 k (by omega) aq
 have aK:i=first.length:=by omega
 subst aK;have hR:WK (Rds (Wr L) first aU L.length bs 0):=⟨⟨jG,hP.out.1,fun a ha hb=>by
  obtain⟨k,hk,rfl⟩:=Zw ha;exact hP.out.2 k hk hb,.inr (QK _)⟩⟩
 clear hP;refine go ?_;refine VD (fun n=>L.length-n) (fun n t h3=>Ext h h3/\zC t 9=I n/\n<=L.length/\∃ bs:List Bool,BD h h3 r bs/\WK (Rds (Wr L) first aU L.length bs n)) 0 ?_ ?_
 ·exact⟨e2,WH,QK _,_,o2,hR⟩
 clear hR o2 jG bs;rintro n t3 h3 cN ⟨e3,s9,hn,dK,o3,hR⟩;have nR:=Wv.ext sb e3;refine go ?_;refine VE (fun hb=> ?_) (fun hb=> ?_)<;>simp only[DB]at hb;case refine_2=>
  have qD:n=L.length:=by omega
  subst qD;have AV:=Rds.done ah.out hf.out hR.out;have hlen:=hR.out.len;refine gr ?_;exact⟨⟨dK,o3,hlen,fun j hj=>AV j hj⟩,e3⟩
 refine go ?_;refine VD (fun i=>L.length-i) (fun i t h4=>Ext h h4/\zC t 10=I i/\i<=L.length/\∃ bs:List Bool,BD h h4 r bs/\WK (Swp (Wr L) first aU L.length dK bs i)) 0 ?_ ?_
 ·exact⟨e3,WH,QK _,_,o3,⟨XP hR.out.len hR.out.sound⟩⟩
 clear o3;rintro i t4 h4 mC ⟨e4,iY,hi,bs,o4,hS⟩;have ry:=Wv.ext sb e4;refine go ?_;refine VE (fun hc=> ?_) (fun hc=> ?_)<;>simp only[DB]at hc;case refine_2=>
  have aK:i=L.length:=by omega
  subst aK;refine go ?_;exact zA (n+1) (by omega) ⟨e4,Wn,by omega,_,o4,⟨Rds.next (fun a ha=>(hf.out a ha).1) hR.out hS.out⟩⟩
 have ae:i<L.length:=by omega
 obtain⟨cs,⟨vi,rfl,si,vQ⟩,pc,hs⟩:=zq ry ae;obtain⟨_,_,_,rfl⟩:=zD si;refine go ?_;refine VA (zNW h4 (L.getD i default).fin) ?_;rintro u h5 ⟨ou,e5⟩;have fe:ZU (L.getD i default).fin=Wr L i:=by unfold Wr;rw[QL]
 rw[fe]at ou;have KZ:(Wr L i).length<=2:=zDH _;have HX:=WK.mk (ah.out i (by omega));have rG:∀ q n k,r=.slice (some ⟨q,0,none⟩) n k->q<h4.n:=fun q n k e=>(zIz (h':=h4) o4 ⟨n,k,e⟩).2;have o5:=o4.ext e5;have Di:=e4.trans e5;clear pc;generalize hX:Wr L i=X at *;refine go ?_;refine VD (fun k=>X.length-k) (fun k t h6=>Ext h h6/\zC t 12=I k/\k<=X.length/\WL h4 h6 u X/\∃ bs:List Bool,BD h h6 r bs/\WK (Swp (Wr L) first aU L.length dK bs i/\(bs=dK->bO bs i=true->∀ k',k'<k->X.getD k' 0≠aU->bO bs (X.getD k' 0)=true))) 0 ?_ ?_
 ·exact⟨Di,WH,QK _,ou,_,o5,⟨⟨hS.out,fun _ _ k hk=>absurd hk (Qk _)⟩⟩⟩
 clear o4 o5 hS ou Di;rintro k t6 h6 tX ⟨e6,jV,hk,ou,bs,o6,hS⟩;have hlen:=hS.out.1.len;have su:=ou.sl;have sr:=o6.sl;by_cases hkX:(k:Int)<X.length;case neg=>
  have jC:k=X.length:=by omega
  subst jC;refine go ?_;refine zA (i+1) (by omega) ⟨e6,Wn,by omega,_,o6,⟨hS.out.1.next fun e hb c hc aq=> ?_⟩⟩;rw[hX]at hc;obtain⟨k',bK,rfl⟩:=Zw hc;exact hS.out.2 e hb k' bK aq
 have bK:k<X.length:=by omega
 obtain⟨gj,fo,eJ,iA⟩:=zq sr (i:=i) (by omega);have fo:gj=[.bool (bO bs i)]:=by
  have:bs.getD i default=bO bs i:=by unfold bO;rw[QL];rfl
  rw[<-this];exact fo
 subst fo;by_cases jW:bO bs i=true;case neg=>
  have Rb:bO bs i=false:=by simpa using jW
  refine go ?_;refine zA (i+1) (by omega) ⟨e6,Wn,by omega,_,o6,⟨hS.out.1.next fun e hb=>absurd hb jW⟩⟩
 have mV:=HX.out _ (zM bK);have aY:=zM bK;obtain⟨c,aW⟩:∃ c,X.getD k 0=c:=⟨_,rfl⟩;rw[aW]at mV aY;have tl:c.toNat<bs.length:=by omega
 rw[<-hX]at aY;obtain⟨s1,s2,s3,s4⟩:=hS.out.1.add jW aY (by omega) ae;have bF:WK (Swp (Wr L) first aU L.length dK (bs.set c.toNat (bO bs c|| !decide (c=aU))) i/\(bs.set c.toNat (bO bs c|| !decide (c=aU))=dK->bO (bs.set c.toNat (bO bs c|| !decide (c=aU))) i=true->∀ k',k'<k+1->X.getD k' 0≠aU->bO (bs.set c.toNat (bO bs c|| !decide (c=aU))) (X.getD k' 0)=true)):=by
  refine⟨⟨s1,fun e _ k' aS aq=> ?_⟩⟩;by_cases ek:k'=k
  ·subst ek;rw[aW]at aq |-;exact s4 aq
  ·have e2:=s2 e;have:=hS.out.2 e2 jW k' (by omega) aq;rw[e,<-e2];exact this
 clear s1 s2 s3 s4 hS;have s0:=aW;refine go ?_;refine VC 0 rfl rfl ?_;have suX:WQ (inC (zB 0 h6)) u X:=su;have oX:BD h (zB 0 h6) r bs:=o6;have sX:zOk (inC (zB 0 h6)) r bs:=o6.sl;obtain⟨iy,ui,nW,eW⟩:=zq sX (i:=c.toNat) tl;have ui:iy=[.bool (bO bs c)]:=ui;subst ui;refine WJ ?_;rw[aW];refine WJ ?_;cases Lz:bO bs c with
 |true=>
  rw[Lz]at bF nW;refine WJ ?_;refine Vw (hS:=h6) (i:=c.toNat) (b:=true) oX e6 (by rw[e6.mark];exact hm) rfl tl ?_;intro h7 e7 o7 keep wG;refine go ?_;exact zA (k+1) (by omega) ⟨e7,Wn,by omega,zDn ou keep wG rG,_,o7,bF⟩
 |false=>
  rw[Lz]at bF nW;refine WJ ?_;rw[aW];refine WJ ?_;refine Vw (hS:=h6) (i:=c.toNat) (b:= !decide (c=aU)) oX e6 (by rw[e6.mark];exact hm) rfl tl ?_;intro h7 e7 o7 keep wG;refine go ?_;exact zA (k+1) (by omega) ⟨e7,Wn,by omega,zDn ou keep wG rG,_,o7,bF⟩
end Go.Proofs.YtmejfcakhpihlaaGreatDoor
set_option maxRecDepth 100000
namespace Go.Proofs.YtmejfcakhpihlaaGreatDoor
open Go.Am
theorem zLz(h:WA)(v:Value)(L:List Wc)(b:Int)(sb:Wv h v L)(hL:L.length<=1000):
  WC Tryz.prog tb 206 [v,I b] h fun r h'=>WL h h' r (zW L b L.length)/\Ext h h':=by
 refine en ?_;refine VD (fun i=>L.length-i) (fun i t h1=>Ext h h1/\zC t 6=I i/\i<=L.length/\∃ w,zC t 5=w/\WL h h1 w (zW L b i)) 0 ?_ ?_
 ·exact⟨Ext.refl _,WH,QK _,_,WH,.inl ⟨rfl,rfl⟩⟩
 rintro i t h1 ab ⟨e1,s6,hi,w,s5,ow⟩;have mu:=Wv.ext sb e1;refine go ?_;refine VE (fun hb=> ?_) (fun hb=> ?_)<;>simp only[DB]at hb
 ·have ae:i<L.length:=by omega
  obtain⟨cs,⟨vi,rfl,si,fc⟩,pc,hs⟩:=zq mu ae;obtain⟨_,_,_,rfl⟩:=zD si;have au:=zBW L b i;have tY:=zAJ L b i;refine go ?_;refine VA (zNW h1 (L.getD i default).fin) ?_;rintro u h2 ⟨ou,e2⟩;have KZ:(ZU (L.getD i default).fin).length<=2:=zDH _;refine go ?_;refine VA (zPw h2 u _ b ou.sl (by omega)) ?_;rintro _ _ ⟨rfl,rfl⟩;have kU:=ow.ext e2;by_cases aI:b∈ZU (L.getD i default).fin
  ·rw[QF aI]at au;refine go ?_;refine WO.bl [(i:Int)] ?_;intro v4 h4 e4 o4;refine go ?_;refine VN (kU.ext e4) o4.sl ((e1.trans e2).trans e4) (by simp only[QV];omega) ?_;intro v5 h5 e5 o5;refine go ?_;exact zA (i+1) (by omega) ⟨e5,Wn,by omega,v5,WH,by rw[au];exact o5⟩
  ·rw[QC aI]at au;refine go ?_;exact zA (i+1) (by omega) ⟨e1.trans e2,Wn,by omega,w,WH,by rw[au];exact kU⟩
 ·have aK:i=L.length:=by omega
  subst aK;refine gr ?_;exact⟨ow,e1⟩
end Go.Proofs.YtmejfcakhpihlaaGreatDoor
set_option maxRecDepth 100000
namespace Go.Proofs.YtmejfcakhpihlaaGreatDoor
open Go.Am
def Ris(l:List Int):Prop:=∀ i,i+1<l.length->l.getD i 0<l.getD (i+1) 0
theorem Ris.tail{a:Int}{l:List Int}(h:Ris (a::l)):Ris l:=fun i hi=>by
 have:=h (i+1) (by simp only[GF];omega);simpa [List.getD]using this
theorem Ris.lt{l:List Int}:∀ {a:Int},Ris (a::l)->∀ x∈l,a<x:=by
 induction l with
 |nil=>intro a _ x hx;cases hx
 |cons b l ih=>
  intro a h x hx;have h0:a<b:=by have:=h 0 (by simp);simpa [List.getD]using this
  rcases GG.1 hx with rfl|hx
  ·exact h0
  ·have:=ih h.tail x hx;omega
theorem zPo{l k:List Int}(hl:Ris l)(hk:Ris k)(h:∀ x,x∈l↔x∈k):l=k:=by
 induction l generalizing k with
 |nil=>
  cases k with
  |nil=>rfl
  |cons b k=>have:=(h b).2 (by simp);cases this
 |cons a l ih=>
  cases k with
  |nil=>have:=(h a).1 (by simp);cases this
  |cons b k=>
   have du:a=b:=by
    have h1:=(h a).1 (by simp);have h2:=(h b).2 (by simp);rcases GG.1 h1 with e|h1
    ·exact e
    ·rcases GG.1 h2 with e|h2
     ·exact e.symm
     ·have:=hl.lt b h2;have:=hk.lt a h1;omega
   subst du;congr 1;refine ih hl.tail hk.tail fun x=>⟨fun hx=> ?_,fun hx=> ?_⟩
   ·rcases GG.1 ((h x).1 (by simp[hx]))with e|h2
    ·have:=hl.lt x hx;omega
    ·exact h2
   ·rcases GG.1 ((h x).2 (by simp[hx]))with e|h2
    ·have:=hk.lt x hx;omega
    ·exact h2
theorem zI5(p:Nat->Bool)(n:Nat):Ris (((List.range n).filter p).map fun(i:Nat)=>(i:Int)):=by
 intro i hi;have hp:((List.range n).filter p).Pairwise (·<·):=List.Pairwise.filter _ List.pairwise_lt_range;rw[Qi]at hi;have:=List.pairwise_iff_getElem.1 hp i (i+1) (by omega) hi (by omega);simp only[QG,GQ,QB hi,QB (show i<((List.range n).filter p).length by omega),QJ,GB];omega
def onL(bs:List Bool)(n:Nat):List Int:=((List.range n).filter fun(i:Nat)=>bO bs (i:Int)).map fun(i:Nat)=>(i:Int)
theorem zMJ(bs:List Bool)(n:Nat):onL bs (n+1)=if bO bs (n:Int)then onL bs n++[(n:Int)]else onL bs n:=by
 unfold onL;rw[G3,List.filter_append,Qx];by_cases h:bO bs (n:Int)=true
 ·rw[QF h,List.filter_cons_of_pos (by simpa using h)];rfl
 ·rw[QC h,List.filter_cons_of_neg (by simpa using h)];simp
theorem zKE(bs:List Bool)(n:Nat):(onL bs n).length<=n:=by
 unfold onL;rw[Qi];exact QP (List.length_filter_le _ _) (by simp)
theorem zOn{bs:List Bool}{n:Nat}{x:Int}:x∈onL bs n↔(0<=x/\x<(n:Int))/\bO bs x=true:=by
 unfold onL;rw[Qw];constructor
 ·rintro⟨i,hi,rfl⟩;rw[Gs,GV]at hi;exact⟨by omega,hi.2⟩
 ·rintro⟨h1,h2⟩;refine⟨x.toNat,?_,by omega⟩;rw[Gs,GV];refine⟨by omega,?_⟩;rw[show((x.toNat:Nat):Int)=x by omega];exact h2
theorem zJn(h:WA)(v:Value)(L:List Wc)(hm:h.mark<=h.n)(sb:Wv h v L)(hL:L.length<=16)(hL0:0<L.length)(ah:∀ c,0<=c/\c<(L.length:Int)->∀ d∈Wr L c,0<=d/\d<(L.length:Int)):
  WC Tryz.prog tb 91 [v] h fun r h'=>(∃ l,WL h h' r l/\Ris l/\l.length<=16/\∀ c,c∈l↔Wl (Wr L) 0 c)/\Ext h h':=by
 have qc:∀ a∈([0]:List Int),0<=a/\a<(L.length:Int):=fun a ha=>by rw[QZ]at ha;subst ha;omega
 have AW:∀ c,B7 (Wr L) [0] (-1) c↔Wl (Wr L) 0 c:=fun c=>by
  rw[zKQ ah qc];exact⟨fun⟨a,ha,w⟩=>by rw[QZ]at ha;subst ha;exact w,fun w=>⟨0,by simp,w⟩⟩
 have qd:∀ c,Wl (Wr L) 0 c->0<=c/\c<(L.length:Int):=fun c w=>((AW c).2 w).in ah qc;replace qd:=WK.mk qd;replace AW:=WK.mk AW;refine en ?_;refine WO.bl [0] ?_;intro v1 h1 e1 o1;refine go ?_;refine VA (zHE h1 v v1 L [0] (-1) (zp e1 hm) (Wv.ext sb e1) o1.sl hL ah qc (by simp)) ?_;rintro r h2 ⟨⟨bs,ob,jG,iU⟩,e2⟩;replace iU:=WK.mk iU;have az:=e1.trans e2;refine go ?_;refine VD (fun i=>L.length-i) (fun i t h3=>Ext h2 h3/\zC t 5=I i/\i<=L.length/\∃ w,zC t 3=w/\WL h2 h3 w (onL bs i)) 0 ?_ ?_
 ·exact⟨Ext.refl _,WH,QK _,_,WH,.inl ⟨rfl,rfl⟩⟩
 rintro i t h3 ab ⟨e3,s5,hi,w,s3,ow⟩;have sr:zOk h3 r bs:=(ob.ext e3).sl;refine go ?_;refine VE (fun hb=> ?_) (fun hb=> ?_)<;>simp only[DB]at hb
 ·have ae:i<L.length:=by omega
  obtain⟨gj,fo,eJ,iA⟩:=zq sr (i:=i) (by omega);have fo:gj=[.bool (bO bs i)]:=by
   have:bs.getD i default=bO bs i:=by unfold bO;rw[QL];rfl
   rw[<-this];exact fo
  subst fo;have au:=zMJ bs i;have tY:=zKE bs i;cases jW:bO bs i with
  |true=>
   rw[jW]at eJ;rw[jW,QF rfl]at au;refine go ?_;refine WO.bl [(i:Int)] ?_;intro v4 h4 e4 o4;refine go ?_;refine VN (ow.ext e4) o4.sl (e3.trans e4) (by simp only[QV];omega) ?_;intro v5 h5 e5 o5;refine go ?_;exact zA (i+1) (by omega) ⟨e5,Wn,by omega,v5,WH,by rw[au];exact o5⟩
  |false=>
   rw[jW]at eJ;rw[jW,QC (by simp)]at au;refine go ?_;exact zA (i+1) (by omega) ⟨e3,Wn,by omega,w,WH,by rw[au];exact ow⟩
 ·have aK:i=L.length:=by omega
  subst aK;refine gr ?_;have tY:=zKE bs L.length;refine⟨⟨_,ow.since az,zI5 _ _,by omega,fun c=> ?_⟩,az.trans e3⟩;rw[zOn];exact⟨fun hh=>(AW.out c).1 ((iU.out c hh.1).1 hh.2),fun w=>⟨qd.out c w,(iU.out c (qd.out c w)).2 ((AW.out c).2 w)⟩⟩
end Go.Proofs.YtmejfcakhpihlaaGreatDoor
set_option maxRecDepth 100000
namespace Go.Proofs.YtmejfcakhpihlaaGreatDoor
open Go.Am
structure En(h:WA)(vt vf:Value)(T:List WE)(F:List Wa):Prop where
 tt:Br h
 hm:h.mark<=h.n
 sm:BC T F
 si:zEw F
 st:Wu h vt T
 sf:Wo h vf F
theorem En.ext{h h':WA}{vt vf:Value}{T:List WE}{F:List Wa}(E:En h vt vf T F)(e:Ext h h'):En h' vt vf T F:=
 ⟨E.tt.ext e,zp e E.hm,E.sm,E.si,E.st.ext e,Wo.ext E.sf e⟩
theorem En.inC{h:WA}{vt vf:Value}{T:List WE}{F:List Wa}(E:En h vt vf T F):En (inC (zB 0 h)) vt vf T F:=⟨E.tt,QE _,E.sm,E.si,E.st,E.sf⟩
theorem zIm(h:WA)(vt vf:Value)(T:List WE)(F:List Wa)(E:En h vt vf T F):
  WC Tryz.prog tb 59 [.agg #[vt,vf]] h fun r h'=>r=I (ZE T F)/\Ext h h':=by
 have st:=E.st;have sf:=E.sf;have hT:=E.sm.types;have hF:=E.sm.funcs;obtain⟨ta,tn,tk,rfl⟩:=zD st;obtain⟨ga,gn,gk,rfl⟩:=zD sf;refine en ?_;refine VF ?_;intro p h1 e1 o1;have bL:=st.ext e1;have fV:=Wo.ext sf e1;refine go ?_;refine VA (zK0 h1 _ T bL (by omega) (fun x hx=>by have:=E.sm.parts x hx;omega)) ?_;rintro _ h2 ⟨rfl,e2⟩;have o1:=o1.ext e2;have bj:=e1.trans e2;by_cases hc:yS T=0;case neg=>
  have bM:yS T≠0:=hc;refine gr ?_;exact⟨by unfold ZE;rw[QF hc];rfl,bj⟩
 have E2:=E.ext bj;rw[hc];have iC:ZE T F=if(!zd ((F.length:Int)-1) 8||F.any fun f=> !BW T F.length f)then 60 else 0:=by unfold ZE;rw[QC (fun e=>e hc)]
 refine go ?_;refine VD (fun i=>F.length-i) (fun i t h3=>Ext h2 h3/\zC t 4=I i/\i<=F.length/\WK (∀ j,j<i->BW T F.length (F.getD j default)=true)) 0 ?_ ?_
 ·exact⟨Ext.refl _,WH,QK _,⟨fun j hj=>absurd hj (Qk _)⟩⟩
 rintro i t h3 ab ⟨e3,s4,hi,aF⟩;have o1:=o1.ext e3;have aN:=bj.trans e3;have E3:=E2.ext e3;have gT:=E3.sf;refine go ?_;refine VE (fun hd=> ?_) (fun hd=> ?_)<;>simp only[DB]at hd
 ·have ae:i<F.length:=by omega
  have aw:=zE (l:=F) ae;refine go ?_;refine VC 0 rfl rfl ?_;have jd:WB h (inC (zB 0 h3)) p [_,_]:=o1;have dJ:Wo (inC (zB 0 h3)) _ F:=gT;obtain⟨cs,⟨vb,rfl,sb,cD⟩,pc,hs⟩:=zq dJ ae;obtain⟨ba,bn,bk,rfl⟩:=zD sb;refine WJ ?_;refine VA (zIF (inC (zB 0 h3)) _ _ T F (F.getD i default) [I (F.getD i default).sig,.slice ba bn bk] E.sm E.si aw (QE _) E3.inC.st dJ ⟨_,rfl,sb,cD⟩) ?_;rintro _ h4 ⟨rfl,e4⟩;refine nE e4 ?_;refine WJ ?_;have e5:Ext h3 (outC h3 (inC h4)):=e4.reg;obtain⟨h5,ub⟩:∃ h5,h5=outC h3 (inC h4):=⟨_,rfl⟩;rw[<-ub]at e5;rw[<-ub];clear jd dJ pc e4 ub sb;cases hfn:BW T F.length (F.getD i default)with
  |false=>
   refine gr ?_;refine⟨?_,aN.trans e5⟩;rw[iC,Gy.2 ⟨_,aw,by rw[hfn];rfl⟩,Q8];rfl
  |true=>
   refine go ?_;refine zA (i+1) (by omega) ⟨e3.trans e5,Wn,by omega,⟨fun j hj=> ?_⟩⟩;by_cases e:j=i
   ·subst e;exact hfn
   ·exact aF.out j (by omega)
 ·have uc:(F.any fun f=> !BW T F.length f)=false:=YW fun f hf=>by
   obtain⟨j,hj,rfl⟩:=Zo hf;rw[aF.out j (by omega)];rfl
  rw[uc,Qz]at iC;by_cases c1:(F.length:Int)<1
  ·refine gr ?_;refine⟨?_,aN⟩;have:zd ((F.length:Int)-1) 8=false:=by unfold zd;simp;omega
   rw[iC,this];rfl
  by_cases c2:8<(F.length:Int)
  ·refine gr ?_;refine⟨?_,aN⟩;have:zd ((F.length:Int)-1) 8=false:=by unfold zd;simp;omega
   rw[iC,this];rfl
  ·refine gr ?_;refine⟨?_,aN⟩;have:zd ((F.length:Int)-1) 8=true:=by unfold zd;simp;omega
   rw[iC,this];rfl
theorem zEu{T:List WE}{F:List Wa}{f:Int}(h:(yL T F f).2=0):0<=f/\f<(F.length:Int)/\ZE T F=0/\yL T F f=(((T.getD (F.getD f.toNat default).sig.toNat default).parts.length:Int),0):=by
 unfold yL at h |-;split at h
 ·rename_i hp;exact absurd h hp
 ·rename_i hp;rw[QC hp];split at h
  ·rename_i hb;have aI:=hb;unfold zd at aI;simp at aI;exact⟨aI.1,aI.2,by omega,by rw[QF hb]⟩
  ·cases h
theorem zLG(h:WA)(vt vf:Value)(T:List WE)(F:List Wa)(f:Int)(E:En h vt vf T F)(hf:0<=f/\f<(F.length:Int))(bH:0<=(F.getD f.toNat default).sig/\(F.getD f.toNat default).sig<(T.length:Int)):
  WC Tryz.prog tb 159 [.agg #[vt,vf],I f] h fun r h'=>r=I (((T.getD (F.getD f.toNat default).sig.toNat default).parts.length:Int)+zJ (F.getD f.toNat default).blocks)/\Ext h h':=by
 have hF:=E.sm.funcs;have aw:=zE (l:=F) (i:=f.toNat) (by omega);have hB:=E.sm.blocks _ aw;have hI:=E.sm.ins _ aw;have rz:=zCe hI;have rC:=E.sm.parts _ (zE (l:=T) (i:=(F.getD f.toNat default).sig.toNat) (by omega));obtain⟨ta,tn,tk,rfl⟩:=zD E.st;obtain⟨ga,gn,gk,rfl⟩:=zD E.sf;refine en ?_;refine VF ?_;intro p h1 e1 o1;have E1:=E.ext e1;have fV:=E1.sf;refine go ?_;refine VC 0 rfl rfl ?_;have jd:WB h (inC (zB 0 h1)) p [_,_]:=o1;have dJ:Wo (inC (zB 0 h1)) _ F:=fV;obtain⟨cs,⟨vb,rfl,sb,cD⟩,px,hs⟩:=zP fV (i:=f.toNat) (by omega);have fN:=(px h1 (Ext.refl _)).2;have fN:Wp (inC (zB 0 h1)) (.slice ga gn gk) (f.toNat*2) [I (F.getD f.toNat default).sig,vb]:=fN;obtain⟨ba,bn,bk,rfl⟩:=zD sb;obtain⟨qa,qn,qk,rG,AX⟩:=YI fV (i:=f.toNat) (by omega);refine WJ ?_;refine VA (zCJ (inC (zB 0 h1)) _ _ _ T F _ E1.inC.st dJ ⟨_,_,_,rfl⟩ bH (by omega)) ?_;rintro _ h2 ⟨rfl,e2⟩;refine nE e2 ?_;have wI:Wo (inC h2) (.slice ga gn gk) F:=by have:=Wo.ext dJ e2;exact this
 have e3:Ext h1 (outC h1 (inC h2)):=e2.reg;have Rc:Wp (inC h2) (.slice ga gn gk) (f.toNat*2) [I (F.getD f.toNat default).sig,.slice ba bn bk]:=by
  have:=(px _ e3).2;exact this
 have tZ:Wv (inC h2) (.slice ba bn bk) (F.getD f.toNat default).blocks:=by
  have:=Wv.ext sb e3;exact this
 have oh:WB h (inC h2) p [.slice ta tn tk,.slice ga gn gk]:=by have:=jd.ext e2;exact this
 refine WJ ?_;refine zCt o1 (QE _) ?_;refine WJ ?_;refine zJO ⟨qa,qn,qk,rG,AX⟩ ?_;refine WJ ?_;refine VA (zCl (inC h2) _ _ tZ hB hI) ?_;rintro _ _ ⟨rfl,rfl⟩;refine nQ ?_;refine WJ ?_;refine gr ?_;exact⟨rfl,e1.trans e3⟩
theorem zQu{T:List WE}{F:List Wa}{f:Int}(h:(yL T F f).2=0):0<=(F.getD f.toNat default).sig/\(F.getD f.toNat default).sig<(T.length:Int):=by
 obtain⟨h1,h2,h3,_⟩:=zEu h;exact zEX ((yN h3).2.2.2 _ (zE (l:=F) (i:=f.toNat) (by omega)))
theorem zN1{T:List WE}{F:List Wa}{f:Int}(h:(zG T F f 0).2=0){l:List Int}(hr:Ris l)(hm:∀ c,c∈l↔Wl (Wr (zG T F f 0).1) 0 c):(yX T F f).1=l:=by
 refine zPo ?_ hr fun x=>(Z2 h).trans (hm x).symm;obtain⟨_,_,_,_,h5,_⟩:=zAt h;exact h5
end Go.Proofs.YtmejfcakhpihlaaGreatDoor
set_option maxRecDepth 100000
namespace Go.Proofs.YtmejfcakhpihlaaGreatDoor
open Go.Am
theorem zH6(h:WA)(x:Bl):WC Tryz.prog tb 148 [.agg #[.int .u8 x.kind,I x.a,I x.to,I x.aE]] h fun r h'=>WL h h' r (yI x)/\Ext h h':=by
 unfold yI;refine en ?_;refine VF ?_;intro p h1 e1 o1;by_cases c2:x.kind=2
 ·rw[QF (.inl c2)];refine go ?_;refine WO.bl [x.a] ?_;intro v h2 e2 o2;refine gr ?_;exact⟨.inr (Wq.since o2 e1),e1.trans e2⟩
 by_cases c3:x.kind=3
 ·rw[QF (.inr c3)];refine go ?_;refine WO.bl [x.a] ?_;intro v h2 e2 o2;refine gr ?_;exact⟨.inr (Wq.since o2 e1),e1.trans e2⟩
 ·rw[QC (fun h=>h.elim c2 c3)];refine gr ?_;exact⟨.inl ⟨rfl,rfl⟩,e1⟩
end Go.Proofs.YtmejfcakhpihlaaGreatDoor
