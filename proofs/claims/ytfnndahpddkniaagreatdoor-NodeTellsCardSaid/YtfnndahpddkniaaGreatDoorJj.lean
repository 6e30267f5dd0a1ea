/- Walks of functions, plain laws; proves no statement. -/
import Derived.Test.YtfnndahpddkniaaGreatDoorJi
set_option linter.all false
set_option maxHeartbeats 4000000
set_option maxRecDepth 100000
namespace Go.Proofs.YtfnndahpddkniaaGreatDoor
open Go.Am
theorem _root_.Go.Am.OwnR.lt{α:Type}{c b:Nat}{R:Uy->List Value->α->Prop}{h:Uy}{v:Value}{xs:List α}(o:OwnR c R b h v xs){g n k:Nat}(e:v=.slice (some ⟨g,0,none⟩) n k):b<=g/\g<h.n:=by
 rcases o with⟨e2,_⟩|⟨g1,_,_,g2,g3,e2,_⟩
 ·rw[e2]at e;cases e
 ·rw[e2]at e;cases e;exact⟨g2,g3⟩
theorem zBT{hb h h':Uy}{p w:Value}{l:List Int}(o:U5 hb h w l)(u:Wb p h h')(hp:∀ g,p=.pointer (some ⟨g,0,none⟩)->g<hb.n):U5 hb h' w l:=by
 rcases o with o|⟨g,g1,g2,g3,g4⟩
 ·exact .inl o
 ·exact .inr ⟨g,g1,QK g2 u.1,g3,(u.2 g g2 (fun e=>by have:=hp g e;omega)).trans g4⟩
theorem zB2{hb h:Uy}{w:Value}{l:List Int}(o:U5 hb h w l):∃ a n k,w=.slice a n k:=WW.shape o.sl
theorem zET{h0 h:Uy}{p:Value}{cs:List Value}(o:Uz h0 h p cs):∀ g,p=.pointer (some ⟨g,0,none⟩)->h0.n<=g/\g<h.n:=by
 obtain⟨g,a,b,rfl,_⟩:=o;intro g' e;cases e;exact⟨a,b⟩
theorem zPq{hb h:Uy}{x:U0}{w:Value}(o:U5 hb h w x.parts)(hl:(x.parts.length:Int)<=9223372036854775807):Be RTy h [.int .u8 x.kind,I x.elem,I x.many,w] x (fun k=>hb.n<=k/\k<h.n):=
 fun hx hk hn=>⟨w,rfl,o.depI (fun k o a b e=>hk k o ⟨a,b⟩ e) hn,hl⟩
theorem zON{hb h:Uy}{x:WU}{va vf:Value}(oa:U5 hb h va x.args)(of:U5 hb h vf x.frm)(hla:(x.args.length:Int)<=1152921504606846976)(hlf:(x.frm.length:Int)<=1152921504606846976)(ho:0<=x.op/\x.op<=255):Be Wq h [.int .u8 x.op,I x.ty,I x.a,I x.b,I x.n,va,vf] x (fun k=>hb.n<=k/\k<h.n):=
 fun hx hk hn=>⟨va,vf,rfl,oa.depI (fun k o a b e=>hk k o ⟨a,b⟩ e) hn,of.depI (fun k o a b e=>hk k o ⟨a,b⟩ e) hn,hla,hlf,ho⟩
theorem zOO{b:Nat}{h:Uy}{x:WK}{vi:Value}(o:OwnR 7 Wq b h vi x.ins)(hl:(x.ins.length:Int)<=1152921504606846976):Be BJ h [vi,.int .u8 x.fin.kind,I x.fin.a,I x.fin.to,I x.fin.els] x (fun k=>b<=k/\k<h.n):=
 fun hx hk hn=>⟨vi,rfl,o.dep (fun k o a b e=>hk k o ⟨a,b⟩ e) hn,hl⟩
theorem zPl{b:Nat}{h:Uy}{x:WJ}{vb:Value}(o:OwnR 5 BJ b h vb x.blocks)(hl:(x.blocks.length:Int)<=1152921504606846976):Be RFn h [I x.sig,vb] x (fun k=>b<=k/\k<h.n):=
 fun hx hk hn=>⟨vb,rfl,o.dep (fun k o a b e=>hk k o ⟨a,b⟩ e) hn,hl⟩
theorem Ym{α:Type}{c b:Nat}{R:Uy->List Value->α->Prop}{h:Uy}{v:Value}{xs:List α}(o:OwnR c R b h v xs):∃ a n k,v=.slice a n k:=zD o.sl
theorem zAX{α:Type}[Inhabited α]{l:List α}{i:Nat}(h:i<l.length):l.take (i+1)=l.take i++[l.getD i default]:=by
 rw[Qv,QB h];simp[List.getD,QB h]
theorem zKt(h:Uy)(vt:Value)(T:List U0)(st:Wn h vt T)(hT:T.length<=1000)(hp:∀ x∈T,x.parts.length<=1000):
  WC Tryz.prog tb 31 [vt] h fun r h'=>OwnR 4 RTy h.n h' r T/\Ext h h':=by
 refine en ?_;replace hp:=WA.mk hp;refine go ?_;refine VD (fun i=>T.length-i) (fun i t h1=>Ext h h1/\zB t 4=I i/\i<=T.length/\∃ w,zB t 3=w/\OwnR 4 RTy h.n h1 w (T.take i)) 0 ?_ ?_
 ·exact⟨Ext.refl _,U4,QL _,_,U4,OwnR.nil⟩
 rintro i t h1 hsame ⟨e1,s4,hi,w,s3,ow⟩;have st1:=st.ext e1;refine go ?_;refine VE (fun hc=> ?_) (fun hc=> ?_)<;>simp only[DB]at hc
 ·have hi':i<T.length:=by omega
  obtain⟨cs,⟨va,rfl,sa,hla⟩,pc,hs⟩:=yO st1 hi';have hpl:=hp.out _ (zG (l:=T) hi');have hsucc:=zAX (l:=T) hi';generalize T.getD i default=x at *;obtain⟨aa,an,ak,rfl⟩:=yW sa;refine go ?_;refine VK ?_;intro p h2 e2 o2;have hpn:=zET o2;refine go ?_;refine VG o2 e2 ?_;intro h3 e3 o3 u3;have sa3:=sa.ext e3;have e23:h2.n<=h3.n:=u3.1;refine go ?_;refine WO.bl [] ?_;intro v4 h4 e4 o4;have o3:=o3.ext e4;have sa4:=sa3.ext e4;refine go ?_;refine VO (h0:=h3) (.inr o4) sa4 e4 (by simp;omega) ?_;intro v5 h5 e5 o5;rw[GJ]at o5;obtain⟨b5,n5,k5,rfl⟩:=zB2 o5;have o3:=(by assumption:Uz h1 h3 p _).ext e5;refine go ?_;refine VV (cs:=[.slice b5 n5 k5]) (j:=3) (hl:=by simp[zo]) o3 (e3.trans e5) ?_;intro h6 e6 o6 u6;have o5':=zBT o5 u6 (fun g e=>by have:=(hpn g e).2;omega);have e06:=e1.trans e6;refine go ?_;have hn6:h3.n<=h6.n:=by have:=e5.n;have:=u6.1;omega
  have hn1:h1.n<=h3.n:=e3.n;refine V7 x (fun k=>h3.n<=k/\k<h6.n) (ow.ext e6) e06 (QE _) (by have:=e1.n;omega) (by decide) (by rw[Qj];omega) (zPq o5' hla) (fun k hk=>⟨by have:=e1.n;omega,hk.2⟩) (fun g n k e hk=>by have:=(ow.lt e).2;omega) ?_;intro v7 h7 lit e7 o7 _ _;refine go ?_;exact zA (i+1) (by omega) ⟨e7,Wd,by omega,v7,U4,by rw[hsucc];exact o7⟩
 ·have hii:i=T.length:=by omega
  subst hii;rw[Qg]at ow;refine gr ?_;exact⟨ow,e1⟩
theorem zLF(h:Uy)(vb:Value)(L:List WK)(sb:We h vb L)(hL:L.length<=1000)(hI:∀ b∈L,b.ins.length<=1000)(hX:∀ b∈L,∀ x∈b.ins,x.args.length<=20/\x.frm.length<=20):
  WC Tryz.prog tb 32 [vb] h fun r h'=>OwnR 5 BJ h.n h' r L/\Ext h h':=by
 refine en ?_;replace hI:=WA.mk hI;replace hX:=WA.mk hX;refine go ?_;refine VD (fun i=>L.length-i) (fun i t h1=>Ext h h1/\zB t 4=I i/\i<=L.length/\∃ w,zB t 3=w/\OwnR 5 BJ h.n h1 w (L.take i)) 0 ?_ ?_
 ·exact⟨Ext.refl _,U4,QL _,_,U4,OwnR.nil⟩
 rintro i t h1 hsame ⟨e1,s4,hi,w,s3,ow⟩;have sb1:=We.ext sb e1;refine go ?_;refine VE (fun hc=> ?_) (fun hc=> ?_)<;>simp only[DB]at hc
 ·have hi':i<L.length:=by omega
  obtain⟨cs,⟨vi,rfl,si,hli⟩,pc,hs⟩:=zi sb1 hi';have hIl:=hI.out _ (zG (l:=L) hi');have hXl:=hX.out _ (zG (l:=L) hi');have hsucc:=zAX (l:=L) hi';obtain⟨B,hB0⟩:∃ B,L.getD i default=B:=⟨_,rfl⟩;rw[hB0]at si hli hIl hXl hsucc pc;replace hXl:=WA.mk hXl;have pf:Wc h1 vb (i*5) [vi,.int .u8 B.fin.kind,I B.fin.a,I B.fin.to,I B.fin.els]:=pc;obtain⟨ia,iN,ik,rfl⟩:=zD si;refine go ?_;refine VK ?_;intro p h2 e2 o2;have hpn:=zET o2;refine go ?_;refine VG o2 e2 ?_;intro h3 e3 o3 u3;have hn3:h2.n<=h3.n:=u3.1;refine go ?_;refine VD (fun k=>B.ins.length-k) (fun k t h4=>Ext h1 h4/\h3.n<=h4.n/\zB t 6=I k/\k<=B.ins.length/\∃ v',Uz h1 h4 p [v',.int .u8 B.fin.kind,I B.fin.a,I B.fin.to,I B.fin.els]/\OwnR 7 Wq h3.n h4 v' (B.ins.take k)) 0 ?_ ?_
  ·exact⟨e3,QE _,U4,QL _,_,o3,OwnR.nil⟩
  rintro k t2 h4 hsame2 ⟨e4,hn4,s6,hk,v',o4,ov⟩;have sb4:=We.ext sb1 e4;obtain⟨cs4,hcs4,pc4,hs4⟩:=zi sb4 hi';rw[hB0]at hcs4;obtain⟨vi4,rfl,si4,hli4⟩:=hcs4;obtain⟨va',vn',vk',rfl⟩:=Ym ov;refine go ?_;refine VE (fun hd=> ?_) (fun hd=> ?_)<;>simp only[DB]at hd
  ·have hk':k<B.ins.length:=by omega
   obtain⟨csx,⟨xa,xf,rfl,sxa,sxf,hla,hlf,ho⟩,pcx,hsx⟩:=zi si4 hk';have hxl:=hXl.out _ (zG (l:=B.ins) hk');have hsuccI:=zAX (l:=B.ins) hk';generalize B.ins.getD k default=x at *;obtain⟨a1,a2,a3,rfl⟩:=yW sxa;obtain⟨f1,f2,f3,rfl⟩:=yW sxf;refine go ?_;refine VK ?_;intro q h5 e5 o5;have hqn:=zET o5;have o4':=o4.ext e5;refine go ?_;refine VG o5 e5 ?_;intro h6 e6 o6 u6;have hn6:h5.n<=h6.n:=u6.1;have hn46:=e6.n;have sxa6:=sxa.ext e6;have sxf6:=sxf.ext e6;have o4'':=o4.ext e6;refine go ?_;refine WO.bl [] ?_;intro v7 h7 e7 o7;have o6:=o6.ext e7;have sxa7:=sxa6.ext e7;refine go ?_;refine VO (h0:=h6) (.inr o7) sxa7 e7 (by simp;omega) ?_;intro v8 h8 e8 o8;rw[GJ]at o8;obtain⟨b8,n8,k8,rfl⟩:=zB2 o8;have o6:=(by assumption:Uz h4 h6 q _).ext e8;refine go ?_;refine VV (cs:=[.slice b8 n8 k8]) (j:=5) (hl:=by simp[zo]) o6 (e6.trans e8) ?_;intro h9 e9 o9 u9;have o8:=zBT o8 u9 (fun g e=>by have:=(hqn g e).2;omega);have sxf9:=sxf.ext e9;have hn9:h6.n<=h9.n:=by have:=e8.n;have:=u9.1;omega
   refine go ?_;refine WO.bl [] ?_;intro v10 h10 e10 o10;have o9:=o9.ext e10;have sxf10:=sxf9.ext e10;have o8:=o8.ext e10;refine go ?_;refine VO (h0:=h9) (.inr o10) sxf10 e10 (by simp;omega) ?_;intro v11 h11 e11 o11;rw[GJ]at o11;obtain⟨b11,n11,k11,rfl⟩:=zB2 o11;have o8:=(by assumption:U5 h6 h9 (.slice b8 n8 k8) x.args).ext e11;have o9:=(by assumption:Uz h4 h9 q _).ext e11;refine go ?_;refine VV (cs:=[.slice b11 n11 k11]) (j:=6) (hl:=by simp[zo]) o9 (e9.trans e11) ?_;intro h12 e12 o12 u12;have hn12:h9.n<=h12.n:=by have:=e11.n;have:=u12.1;omega
   have o8:=zBT o8 u12 (fun g e=>by have:=(hqn g e).2;omega);have o11:=zBT o11 u12 (fun g e=>by have:=(hqn g e).2;omega);have o12p:=o4.ext e12;have ov12:=ov.ext e12;refine go ?_;have o11':U5 h6 h12 (.slice b11 n11 k11) x.frm:=by
    rcases o11 with o|⟨g,g1,g2⟩
    ·exact .inl o
    ·exact .inr ⟨g,by omega,g2⟩
   have hh1:=e3.n;refine V7 x (fun k=>h6.n<=k/\k<h12.n) ov12 (e4.trans e12) hh1 (by omega) (by decide) (by rw[Qj];omega) (zON o8 o11' hla hlf ho) (fun k hk=>⟨by omega,hk.2⟩) (fun g n k e hk=>by have:=(ov.lt e).2;omega) ?_;intro v13 h13 lit e13 o13 hn13 keep13;obtain⟨b13,n13,k13,rfl⟩:=Ym o13;have o13p:Uz h1 h13 p [.slice va' vn' vk',.int .u8 B.fin.kind,I B.fin.a,I B.fin.to,I B.fin.els]:=by
    obtain⟨g,g1,g2,hg,g3⟩:=o12p;refine⟨g,g1,by omega,hg,(keep13 g g2 (fun n k e=> ?_)).trans g3⟩;have h1:=(ov.lt e).1;have h2:=(hpn g hg).2;omega
   refine go ?_;refine VV (cs:=[.slice b13 n13 k13]) (j:=0) (hl:=by simp[zo]) o13p e13 ?_;intro h14 e14 o14 u14;have o13':=o13.upd (h':=h14) (fun k hk1 hk2=>u14.2 k hk2 (fun e=>by have:=(hpn k e).2;omega)) u14.1;refine go ?_;refine zA (k+1) (by omega) ⟨e14,by have:=u14.1;omega,Wd,by omega,_,o14,?_⟩;rw[hsuccI];exact o13'
  ·have hkk:k=B.ins.length:=by omega
   subst hkk;rw[Qg]at ov;refine go ?_;have hh1:=e3.n;refine V7 B (fun k=>h3.n<=k/\k<h4.n) (ow.ext e4) (e1.trans e4) (QE _) (by have:=e1.n;omega) (by decide) (by rw[Qj];omega) (zOO ov hli) (fun k hk=>⟨by have:=e1.n;omega,hk.2⟩) (fun g n k e hk=>by have:=(ow.lt e).2;omega) ?_;intro v5 h5 lit e5 o5 _ _;refine go ?_;exact zA (i+1) (by omega) ⟨e5,Wd,by omega,v5,U4,by rw[hsucc];exact o5⟩
 ·have hii:i=L.length:=by omega
  subst hii;rw[Qg]at ow;refine gr ?_;exact⟨ow,e1⟩
theorem zLj(h:Uy)(vt vf:Value)(T:List U0)(F:List WJ)(sm:Wv T F)(smi:zEz F)(hm:h.mark<=h.n)(st:Wn h vt T)(sf:Wa h vf F):
  WC Tryz.prog tb 10 [.agg #[vt,vf]] h fun r h'=>(∃ vt' vf',r=.agg #[vt',vf']/\Wn h' vt' T/\Wa h' vf' F)/\Ext h h':=by
 have hT:=sm.types;have hF:=sm.funcs;obtain⟨ta,tn,tk,rfl⟩:=zD st;obtain⟨ga,gn,gk,rfl⟩:=zD sf;refine en ?_;refine VF ?_;intro p1 h1 e1 o1;refine go ?_;refine VK ?_;intro p2 h2 e2 o2;have hp2:=zET o2;have o1:=o1.ext e2;have e02:=e1.trans e2;have st2:=st.ext e02;refine go ?_;refine VA (zKt h2 _ T st2 (by omega) (fun x hx=>by have:=sm.parts x hx;omega)) ?_;rintro w h3 ⟨ow,e3⟩;have swT:=ow.sl;obtain⟨wa,wn,wk,rfl⟩:=Ym ow;have o1:=o1.ext e3;have o2:=o2.ext e3;have e03:=e02.trans e3;have sf3:=Wa.ext sf e03;have hm3:=zp e03 hm;refine go ?_;refine VK ?_;intro p4 h4 e4 o4;have hpn:=zET o4;refine go ?_;refine VG o4 e4 ?_;intro h5 e5 o5 u5;have hn5:h4.n<=h5.n:=u5.1;have hn4:=e5.n;have o1:=o1.ext e5;have o2:=o2.ext e5;refine go ?_;refine VD (fun i=>F.length-i) (fun i t h6=>Ext h3 h6/\h5.n<=h6.n/\zB t 4=I i/\i<=F.length/\∃ v',Uz h3 h6 p4 [.slice wa wn wk,v']/\OwnR 2 RFn h5.n h6 v' (F.take i)) 0 ?_ ?_
 ·exact⟨e5,QE _,U4,QL _,_,o5,OwnR.nil⟩
 rintro i t h6 hsame ⟨e6,hn6,s4,hi,v',o6,ov⟩;have o1:=(by assumption:Uz h h3 p1 _).ext e6;have o2:=(by assumption:Uz h1 h3 p2 _).ext e6;have sf6:=Wa.ext sf3 e6;obtain⟨va',vn',vk',rfl⟩:=Ym ov;refine go ?_;refine VE (fun hd=> ?_) (fun hd=> ?_)<;>simp only[DB]at hd
 ·have hi':i<F.length:=by omega
  have hmem:=zG (l:=F) hi';have hsucc:=zAX (l:=F) hi';refine go ?_;refine VC 1 rfl rfl ?_;have o1X:Uz h (inC (zC 1 h6)) p1 [.slice ta tn tk,.slice ga gn gk]:=by have:=o1.ext (zH 1 h6);exact this
  have o6X:Uz h3 (inC (zC 1 h6)) p4 [.slice wa wn wk,.slice va' vn' vk']:=by have:=o6.ext (zH 1 h6);exact this
  have sfX:Wa (inC (zC 1 h6)) (.slice ga gn gk) F:=by have:=Wa.ext sf6 (zH 1 h6);exact this
  obtain⟨cs,⟨vb,rfl,sb,hlb⟩,pc,hs⟩:=zi sfX hi';have hB:=sm.blocks _ hmem;have hI:=sm.ins _ hmem;have hX:=smi _ hmem;generalize F.getD i default=f at *;obtain⟨ba,bn,bk,rfl⟩:=zD sb;refine WB ?_;refine VA (zLF (inC (zC 1 h6)) _ f.blocks sb hB hI hX) ?_;rintro v h7 ⟨ow7,e7⟩;obtain⟨ca,cn,ck,rfl⟩:=Ym ow7;refine nE e7 ?_;have hn7:h6.n+1<=h7.n:=e7.n;refine WB ?_;have hbn:(inC (zC 1 h6)).n=h6.n+1:=rfl;refine UG (hB:=h3) (p:=p4) (cells:=[.slice wa wn wk,.slice va' vn' vk']) f (fun k=>h6.n+1<=k/\k<h7.n) e7 ov e6 (by rw[e6.mark];exact hm3) (by omega) hn6 (by decide) (by rw[Qj];omega) o6 (fun g e=>by have:=(hpn g e).2;omega) (zPl (b:=h6.n+1) ow7 (by omega)) (fun k hk=>⟨by omega,hk.2⟩) (fun g n k e hk=>by have:=(ov.lt e).2;omega) (fun hk=>by omega) (by simp) rfl ?_;intro H v8 t8 hs8 eH oH _ ovH _ hnH;refine go ?_;exact zA (i+1) (by omega) ⟨eH,by omega,Wd,by omega,v8,oH,by rw[hsucc];exact ovH⟩
 ·have hii:i=F.length:=by omega
  subst hii;rw[Qg]at ov;refine go ?_;refine VG o2 (e2.trans (e3.trans e6)) ?_;intro h7 e7 o7 u7;refine gr ?_;have keep:∀ k,h2.n<=k->k<h6.n->h7.get k=h6.get k:=fun k hk1 hk2=>u7.2 k hk2 (fun e=>by
   have:=hp2 k e;omega)
  exact⟨⟨_,_,rfl,((ow.ext e6).upd keep u7.1).sl,(ov.upd (fun k hk1 hk2=>keep k (by have:=e3.n;omega) hk2) u7.1).sl⟩,e1.trans e7⟩
end Go.Proofs.YtfnndahpddkniaaGreatDoor
set_option maxRecDepth 100000
namespace Go.Proofs.YtfnndahpddkniaaGreatDoor
open Go.Am
theorem Yy(h:Uy)(v w:Value)(a b:List Int)(sa:WH h v a)(sb:WH h w b)(ha:(a.length:Int)<=1000000000):
  WC Tryz.prog tb 91 [v,w] h fun r h'=>r=.bool (decide (a=b))/\h=h':=by
 refine en ?_;by_cases hl:(a.length:Int)=(b.length:Int);case neg=>
  have hne:a≠b:=fun e=>hl (by rw[e]);refine gr ?_;exact⟨by rw[QS hne];rfl,rfl⟩
 refine go ?_;refine VD (fun i=>a.length-i) (fun i t h1=>h=h1/\zB t 5=I i/\i<=a.length/\WA (∀ j,j<i->a.getD j 0=b.getD j 0)) 0 ?_ ?_
 ·exact⟨rfl,U4,QL _,⟨fun j hj=>absurd hj (Ql _)⟩⟩
 rintro i t _ hsame ⟨rfl,s5,hi,hm⟩;refine go ?_;refine VE (fun hb=> ?_) (fun hb=> ?_)<;>simp only[DB]at hb
 ·have hi':i<a.length:=by omega
  by_cases he:a.getD i 0=b.getD i 0
  ·refine go ?_;refine zA (i+1) (by omega) ⟨rfl,Wd,by omega,⟨fun j hj=> ?_⟩⟩;by_cases e:j=i
   ·subst e;exact he
   ·exact hm.out j (by omega)
  ·have hne:a≠b:=fun e=>he (by rw[e]);refine gr ?_;exact⟨by rw[QS hne];rfl,rfl⟩
 ·have heq:a=b:=by
   refine JE (by omega) fun j h1 h2=> ?_;have:=hm.out j (by omega);simpa [List.getD,QB h1,QB h2]using this
  refine gr ?_;exact⟨by rw[QT heq];rfl,rfl⟩
theorem zK2(h:Uy)(v w:Value)(T:List U0)(sa:Wn h v T)(sb:Wn h w T)(hT:T.length<=1000)(hp:∀ x∈T,x.parts.length<=1000):
  WC Tryz.prog tb 43 [v,w] h fun r h'=>r=.bool true/\h=h':=by
 refine en ?_;replace hp:=WA.mk hp;refine go ?_;refine VD (fun i=>T.length-i) (fun i t h1=>h=h1/\zB t 5=I i/\i<=T.length) 0 ?_ ?_
 ·exact⟨rfl,U4,QL _⟩
 rintro i t _ hsame ⟨rfl,s5,hi⟩;refine go ?_;refine VE (fun hb=> ?_) (fun hb=> ?_)<;>simp only[DB]at hb
 ·have hi':i<T.length:=by omega
  have hpl:=hp.out _ (zG (l:=T) hi');obtain⟨cs1,⟨va1,rfl,sa1,hla1⟩,pc1,hs1⟩:=yO sa hi';obtain⟨cs2,⟨va2,rfl,sa2,hla2⟩,pc2,hs2⟩:=yO sb hi';generalize T.getD i default=x at *;refine go ?_;refine VD (fun k=>x.parts.length-k) (fun k t h1=>h=h1/\zB t 6=I k/\k<=x.parts.length) 0 ?_ ?_
  ·exact⟨rfl,U4,QL _⟩
  rintro k t2 _ hsame2 ⟨rfl,s6,hk⟩;refine go ?_;refine VE (fun hc=> ?_) (fun hc=> ?_)<;>simp only[DB]at hc
  ·have hk':k<x.parts.length:=by omega
   refine go ?_;exact zA (k+1) (by omega) ⟨rfl,Wd,by omega⟩
  ·refine go ?_;exact zA (i+1) (by omega) ⟨rfl,Wd,by omega⟩
 ·refine gr ?_;exact⟨rfl,rfl⟩
theorem zH3(h:Uy)(v w:Value)(L:List WU)(sa:W2 h v L)(sb:W2 h w L)(hm:h.mark<=h.n)(hL:L.length<=1000)(hX:∀ x∈L,x.args.length<=20/\x.frm.length<=20):
  WC Tryz.prog tb 70 [v,w] h fun r h'=>r=.bool true/\Ext h h':=by
 refine en ?_;replace hX:=WA.mk hX;refine go ?_;refine VD (fun i=>L.length-i) (fun i t h1=>Ext h h1/\zB t 5=I i/\i<=L.length) 0 ?_ ?_
 ·exact⟨Ext.refl _,U4,QL _⟩
 rintro i t h1 hsame ⟨e1,s5,hi⟩;have sa1:=W2.ext sa e1;have sb1:=W2.ext sb e1;have hm1:=zp e1 hm;refine go ?_;refine VE (fun hb=> ?_) (fun hb=> ?_)<;>simp only[DB]at hb
 ·have hi':i<L.length:=by omega
  have hxl:=hX.out _ (zG (l:=L) hi');obtain⟨aa,an,ak,hav,hab⟩:=YO sa1 hi';obtain⟨ba,bn,bk,hbv,hbb⟩:=YO sb1 hi';refine go ?_;refine Vh (fun g=>g=h1.n\/g=h1.n+1) 2 rfl rfl ?_;have saX:W2 (inC (zC 2 h1)) v L:=by have:=W2.ext sa1 (zH 2 h1);exact this
  have sbX:W2 (inC (zC 2 h1)) w L:=by have:=W2.ext sb1 (zH 2 h1);exact this
  obtain⟨cs1,⟨xa,xf,rfl,sxa,sxf,hla,hlf,ho⟩,px1,hs1⟩:=zd sa1 hi';obtain⟨cs2,⟨ya,yf,rfl,sya,syf,hlb,hlg,ho2⟩,px2,hs2⟩:=zd sb1 hi';have pc1:=(px1 _ (zH 2 h1)).2;have pc2:=(px2 _ (zH 2 h1)).2;generalize L.getD i default=x at *;obtain⟨a1,a2,a3,rfl⟩:=yW sxa;obtain⟨f1,f2,f3,rfl⟩:=yW sxf;obtain⟨b1,b2,b3,rfl⟩:=yW sya;obtain⟨g1,g2,g3,rfl⟩:=yW syf;refine goV ?_;refine zLm ⟨aa,an,ak,hav,by omega⟩ ?_;refine goV ?_;refine zLm ⟨ba,bn,bk,hbv,by omega⟩ ?_;refine goV ?_;refine UC hm1 ?_;intro h2 p q e2 op oq;have sxa2:WH h2 (.slice a1 a2 a3) x.args:=sxa.ext e2;have sxf2:WH h2 (.slice f1 f2 f3) x.frm:=sxf.ext e2;have sya2:WH h2 (.slice b1 b2 b3) x.args:=sya.ext e2;have syf2:WH h2 (.slice g1 g2 g3) x.frm:=syf.ext e2;refine go ?_;refine VA (Yy h2 _ _ x.args x.args sxa2 sya2 (by omega)) ?_;rintro _ _ ⟨rfl,rfl⟩;refine go ?_;refine VA (Yy h2 _ _ x.frm x.frm sxf2 syf2 (by omega)) ?_;rintro _ _ ⟨rfl,rfl⟩;refine go ?_;exact zA (i+1) (by omega) ⟨e1.trans e2,Wd,by omega⟩
 ·refine gr ?_;exact⟨rfl,e1⟩
theorem zKS(h:Uy)(v w:Value)(L:List WK)(sa:We h v L)(sb:We h w L)(hm:h.mark<=h.n)(hL:L.length<=1000)(hI:∀ b∈L,b.ins.length<=1000)(hX:∀ b∈L,∀ x∈b.ins,x.args.length<=20/\x.frm.length<=20):
  WC Tryz.prog tb 44 [v,w] h fun r h'=>r=.bool true/\Ext h h':=by
 refine en ?_;replace hI:=WA.mk hI;replace hX:=WA.mk hX;refine go ?_;refine VD (fun i=>L.length-i) (fun i t h1=>Ext h h1/\zB t 5=I i/\i<=L.length) 0 ?_ ?_
 ·exact⟨Ext.refl _,U4,QL _⟩
 rintro i t h1 hsame ⟨e1,s5,hi⟩;have sa1:=We.ext sa e1;have sb1:=We.ext sb e1;refine go ?_;refine VE (fun hb=> ?_) (fun hb=> ?_)<;>simp only[DB]at hb
 ·have hi':i<L.length:=by omega
  have hmem:=zG (l:=L) hi';have hIl:=hI.out _ hmem;have hXl:=hX.out _ hmem;refine go ?_;refine VC 0 rfl rfl ?_;have saX:We (inC (zC 0 h1)) v L:=sa1;have sbX:We (inC (zC 0 h1)) w L:=sb1;obtain⟨cs1,⟨v1,rfl,sn1,hl1⟩,pc1,hs1⟩:=zi saX hi';obtain⟨cs2,⟨v2,rfl,sn2,hl2⟩,pc2,hs2⟩:=zi sbX hi';generalize L.getD i default=B at *;obtain⟨a1,a2,a3,rfl⟩:=zD sn1;obtain⟨b1,b2,b3,rfl⟩:=zD sn2;refine WB ?_;refine Vr (zPV (xs:=#[.int .u8 B.fin.kind,I B.fin.a,I B.fin.to,I B.fin.els]) (ys:=#[.int .u8 B.fin.kind,I B.fin.a,I B.fin.to,I B.fin.els]) (b:=true) (by kernel_rfl) (by simp[zAF,zEV,I])) ?_;refine nQ ?_;refine WB ?_;refine VA (zH3 _ _ _ B.ins sn1 sn2 (QE _) hIl hXl) ?_;rintro _ h2 ⟨rfl,e2⟩;refine nE e2 ?_;refine WB ?_;have e3:Ext h1 (outC h1 (inC h2)):=e2.reg;refine go ?_;exact zA (i+1) (by omega) ⟨e1.trans e3,Wd,by omega⟩
 ·refine gr ?_;exact⟨rfl,e1⟩
theorem zM4(h:Uy)(vt vf wt wf:Value)(T:List U0)(F:List WJ)(sm:Wv T F)(smi:zEz F)(hm:h.mark<=h.n)(st:Wn h vt T)(sf:Wa h vf F)(st2:Wn h wt T)(sf2:Wa h wf F):
  WC Tryz.prog tb 14 [.agg #[vt,vf],.agg #[wt,wf]] h fun r h'=>r=.bool true/\Ext h h':=by
 have hT:=sm.types;have hF:=sm.funcs;obtain⟨ta,tn,tk,rfl⟩:=zD st;obtain⟨ga,gn,gk,rfl⟩:=zD sf;obtain⟨ua,un,uk,rfl⟩:=zD st2;obtain⟨za,zn,zk,rfl⟩:=zD sf2;refine en ?_;refine VF ?_;intro p h1 e1 o1;refine go ?_;refine VF ?_;intro q h2 e2 o2;have o1:=o1.ext e2;have e12:=e1.trans e2;have st_2:=st.ext e12;have sf_2:=Wa.ext sf e12;have st2_2:=st2.ext e12;have sf2_2:=Wa.ext sf2 e12;have hm2:=zp e12 hm;refine go ?_;refine VA (zK2 h2 _ _ T st_2 st2_2 (by omega) (fun x hx=>by have:=sm.parts x hx;omega)) ?_;rintro _ _ ⟨rfl,rfl⟩;refine go ?_;refine VD (fun i=>F.length-i) (fun i t h3=>Ext h2 h3/\zB t 5=I i/\i<=F.length) 0 ?_ ?_
 ·exact⟨Ext.refl _,U4,QL _⟩
 rintro i t h3 hsame ⟨e3,s5,hi⟩;have o1:=o1.ext e3;have o2:=o2.ext e3;have sf3:=Wa.ext sf_2 e3;have sf23:=Wa.ext sf2_2 e3;refine go ?_;refine VE (fun hb=> ?_) (fun hb=> ?_)<;>simp only[DB]at hb
 ·have hi':i<F.length:=by omega
  have hmem:=zG (l:=F) hi';have hB:=sm.blocks _ hmem;have hI:=sm.ins _ hmem;have hX:=smi _ hmem;refine go ?_;refine VC 0 rfl rfl ?_;have o1X:Uz h (inC (zC 0 h3)) p [_,_]:=o1;have o2X:Uz h1 (inC (zC 0 h3)) q [_,_]:=o2;have saX:Wa (inC (zC 0 h3)) _ F:=sf3;have sbX:Wa (inC (zC 0 h3)) _ F:=sf23;obtain⟨cs1,⟨v1,rfl,sn1,hl1⟩,pc1,hs1⟩:=zi saX hi';obtain⟨cs2,⟨v2,rfl,sn2,hl2⟩,pc2,hs2⟩:=zi sbX hi';generalize F.getD i default=f at *;obtain⟨a1,a2,a3,rfl⟩:=zD sn1;obtain⟨b1,b2,b3,rfl⟩:=zD sn2;refine WB ?_;refine VA (zKS _ _ _ f.blocks sn1 sn2 (QE _) hB hI hX) ?_;rintro _ h4 ⟨rfl,e4⟩;refine nE e4 ?_;refine WB ?_;have e5:Ext h3 (outC h3 (inC h4)):=e4.reg;refine go ?_;exact zA (i+1) (by omega) ⟨e3.trans e5,Wd,by omega⟩
 ·refine gr ?_;exact⟨rfl,e12.trans e3⟩
inductive Br(nx:Int->List Int)(first:List Int)(but:Int):Int->Prop
 |here {a:Int}:a∈first->a≠but->Br nx first but a
 |step {b c:Int}:Br nx first but b->c∈nx b->c≠but->Br nx first but c
theorem Br.way{nx:Int->List Int}{first:List Int}{but c:Int}(h:Br nx first but c):∃ a∈first,WR nx a c:=by
 induction h with
 |here h _=>exact⟨_,h,.here⟩
 |step _ hc _ ih=>obtain⟨a,h1,h2⟩:=ih;exact⟨a,h1,.step h2 hc⟩
theorem Br.in{nx:Int->List Int}{first:List Int}{but c:Int}{N:Nat}(hin:∀ b,0<=b/\b<(N:Int)->∀ c∈nx b,0<=c/\c<(N:Int))(hf:∀ a∈first,0<=a/\a<(N:Int))(h:Br nx first but c):0<=c/\c<(N:Int):=by
 induction h with
 |here h _=>exact hf _ h
 |step _ hc _ ih=>exact hin _ ih _ hc
theorem zJq{nx:Int->List Int}{first:List Int}{c:Int}{N:Nat}(hin:∀ b,0<=b/\b<(N:Int)->∀ c∈nx b,0<=c/\c<(N:Int))(hf:∀ a∈first,0<=a/\a<(N:Int)):Br nx first (-1) c↔∃ a∈first,WR nx a c:=by
 refine⟨Br.way,fun hh=> ?_⟩;obtain⟨a,h1,h2⟩:=hh;have:Br nx first (-1) c/\0<=c/\c<(N:Int):=by
  induction h2 with
  |here=>exact⟨.here h1 (by have:=hf a h1;omega),hf a h1⟩
  |step _ hc ih=>
   have:=hin _ ih.2 _ hc;exact⟨.step ih.1 hc (by omega),this⟩
 exact this.1
abbrev bO(bs:List Bool)(j:Int):Bool:=bs.getD j.toNat false
theorem zMi{bs:List Bool}{j c:Int}{b:Bool}(hc:0<=c/\c<(bs.length:Int))(hj:0<=j):bO (bs.set c.toNat b) j=if j=c then b else bO bs j:=by
 unfold bO;rw[QI,List.getElem?_set];by_cases e:j=c
 ·subst e;rw[QF rfl,QF (by omega),QF rfl];rfl
 ·rw[QC (by omega),QC e,QI]
theorem zFf{xs ys:List Bool}(hl:xs.length=ys.length)(h:∀ j:Int,0<=j/\j<(xs.length:Int)->bO xs j=bO ys j):xs=ys:=by
 refine JE hl fun j h1 h2=> ?_;have:=h (j:Int) (by omega);simpa [bO,List.getD,QB h1,QB h2]using this
def zPW(nx:Int->List Int)(but:Int)(bs:List Bool)(j:Int):Prop:=bO bs j=true->∀ c∈nx j,c≠but->bO bs c=true
def Cl(nx:Int->List Int)(but:Int)(bs:List Bool):Prop:=∀ j:Int,0<=j/\j<(bs.length:Int)->zPW nx but bs j
structure Swp(nx:Int->List Int)(first:List Int)(but:Int)(N:Nat)(bs0 bs:List Bool)(i:Nat):Prop where
 len0:bs0.length=N
 len:bs.length=N
 le:∀ j:Int,0<=j->bO bs0 j=true->bO bs j=true
 sound:∀ j:Int,0<=j->bO bs j=true->Br nx first but j
 cl:Cl nx but bs0->bs=bs0
 fix:bs=bs0->∀ j:Int,0<=j/\j<(i:Int)->zPW nx but bs j
theorem XH{nx:Int->List Int}{first:List Int}{but:Int}{N:Nat}{bs:List Bool}(hl:bs.length=N)(hs:∀ j:Int,0<=j->bO bs j=true->Br nx first but j):Swp nx first but N bs bs 0:=
 ⟨hl,hl,fun _ _ h=>h,hs,fun _=>rfl,fun _ j hj=>by omega⟩
theorem Swp.add{nx:Int->List Int}{first:List Int}{but:Int}{N i:Nat}{bs0 bs:List Bool}{c:Int}(s:Swp nx first but N bs0 bs i)(hi:bO bs i=true)(hc:c∈nx i)(hin:0<=c/\c<(N:Int))(hiN:i<N):
  Swp nx first but N bs0 (bs.set c.toNat (bO bs c|| !decide (c=but))) i/\(bs.set c.toNat (bO bs c|| !decide (c=but))=bs0->bs=bs0)/\bO (bs.set c.toNat (bO bs c|| !decide (c=but))) i=true/\(c≠but->bO (bs.set c.toNat (bO bs c|| !decide (c=but))) c=true):=by
 have hlc:0<=c/\c<(bs.length:Int):=by rw[s.len];exact hin
 have get:∀ j:Int,0<=j->bO (bs.set c.toNat (bO bs c|| !decide (c=but))) j=if j=c then(bO bs c|| !decide (c=but))else bO bs j:=fun j hj=>zMi hlc hj;have up:∀ j:Int,0<=j->bO bs j=true->bO (bs.set c.toNat (bO bs c|| !decide (c=but))) j=true:=fun j hj h=>by
  rw[get j hj];split
  ·rename_i e;subst e;rw[h];rfl
  ·exact h
 have back:bs.set c.toNat (bO bs c|| !decide (c=but))=bs0->bs=bs0:=fun e=>by
  refine zFf (by rw[s.len,s.len0]) fun j hj=> ?_;cases h1:bO bs j with
  |true=>have:=up j hj.1 h1;rw[e]at this;exact this.symm
  |false=>
   cases h2:bO bs0 j with
   |false=>rfl
   |true=>rw[s.le j hj.1 h2]at h1;cases h1
 refine⟨⟨s.len0,by rw[Gv];exact s.len,fun j hj h=>up j hj (s.le j hj h),fun j hj h=> ?_,fun h=> ?_,fun e j hj=> ?_⟩,back,up i (by omega) hi,fun h=> ?_⟩
 ·rw[get j hj]at h;split at h
  ·rename_i e;subst e;rw[GE]at h;rcases h with h|h
   ·exact s.sound _ hj h
   ·exact .step (s.sound i (by omega) hi) hc (by simpa using h)
  ·exact s.sound j hj h
 ·have e:=s.cl h;subst e;refine zFf (by rw[Gv]) fun j hj=> ?_;rw[Gv]at hj;rw[get j hj.1];split
  ·rename_i e;subst e;by_cases hb:j=but
   ·simp[hb]
   ·rw[h i (by rw[s.len];omega) hi j hc hb];rfl
  ·rfl
 ·have e2:=back e;have:=s.fix e2 j hj;subst e2;rw[e];exact this
 ·rw[get c hin.1,QF rfl];simp[h]
theorem Swp.next{nx:Int->List Int}{first:List Int}{but:Int}{N i:Nat}{bs0 bs:List Bool}(s:Swp nx first but N bs0 bs i)(h:bs=bs0->zPW nx but bs i):Swp nx first but N bs0 bs (i+1):=
 ⟨s.len0,s.len,s.le,s.sound,s.cl,fun e j hj=>by
  by_cases hji:j=i
  ·rw[hji];exact h e
  ·exact s.fix e j (by omega)⟩
def zK0(bs:List Bool):Nat:=bs.countP id
theorem zOP{xs ys:List Bool}(hl:xs.length=ys.length)(hle:∀ j:Int,0<=j->bO xs j=true->bO ys j=true)(hne:xs≠ys):zK0 xs<zK0 ys:=by
 unfold zK0;induction xs generalizing ys with
 |nil=>cases ys with
  |nil=>exact absurd rfl hne
  |cons=>cases hl
 |cons x xs ih=>
  cases ys with
  |nil=>cases hl
  |cons y ys=>
   have hle':∀ j:Int,0<=j->bO xs j=true->bO ys j=true:=fun j hj h=>by
    have:=hle (j+1) (by omega);have e:(j+1).toNat=j.toNat+1:=by omega
    unfold bO at this h |-;rw[e]at this;simpa [List.getD]using this (by simpa [List.getD]using h)
   have h0:x=true->y=true:=fun h=>by have:=hle 0 (Qe _);simpa [bO,List.getD,h]using this
   have hlen:xs.length=ys.length:=by simpa using hl
   have mono:∀ {ps qs:List Bool},ps.length=qs.length->(∀ j:Int,0<=j->bO ps j=true->bO qs j=true)->ps.countP id<=qs.countP id:=by
    intro ps;induction ps with
    |nil=>intro qs _ _;simp
    |cons a ps iha=>
     intro qs hl2 h2;cases qs with
     |nil=>cases hl2
     |cons b qs=>
      have h3:∀ j:Int,0<=j->bO ps j=true->bO qs j=true:=fun j hj h=>by
       have:=h2 (j+1) (by omega);have e:(j+1).toNat=j.toNat+1:=by omega
       unfold bO at this h |-;rw[e]at this;simpa [List.getD]using this (by simpa [List.getD]using h)
      have h4:a=true->b=true:=fun h=>by have:=h2 0 (Qe _);simpa [bO,List.getD,h]using this
      have:=iha (by simpa using hl2) h3;simp only[List.countP_cons,id];cases a with
      |true=>rw[h4 rfl];omega
      |false=>cases b<;>simp<;>omega
   have hm:=mono hlen hle';simp only[List.countP_cons,id];by_cases hxy:x=y
   ·subst hxy;have:=ih hlen hle' (fun e=>hne (by rw[e]));omega
   ·cases x with
    |true=>exact absurd (h0 rfl).symm hxy
    |false=>
     cases y with
     |true=>simp;omega
     |false=>exact absurd rfl hxy
theorem zLq{bs:List Bool}(h:bs.length<=zK0 bs){j:Int}(hj:0<=j/\j<(bs.length:Int)):bO bs j=true:=by
 unfold zK0 at h;have h2:bs.countP id=bs.length:=Nat.le_antisymm List.countP_le_length h;rw[List.countP_eq_length]at h2;have hi:j.toNat<bs.length:=by omega
 have:=h2 (bs[j.toNat]) (List.getElem_mem hi);simpa [bO,List.getD,QB hi]using this
structure Rds(nx:Int->List Int)(first:List Int)(but:Int)(N:Nat)(bs:List Bool)(n:Nat):Prop where
 len:bs.length=N
 sound:∀ j:Int,0<=j->bO bs j=true->Br nx first but j
 init:∀ a∈first,a≠but->bO bs a=true
 cl:Cl nx but bs\/n<=zK0 bs
theorem Rds.next{nx:Int->List Int}{first:List Int}{but:Int}{N n:Nat}{bs0 bs:List Bool}(hf:∀ a∈first,0<=a)(r:Rds nx first but N bs0 n)(s:Swp nx first but N bs0 bs N):Rds nx first but N bs (n+1):=by
 refine⟨s.len,s.sound,fun a ha hb=>s.le a (hf a ha) (r.init a ha hb),?_⟩;by_cases e:bs=bs0
 ·left;intro j hj;exact s.fix e j (by rw[s.len]at hj;exact hj)
 ·right;rcases r.cl with h|h
  ·exact absurd (s.cl h) e
  ·have:=zOP (by rw[s.len,s.len0]) s.le (Ne.symm e);omega
theorem Rds.done{nx:Int->List Int}{first:List Int}{but:Int}{N:Nat}{bs:List Bool}(hin:∀ b,0<=b/\b<(N:Int)->∀ c∈nx b,0<=c/\c<(N:Int))(hf:∀ a∈first,0<=a/\a<(N:Int))(r:Rds nx first but N bs N)(j:Int)(hj:0<=j/\j<(N:Int)):bO bs j=true↔Br nx first but j:=by
 refine⟨r.sound j hj.1,fun h=> ?_⟩;have hcl:Cl nx but bs:=by
  rcases r.cl with h|h
  ·exact h
  ·intro i hi _ c hc _;rw[r.len]at hi;exact zLq (by rw[r.len];exact h) (by rw[r.len];exact hin i hi c hc)
 clear hj;induction h with
 |here ha hb=>exact r.init _ ha hb
 |step hb hc hne ih=>exact hcl _ (by rw[r.len];exact hb.in hin hf) ih _ hc hne
end Go.Proofs.YtfnndahpddkniaaGreatDoor
set_option maxRecDepth 100000
namespace Go.Proofs.YtfnndahpddkniaaGreatDoor
open Go.Am
theorem zMQ(h:Uy)(x:BP):
  WC Tryz.prog tb 121 [.agg #[.int .u8 x.kind,I x.a,I x.to,I x.els]] h fun r h'=>U5 h h' r (ZL x)/\Ext h h':=by
 refine en ?_;refine VF ?_;intro p h1 e1 o1;unfold ZL;by_cases k1:x.kind=1
 ·rw[QF k1];refine go ?_;refine WO.bl [x.to] ?_;intro v h2 e2 o2;refine gr ?_;exact⟨.inr (o2.since e1),e1.trans e2⟩
 rw[QC k1];by_cases k2:x.kind=2
 ·rw[QF k2];by_cases k3:x.to=x.els
  ·rw[QF k3];refine go ?_;refine WO.bl [x.to] ?_;intro v h2 e2 o2;refine gr ?_;exact⟨.inr (o2.since e1),e1.trans e2⟩
  ·rw[QC k3];refine go ?_;refine WO.bl [x.to,x.els] ?_;intro v h2 e2 o2;refine gr ?_;exact⟨.inr (o2.since e1),e1.trans e2⟩
 ·rw[QC k2];refine gr ?_;exact⟨.inl ⟨rfl,rfl⟩,e1⟩
theorem zOp(h:Uy)(v:Value)(l:List Int)(n:Int)(s:WH h v l)(hl:(l.length:Int)<=1000000):
  WC Tryz.prog tb 120 [v,I n] h fun r h'=>r=.bool (decide (n∈l))/\h=h':=by
 refine en ?_;refine VD (fun i=>l.length-i) (fun i t h1=>h=h1/\zB t 5=I i/\i<=l.length/\WA (∀ j,j<i->l.getD j 0≠n)) 0 ?_ ?_
 ·exact⟨rfl,U4,QL _,⟨fun j hj=>absurd hj (Ql _)⟩⟩
 rintro i t _ hsame ⟨rfl,s5,hi,hm⟩;refine go ?_;refine VE (fun hb=> ?_) (fun hb=> ?_)<;>simp only[DB]at hb
 ·have hi':i<l.length:=by omega
  by_cases he:l.getD i 0=n
  ·have hin:n∈l:=by rw[<-he];exact zO hi'
   refine gr ?_;exact⟨by rw[QT hin];rfl,rfl⟩
  ·refine go ?_;refine zA (i+1) (by omega) ⟨rfl,Wd,by omega,⟨fun j hj=> ?_⟩⟩;by_cases e:j=i
   ·subst e;exact he
   ·exact hm.out j (by omega)
 ·have hno:n∉l:=fun hin=>by
   obtain⟨j,hj,e⟩:=Zg hin;exact hm.out j (by omega) e
  refine gr ?_;exact⟨by rw[QS hno];rfl,rfl⟩
theorem zIu{h0 h h':Uy}{v:Value}{bs:List Bool}(o:Wu h0 h v bs){q:Nat}(hq:∃ n k,v=.slice (some ⟨q,0,none⟩) n k):h0.n<=q/\q<h.n:=by
 obtain⟨g,a,b,rfl,_⟩:=o;obtain⟨n,k,e⟩:=hq;cases e;exact⟨a,b⟩
theorem zDI{hA h h':Uy}{v w:Value}{l:List Int}(o:U5 hA h w l)(keep:∀ k,k<h.n->(∀ n k',v≠ .slice (some ⟨k,0,none⟩) n k')->h'.get k=h.get k)(hn:h.n<=h'.n)(hv:∀ q n k,v=.slice (some ⟨q,0,none⟩) n k->q<hA.n):U5 hA h' w l:=by
 rcases o with o|⟨g,g1,g2,g3,g4⟩
 ·exact .inl o
 ·exact .inr ⟨g,g1,by omega,g3,(keep g g2 (fun n k' e=>by have:=hv g n k' e;omega)).trans g4⟩
theorem zGq(h:Uy)(v w:Value)(L:List WK)(first:List Int)(but:Int)(hm:h.mark<=h.n)(sb:We h v L)(sw:WH h w first)(hL:L.length<=16)(hin:∀ c,0<=c/\c<(L.length:Int)->∀ d∈WT L c,0<=d/\d<(L.length:Int))(hf:∀ a∈first,0<=a/\a<(L.length:Int))(hfl:first.length<=1000):
  WC Tryz.prog tb 113 [v,w,I but] h fun r h'=>(∃ bs:List Bool,Wu h h' r bs/\bs.length=L.length/\∀ j:Int,0<=j/\j<(L.length:Int)->(bO bs j=true↔Br (WT L) first but j))/\Ext h h':=by
 replace hin:=WA.mk hin;replace hf:=WA.mk hf;refine en ?_;refine UN (n:=L.length) (by omega) ?_;intro r h1 e1 o1;have hrl:∀ j:Int,bO (List.replicate L.length false) j=false:=fun j=>by
  unfold bO;rw[QI,JD];split<;>rfl
 refine go ?_;refine VD (fun i=>first.length-i) (fun i t h2=>Ext h h2/\zB t 8=I i/\i<=first.length/\∃ bs:List Bool,Wu h h2 r bs/\bs.length=L.length/\WA ((∀ j:Int,0<=j->bO bs j=true->Br (WT L) first but j)/\∀ k,k<i->first.getD k 0≠but->bO bs (first.getD k 0)=true)) 0 ?_ ?_
 ·exact⟨e1,U4,QL _,_,o1,by simp,⟨⟨fun j hj hh=>(by rw[hrl]at hh;cases hh),fun k hk=>absurd hk (Ql _)⟩⟩⟩
 clear o1 hrl;rintro i t h2 hsame ⟨e2,s8,hi,bs,o2,hbl,hP⟩;have sw2:=sw.ext e2;refine go ?_;refine VE (fun hb=> ?_) (fun hb=> ?_)<;>simp only[DB]at hb
 ·have hi':i<first.length:=by omega
  have hfi:=hf.out _ (zO hi');have hbd:(first.getD i 0).toNat<bs.length:=by omega
  refine go ?_;refine VC 0 rfl rfl ?_;have swX:WH (inC (zC 0 h2)) w first:=sw2
  have oX:Wu h (zC 0 h2) r bs:=o2;have sX:zNw (inC (zC 0 h2)) r bs:=o2.sl;refine WB ?_;refine Vw (hS:=h2) (i:=(first.getD i 0).toNat) (b:= !decide (first.getD i 0=but)) oX e2 (by rw[e2.mark];exact hm) rfl hbd ?_;intro h3 e3 o3 _ _;refine go ?_;have hset:∀ j:Int,0<=j->bO (bs.set (first.getD i 0).toNat (!decide (first.getD i 0=but))) j=if j=first.getD i 0 then !decide (first.getD i 0=but)else bO bs j:=fun j hj=>zMi (by omega) hj
  refine zA (i+1) (by omega) ⟨e3,Wd,by omega,_,o3,by rw[Gv];exact hbl,⟨⟨fun j hj hh=> ?_,fun k hk hne=> ?_⟩⟩⟩
  ·rw[hset j hj]at hh;split at hh
   ·rename_i e;rw[e];exact .here (zO hi') (by simpa using hh)
   ·exact hP.out.1 j hj hh
  ·by_cases e:k=i
   ·subst e;rw[hset _ hfi.1,QF rfl];simpa using hne
   ·have hk':k<first.length:=by omega
    rw[hset _ (hf.out _ (zO hk')).1];split
    ·rename_i e2;rw[e2]at hne;simpa using hne
    ·exact hP.out.2 k (by omega) hne
 have hii:i=first.length:=by omega
 subst hii;have hR:WA (Rds (WT L) first but L.length bs 0):=⟨⟨hbl,hP.out.1,fun a ha hb=>by
  obtain⟨k,hk,rfl⟩:=Zg ha;exact hP.out.2 k hk hb,.inr (QL _)⟩⟩
 clear hP;refine go ?_;refine VD (fun n=>L.length-n) (fun n t h3=>Ext h h3/\zB t 9=I n/\n<=L.length/\∃ bs:List Bool,Wu h h3 r bs/\WA (Rds (WT L) first but L.length bs n)) 0 ?_ ?_
 ·exact⟨e2,U4,QL _,_,o2,hR⟩
 clear hR o2 hbl bs;rintro n t3 h3 hsame3 ⟨e3,s9,hn,bs0,o3,hR⟩;have sb3:=We.ext sb e3;refine go ?_;refine VE (fun hb=> ?_) (fun hb=> ?_)<;>simp only[DB]at hb;case refine_2=>
  have hnn:n=L.length:=by omega
  subst hnn;have hdone:=Rds.done hin.out hf.out hR.out;have hlen:=hR.out.len;refine gr ?_;exact⟨⟨bs0,o3,hlen,fun j hj=>hdone j hj⟩,e3⟩
 refine go ?_;refine VD (fun i=>L.length-i) (fun i t h4=>Ext h h4/\zB t 10=I i/\i<=L.length/\∃ bs:List Bool,Wu h h4 r bs/\WA (Swp (WT L) first but L.length bs0 bs i)) 0 ?_ ?_
 ·exact⟨e3,U4,QL _,_,o3,⟨XH hR.out.len hR.out.sound⟩⟩
 clear o3;rintro i t4 h4 hsame4 ⟨e4,s10,hi,bs,o4,hS⟩;have sb4:=We.ext sb e4;refine go ?_;refine VE (fun hc=> ?_) (fun hc=> ?_)<;>simp only[DB]at hc;case refine_2=>
  have hii:i=L.length:=by omega
  subst hii;refine go ?_;exact zA (n+1) (by omega) ⟨e4,Wd,by omega,_,o4,⟨Rds.next (fun a ha=>(hf.out a ha).1) hR.out hS.out⟩⟩
 have hi':i<L.length:=by omega
 obtain⟨cs,⟨vi,rfl,si,hsi⟩,pc,hs⟩:=zi sb4 hi';obtain⟨_,_,_,rfl⟩:=zD si;refine go ?_;refine VA (zMQ h4 (L.getD i default).fin) ?_;rintro u h5 ⟨ou,e5⟩;have hnx:ZL (L.getD i default).fin=WT L i:=by unfold WT;rw[QN]
 rw[hnx]at ou;have hul:(WT L i).length<=2:=zCD _;have hinI:=WA.mk (hin.out i (by omega));have hqv:∀ q n k,r=.slice (some ⟨q,0,none⟩) n k->q<h4.n:=fun q n k e=>(zIu (h':=h4) o4 ⟨n,k,e⟩).2;have o5:=o4.ext e5;have e45:=e4.trans e5;clear pc;generalize hX:WT L i=X at *;refine go ?_;refine VD (fun k=>X.length-k) (fun k t h6=>Ext h h6/\zB t 12=I k/\k<=X.length/\U5 h4 h6 u X/\∃ bs:List Bool,Wu h h6 r bs/\WA (Swp (WT L) first but L.length bs0 bs i/\(bs=bs0->bO bs i=true->∀ k',k'<k->X.getD k' 0≠but->bO bs (X.getD k' 0)=true))) 0 ?_ ?_
 ·exact⟨e45,U4,QL _,ou,_,o5,⟨⟨hS.out,fun _ _ k hk=>absurd hk (Ql _)⟩⟩⟩
 clear o4 o5 hS ou e45;rintro k t6 h6 hsame6 ⟨e6,s12,hk,ou,bs,o6,hS⟩;have hlen:=hS.out.1.len;have su:=ou.sl;have sr:=o6.sl;by_cases hkX:(k:Int)<X.length;case neg=>
  have hkk:k=X.length:=by omega
  subst hkk;refine go ?_;refine zA (i+1) (by omega) ⟨e6,Wd,by omega,_,o6,⟨hS.out.1.next fun e hb c hc hne=> ?_⟩⟩;rw[hX]at hc;obtain⟨k',hk',rfl⟩:=Zg hc;exact hS.out.2 e hb k' hk' hne
 have hk':k<X.length:=by omega
 obtain⟨cs1,hcs1,pc1,hs1⟩:=zi sr (i:=i) (by omega);have hcs1:cs1=[.bool (bO bs i)]:=by
  have:bs.getD i default=bO bs i:=by unfold bO;rw[QN];rfl
  rw[<-this];exact hcs1
 subst hcs1;by_cases hbi:bO bs i=true;case neg=>
  have hbi':bO bs i=false:=by simpa using hbi
  refine go ?_;refine zA (i+1) (by omega) ⟨e6,Wd,by omega,_,o6,⟨hS.out.1.next fun e hb=>absurd hb hbi⟩⟩
 have hci:=hinI.out _ (zO hk');have hcm:=zO hk';obtain⟨c,hc0⟩:∃ c,X.getD k 0=c:=⟨_,rfl⟩;rw[hc0]at hci hcm;have hcb:c.toNat<bs.length:=by omega
 rw[<-hX]at hcm;obtain⟨s1,s2,s3,s4⟩:=hS.out.1.add hbi hcm (by omega) hi';have hfin:WA (Swp (WT L) first but L.length bs0 (bs.set c.toNat (bO bs c|| !decide (c=but))) i/\(bs.set c.toNat (bO bs c|| !decide (c=but))=bs0->bO (bs.set c.toNat (bO bs c|| !decide (c=but))) i=true->∀ k',k'<k+1->X.getD k' 0≠but->bO (bs.set c.toNat (bO bs c|| !decide (c=but))) (X.getD k' 0)=true)):=by
  refine⟨⟨s1,fun e _ k' hk2 hne=> ?_⟩⟩;by_cases ek:k'=k
  ·subst ek;rw[hc0]at hne |-;exact s4 hne
  ·have e2:=s2 e;have:=hS.out.2 e2 hbi k' (by omega) hne;rw[e,<-e2];exact this
 clear s1 s2 s3 s4 hS;have s0:=hc0;refine go ?_;refine VC 0 rfl rfl ?_;have suX:WH (inC (zC 0 h6)) u X:=su;have oX:Wu h (zC 0 h6) r bs:=o6;have sX:zNw (inC (zC 0 h6)) r bs:=o6.sl;obtain⟨cs2,hcs2,pc2,hs2⟩:=zi sX (i:=c.toNat) hcb;have hcs2:cs2=[.bool (bO bs c)]:=hcs2;subst hcs2;refine WB ?_;rw[hc0];refine WB ?_;cases hbc:bO bs c with
 |true=>
  rw[hbc]at hfin pc2;refine WB ?_;refine Vw (hS:=h6) (i:=c.toNat) (b:=true) oX e6 (by rw[e6.mark];exact hm) rfl hcb ?_;intro h7 e7 o7 keep hn7;refine go ?_;exact zA (k+1) (by omega) ⟨e7,Wd,by omega,zDI ou keep hn7 hqv,_,o7,hfin⟩
 |false=>
  rw[hbc]at hfin pc2;refine WB ?_;rw[hc0];refine WB ?_;refine Vw (hS:=h6) (i:=c.toNat) (b:= !decide (c=but)) oX e6 (by rw[e6.mark];exact hm) rfl hcb ?_;intro h7 e7 o7 keep hn7;refine go ?_;exact zA (k+1) (by omega) ⟨e7,Wd,by omega,zDI ou keep hn7 hqv,_,o7,hfin⟩
end Go.Proofs.YtfnndahpddkniaaGreatDoor
set_option maxRecDepth 100000
namespace Go.Proofs.YtfnndahpddkniaaGreatDoor
open Go.Am
theorem zLR(h:Uy)(v:Value)(L:List WK)(b:Int)(sb:We h v L)(hL:L.length<=1000):
  WC Tryz.prog tb 158 [v,I b] h fun r h'=>U5 h h' r (zT L b L.length)/\Ext h h':=by
 refine en ?_;refine VD (fun i=>L.length-i) (fun i t h1=>Ext h h1/\zB t 6=I i/\i<=L.length/\∃ w,zB t 5=w/\U5 h h1 w (zT L b i)) 0 ?_ ?_
 ·exact⟨Ext.refl _,U4,QL _,_,U4,.inl ⟨rfl,rfl⟩⟩
 rintro i t h1 hsame ⟨e1,s6,hi,w,s5,ow⟩;have sb1:=We.ext sb e1;refine go ?_;refine VE (fun hb=> ?_) (fun hb=> ?_)<;>simp only[DB]at hb
 ·have hi':i<L.length:=by omega
  obtain⟨cs,⟨vi,rfl,si,hli⟩,pc,hs⟩:=zi sb1 hi';obtain⟨_,_,_,rfl⟩:=zD si;have hsucc:=zA3 L b i;have hln:=Yr L b i;refine go ?_;refine VA (zMQ h1 (L.getD i default).fin) ?_;rintro u h2 ⟨ou,e2⟩;have hul:(ZL (L.getD i default).fin).length<=2:=zCD _;refine go ?_;refine VA (zOp h2 u _ b ou.sl (by omega)) ?_;rintro _ _ ⟨rfl,rfl⟩;have ow2:=ow.ext e2;by_cases hb2:b∈ZL (L.getD i default).fin
  ·rw[QF hb2]at hsucc;refine go ?_;refine WO.bl [(i:Int)] ?_;intro v4 h4 e4 o4;refine go ?_;refine VO (ow2.ext e4) o4.sl ((e1.trans e2).trans e4) (by simp only[QX];omega) ?_;intro v5 h5 e5 o5;refine go ?_;exact zA (i+1) (by omega) ⟨e5,Wd,by omega,v5,U4,by rw[hsucc];exact o5⟩
  ·rw[QC hb2]at hsucc;refine go ?_;exact zA (i+1) (by omega) ⟨e1.trans e2,Wd,by omega,w,U4,by rw[hsucc];exact ow2⟩
 ·have hii:i=L.length:=by omega
  subst hii;refine gr ?_;exact⟨ow,e1⟩
end Go.Proofs.YtfnndahpddkniaaGreatDoor
set_option maxRecDepth 100000
namespace Go.Proofs.YtfnndahpddkniaaGreatDoor
open Go.Am
def Ris(l:List Int):Prop:=∀ i,i+1<l.length->l.getD i 0<l.getD (i+1) 0
theorem Ris.tail{a:Int}{l:List Int}(h:Ris (a::l)):Ris l:=fun i hi=>by
 have:=h (i+1) (by simp only[GB];omega);simpa [List.getD]using this
theorem Ris.lt{l:List Int}:∀ {a:Int},Ris (a::l)->∀ x∈l,a<x:=by
 induction l with
 |nil=>intro a _ x hx;cases hx
 |cons b l ih=>
  intro a h x hx;have h0:a<b:=by have:=h 0 (by simp);simpa [List.getD]using this
  rcases GH.1 hx with rfl|hx
  ·exact h0
  ·have:=ih h.tail x hx;omega
theorem zOI{l k:List Int}(hl:Ris l)(hk:Ris k)(h:∀ x,x∈l↔x∈k):l=k:=by
 induction l generalizing k with
 |nil=>
  cases k with
  |nil=>rfl
  |cons b k=>have:=(h b).2 (by simp);cases this
 |cons a l ih=>
  cases k with
  |nil=>have:=(h a).1 (by simp);cases this
  |cons b k=>
   have hab:a=b:=by
    have h1:=(h a).1 (by simp);have h2:=(h b).2 (by simp);rcases GH.1 h1 with e|h1
    ·exact e
    ·rcases GH.1 h2 with e|h2
     ·exact e.symm
     ·have:=hl.lt b h2;have:=hk.lt a h1;omega
   subst hab;congr 1;refine ih hl.tail hk.tail fun x=>⟨fun hx=> ?_,fun hx=> ?_⟩
   ·rcases GH.1 ((h x).1 (by simp[hx]))with e|h2
    ·have:=hl.lt x hx;omega
    ·exact h2
   ·rcases GH.1 ((h x).2 (by simp[hx]))with e|h2
    ·have:=hk.lt x hx;omega
    ·exact h2
theorem zIR(p:Nat->Bool)(n:Nat):Ris (((List.range n).filter p).map fun(i:Nat)=>(i:Int)):=by
 intro i hi;have hp:((List.range n).filter p).Pairwise (·<·):=List.Pairwise.filter _ List.pairwise_lt_range;rw[Qz]at hi;have:=List.pairwise_iff_getElem.1 hp i (i+1) (by omega) hi (by omega);simp only[QI,GS,QB hi,QB (show i<((List.range n).filter p).length by omega),QH,GA];omega
def onL(bs:List Bool)(n:Nat):List Int:=((List.range n).filter fun(i:Nat)=>bO bs (i:Int)).map fun(i:Nat)=>(i:Int)
theorem zM6(bs:List Bool)(n:Nat):onL bs (n+1)=if bO bs (n:Int)then onL bs n++[(n:Int)]else onL bs n:=by
 unfold onL;rw[List.range_succ,List.filter_append,GD];by_cases h:bO bs (n:Int)=true
 ·rw[QF h,List.filter_cons_of_pos (by simpa using h)];rfl
 ·rw[QC h,List.filter_cons_of_neg (by simpa using h)];simp
theorem zJf(bs:List Bool)(n:Nat):(onL bs n).length<=n:=by
 unfold onL;rw[Qz];exact QU (List.length_filter_le _ _) (by simp)
theorem zNy{bs:List Bool}{n:Nat}{x:Int}:x∈onL bs n↔(0<=x/\x<(n:Int))/\bO bs x=true:=by
 unfold onL;rw[Q6];constructor
 ·rintro⟨i,hi,rfl⟩;rw[Gn,GP]at hi;exact⟨by omega,hi.2⟩
 ·rintro⟨h1,h2⟩;refine⟨x.toNat,?_,by omega⟩;rw[Gn,GP];refine⟨by omega,?_⟩;rw[show((x.toNat:Nat):Int)=x by omega];exact h2
theorem zIY(h:Uy)(v:Value)(L:List WK)(hm:h.mark<=h.n)(sb:We h v L)(hL:L.length<=16)(hL0:0<L.length)(hin:∀ c,0<=c/\c<(L.length:Int)->∀ d∈WT L c,0<=d/\d<(L.length:Int)):
  WC Tryz.prog tb 88 [v] h fun r h'=>(∃ l,U5 h h' r l/\Ris l/\l.length<=16/\∀ c,c∈l↔WR (WT L) 0 c)/\Ext h h':=by
 have hf0:∀ a∈([0]:List Int),0<=a/\a<(L.length:Int):=fun a ha=>by rw[Qb]at ha;subst ha;omega
 have hrw:∀ c,Br (WT L) [0] (-1) c↔WR (WT L) 0 c:=fun c=>by
  rw[zJq hin hf0];exact⟨fun⟨a,ha,w⟩=>by rw[Qb]at ha;subst ha;exact w,fun w=>⟨0,by simp,w⟩⟩
 have hwin:∀ c,WR (WT L) 0 c->0<=c/\c<(L.length:Int):=fun c w=>((hrw c).2 w).in hin hf0;replace hwin:=WA.mk hwin;replace hrw:=WA.mk hrw;refine en ?_;refine WO.bl [0] ?_;intro v1 h1 e1 o1;refine go ?_;refine VA (zGq h1 v v1 L [0] (-1) (zp e1 hm) (We.ext sb e1) o1.sl hL hin hf0 (by simp)) ?_;rintro r h2 ⟨⟨bs,ob,hbl,hbs⟩,e2⟩;replace hbs:=WA.mk hbs;have e12:=e1.trans e2;refine go ?_;refine VD (fun i=>L.length-i) (fun i t h3=>Ext h2 h3/\zB t 5=I i/\i<=L.length/\∃ w,zB t 3=w/\U5 h2 h3 w (onL bs i)) 0 ?_ ?_
 ·exact⟨Ext.refl _,U4,QL _,_,U4,.inl ⟨rfl,rfl⟩⟩
 rintro i t h3 hsame ⟨e3,s5,hi,w,s3,ow⟩;have sr:zNw h3 r bs:=(ob.ext e3).sl;refine go ?_;refine VE (fun hb=> ?_) (fun hb=> ?_)<;>simp only[DB]at hb
 ·have hi':i<L.length:=by omega
  obtain⟨cs1,hcs1,pc1,hs1⟩:=zi sr (i:=i) (by omega);have hcs1:cs1=[.bool (bO bs i)]:=by
   have:bs.getD i default=bO bs i:=by unfold bO;rw[QN];rfl
   rw[<-this];exact hcs1
  subst hcs1;have hsucc:=zM6 bs i;have hln:=zJf bs i;cases hbi:bO bs i with
  |true=>
   rw[hbi]at pc1;rw[hbi,QF rfl]at hsucc;refine go ?_;refine WO.bl [(i:Int)] ?_;intro v4 h4 e4 o4;refine go ?_;refine VO (ow.ext e4) o4.sl (e3.trans e4) (by simp only[QX];omega) ?_;intro v5 h5 e5 o5;refine go ?_;exact zA (i+1) (by omega) ⟨e5,Wd,by omega,v5,U4,by rw[hsucc];exact o5⟩
  |false=>
   rw[hbi]at pc1;rw[hbi,QC (by simp)]at hsucc;refine go ?_;exact zA (i+1) (by omega) ⟨e3,Wd,by omega,w,U4,by rw[hsucc];exact ow⟩
 ·have hii:i=L.length:=by omega
  subst hii;refine gr ?_;have hln:=zJf bs L.length;refine⟨⟨_,ow.since e12,zIR _ _,by omega,fun c=> ?_⟩,e12.trans e3⟩;rw[zNy];exact⟨fun hh=>(hrw.out c).1 ((hbs.out c hh.1).1 hh.2),fun w=>⟨hwin.out c w,(hbs.out c (hwin.out c w)).2 ((hrw.out c).2 w)⟩⟩
end Go.Proofs.YtfnndahpddkniaaGreatDoor
set_option maxRecDepth 100000
namespace Go.Proofs.YtfnndahpddkniaaGreatDoor
open Go.Am
structure En(h:Uy)(vt vf:Value)(T:List U0)(F:List WJ):Prop where
 tt:BU h
 hm:h.mark<=h.n
 sm:Wv T F
 si:zEz F
 st:Wn h vt T
 sf:Wa h vf F
theorem En.ext{h h':Uy}{vt vf:Value}{T:List U0}{F:List WJ}(E:En h vt vf T F)(e:Ext h h'):En h' vt vf T F:=
 ⟨E.tt.ext e,zp e E.hm,E.sm,E.si,E.st.ext e,Wa.ext E.sf e⟩
theorem En.inC{h:Uy}{vt vf:Value}{T:List U0}{F:List WJ}(E:En h vt vf T F):En (inC (zC 0 h)) vt vf T F:=⟨E.tt,QE _,E.sm,E.si,E.st,E.sf⟩
theorem zIG(h:Uy)(vt vf:Value)(T:List U0)(F:List WJ)(E:En h vt vf T F):
  WC Tryz.prog tb 65 [.agg #[vt,vf]] h fun r h'=>r=I (yx T F)/\Ext h h':=by
 have st:=E.st;have sf:=E.sf;have hT:=E.sm.types;have hF:=E.sm.funcs;obtain⟨ta,tn,tk,rfl⟩:=zD st;obtain⟨ga,gn,gk,rfl⟩:=zD sf;refine en ?_;refine VF ?_;intro p h1 e1 o1;have st1:=st.ext e1;have sf1:=Wa.ext sf e1;refine go ?_;refine VA (zLM h1 _ T st1 (by omega) (fun x hx=>by have:=E.sm.parts x hx;omega)) ?_;rintro _ h2 ⟨rfl,e2⟩;have o1:=o1.ext e2;have e02:=e1.trans e2;by_cases hc:yR T=0;case neg=>
  have hc':yR T≠0:=hc;refine gr ?_;exact⟨by unfold yx;rw[QF hc];rfl,e02⟩
 have E2:=E.ext e02;rw[hc];have hp0:yx T F=if(!zY ((F.length:Int)-1) 8||F.any fun f=> !BF T F.length f)then 60 else 0:=by unfold yx;rw[QC (fun e=>e hc)]
 refine go ?_;refine VD (fun i=>F.length-i) (fun i t h3=>Ext h2 h3/\zB t 4=I i/\i<=F.length/\WA (∀ j,j<i->BF T F.length (F.getD j default)=true)) 0 ?_ ?_
 ·exact⟨Ext.refl _,U4,QL _,⟨fun j hj=>absurd hj (Ql _)⟩⟩
 rintro i t h3 hsame ⟨e3,s4,hi,hall⟩;have o1:=o1.ext e3;have e03:=e02.trans e3;have E3:=E2.ext e3;have sf3:=E3.sf;refine go ?_;refine VE (fun hd=> ?_) (fun hd=> ?_)<;>simp only[DB]at hd
 ·have hi':i<F.length:=by omega
  have hmem:=zG (l:=F) hi';refine go ?_;refine VC 0 rfl rfl ?_;have o1X:Uz h (inC (zC 0 h3)) p [_,_]:=o1;have sfX:Wa (inC (zC 0 h3)) _ F:=sf3;obtain⟨cs,⟨vb,rfl,sb,hlb⟩,pc,hs⟩:=zi sfX hi';obtain⟨ba,bn,bk,rfl⟩:=zD sb;refine WB ?_;refine VA (zG6 (inC (zC 0 h3)) _ _ T F (F.getD i default) [I (F.getD i default).sig,.slice ba bn bk] E.sm E.si hmem (QE _) E3.inC.st sfX ⟨_,rfl,sb,hlb⟩) ?_;rintro _ h4 ⟨rfl,e4⟩;refine nE e4 ?_;refine WB ?_;have e5:Ext h3 (outC h3 (inC h4)):=e4.reg;obtain⟨h5,hh5⟩:∃ h5,h5=outC h3 (inC h4):=⟨_,rfl⟩;rw[<-hh5]at e5;rw[<-hh5];clear o1X sfX pc e4 hh5 sb;cases hfn:BF T F.length (F.getD i default)with
  |false=>
   refine gr ?_;refine⟨?_,e03.trans e5⟩;rw[hp0,Gx.2 ⟨_,hmem,by rw[hfn];rfl⟩,Q3];rfl
  |true=>
   refine go ?_;refine zA (i+1) (by omega) ⟨e3.trans e5,Wd,by omega,⟨fun j hj=> ?_⟩⟩;by_cases e:j=i
   ·subst e;exact hfn
   ·exact hall.out j (by omega)
 ·have hany:(F.any fun f=> !BF T F.length f)=false:=YK fun f hf=>by
   obtain⟨j,hj,rfl⟩:=ZY hf;rw[hall.out j (by omega)];rfl
  rw[hany,Qt]at hp0;by_cases c1:(F.length:Int)<1
  ·refine gr ?_;refine⟨?_,e03⟩;have:zY ((F.length:Int)-1) 8=false:=by unfold zY;simp;omega
   rw[hp0,this];rfl
  by_cases c2:8<(F.length:Int)
  ·refine gr ?_;refine⟨?_,e03⟩;have:zY ((F.length:Int)-1) 8=false:=by unfold zY;simp;omega
   rw[hp0,this];rfl
  ·refine gr ?_;refine⟨?_,e03⟩;have:zY ((F.length:Int)-1) 8=true:=by unfold zY;simp;omega
   rw[hp0,this];rfl
theorem zEG{T:List U0}{F:List WJ}{f:Int}(h:(z8 T F f).2=0):0<=f/\f<(F.length:Int)/\yx T F=0/\z8 T F f=(((T.getD (F.getD f.toNat default).sig.toNat default).parts.length:Int),0):=by
 unfold z8 at h |-;split at h
 ·rename_i hp;exact absurd h hp
 ·rename_i hp;rw[QC hp];split at h
  ·rename_i hb;have hb2:=hb;unfold zY at hb2;simp at hb2;exact⟨hb2.1,hb2.2,by omega,by rw[QF hb]⟩
  ·cases h
theorem zFq(h:Uy)(vt vf:Value)(T:List U0)(F:List WJ)(f:Int)(E:En h vt vf T F)(hf:0<=f/\f<(F.length:Int))(hsig:0<=(F.getD f.toNat default).sig/\(F.getD f.toNat default).sig<(T.length:Int)):
  WC Tryz.prog tb 51 [.agg #[vt,vf],I f] h fun r h'=>r=I (((T.getD (F.getD f.toNat default).sig.toNat default).parts.length:Int)+zN (F.getD f.toNat default).blocks)/\Ext h h':=by
 have hF:=E.sm.funcs;have hmem:=zG (l:=F) (i:=f.toNat) (by omega);have hB:=E.sm.blocks _ hmem;have hI:=E.sm.ins _ hmem;have hmany:=zCf hI;have hpart:=E.sm.parts _ (zG (l:=T) (i:=(F.getD f.toNat default).sig.toNat) (by omega));obtain⟨ta,tn,tk,rfl⟩:=zD E.st;obtain⟨ga,gn,gk,rfl⟩:=zD E.sf;refine en ?_;refine VF ?_;intro p h1 e1 o1;have E1:=E.ext e1;have sf1:=E1.sf;refine go ?_;refine VC 0 rfl rfl ?_;have o1X:Uz h (inC (zC 0 h1)) p [_,_]:=o1;have sfX:Wa (inC (zC 0 h1)) _ F:=sf1;obtain⟨cs,⟨vb,rfl,sb,hlb⟩,px,hs⟩:=zd sf1 (i:=f.toNat) (by omega);have pcX:=(px h1 (Ext.refl _)).2;have pcX:Wc (inC (zC 0 h1)) (.slice ga gn gk) (f.toNat*2) [I (F.getD f.toNat default).sig,vb]:=pcX;obtain⟨ba,bn,bk,rfl⟩:=zD sb;obtain⟨qa,qn,qk,hqv,hqb⟩:=YO sf1 (i:=f.toNat) (by omega);refine WB ?_;refine VA (zBu (inC (zC 0 h1)) _ _ _ T F _ E1.inC.st sfX ⟨_,_,_,rfl⟩ hsig (by omega)) ?_;rintro _ h2 ⟨rfl,e2⟩;refine nE e2 ?_;have sfY:Wa (inC h2) (.slice ga gn gk) F:=by have:=Wa.ext sfX e2;exact this
 have e3:Ext h1 (outC h1 (inC h2)):=e2.reg;have pcY:Wc (inC h2) (.slice ga gn gk) (f.toNat*2) [I (F.getD f.toNat default).sig,.slice ba bn bk]:=by
  have:=(px _ e3).2;exact this
 have sbY:We (inC h2) (.slice ba bn bk) (F.getD f.toNat default).blocks:=by
  have:=We.ext sb e3;exact this
 have o1Y:Uz h (inC h2) p [.slice ta tn tk,.slice ga gn gk]:=by have:=o1X.ext e2;exact this
 refine WB ?_;refine zCJ o1 (QE _) ?_;refine WB ?_;refine zIa ⟨qa,qn,qk,hqv,hqb⟩ ?_;refine WB ?_;refine VA (zCg (inC h2) _ _ sbY hB hI) ?_;rintro _ _ ⟨rfl,rfl⟩;refine nQ ?_;refine WB ?_;refine gr ?_;exact⟨rfl,e1.trans e3⟩
theorem zPj{T:List U0}{F:List WJ}{f:Int}(h:(z8 T F f).2=0):0<=(F.getD f.toNat default).sig/\(F.getD f.toNat default).sig<(T.length:Int):=by
 obtain⟨h1,h2,h3,_⟩:=zEG h;exact zEc ((yT h3).2.2.2 _ (zG (l:=F) (i:=f.toNat) (by omega)))
theorem zLr{T:List U0}{F:List WJ}{f:Int}(h:(zE T F f 0).2=0){l:List Int}(hr:Ris l)(hm:∀ c,c∈l↔WR (WT (zE T F f 0).1) 0 c):(yM T F f).1=l:=by
 refine zOI ?_ hr fun x=>(Zn h).trans (hm x).symm;obtain⟨_,_,_,_,h5,_⟩:=zAS h;exact h5
end Go.Proofs.YtfnndahpddkniaaGreatDoor
set_option maxRecDepth 100000
namespace Go.Proofs.YtfnndahpddkniaaGreatDoor
open Go.Am
theorem zHk(h:Uy)(x:BP):WC Tryz.prog tb 119 [.agg #[.int .u8 x.kind,I x.a,I x.to,I x.els]] h fun r h'=>U5 h h' r (yC x)/\Ext h h':=by
 unfold yC;refine en ?_;refine VF ?_;intro p h1 e1 o1;by_cases c2:x.kind=2
 ·rw[QF (.inl c2)];refine go ?_;refine WO.bl [x.a] ?_;intro v h2 e2 o2;refine gr ?_;exact⟨.inr (WQ.since o2 e1),e1.trans e2⟩
 by_cases c3:x.kind=3
 ·rw[QF (.inr c3)];refine go ?_;refine WO.bl [x.a] ?_;intro v h2 e2 o2;refine gr ?_;exact⟨.inr (WQ.since o2 e1),e1.trans e2⟩
 ·rw[QC (fun h=>h.elim c2 c3)];refine gr ?_;exact⟨.inl ⟨rfl,rfl⟩,e1⟩
end Go.Proofs.YtfnndahpddkniaaGreatDoor
