/- Walks of functions, plain laws; proves no statement. -/
import Derived.Test.YtfnndahpddkniaaGreatDoorJi
set_option linter.all false
set_option maxHeartbeats 4000000
set_option maxRecDepth 100000
namespace Go.Proofs.YtfnndahpddkniaaGreatDoor
open Go.Am
theorem _root_.Go.Am.OwnR.lt{α:Type}{c b:Nat}{R:U0->List Value->α->Prop}{h:U0}{v:Value}{xs:List α}(o:OwnR c R b h v xs){g n k:Nat}(e:v=.slice (some ⟨g,0,none⟩) n k):b<=g/\g<h.n:=by
 rcases o with⟨e2,_⟩|⟨g1,_,_,g2,g3,e2,_⟩
 ·rw[e2]at e;cases e
 ·rw[e2]at e;cases e;exact⟨g2,g3⟩
theorem zBV{hb h h':U0}{p w:Value}{l:List Int}(o:U7 hb h w l)(u:Wg p h h')(hp:∀ g,p=.pointer (some ⟨g,0,none⟩)->g<hb.n):U7 hb h' w l:=by
 rcases o with o|⟨g,g1,g2,g3,g4⟩
 ·exact .inl o
 ·exact .inr ⟨g,g1,QM g2 u.1,g3,(u.2 g g2 (fun e=>by have:=hp g e;omega)).trans g4⟩
theorem zBs{hb h:U0}{w:Value}{l:List Int}(o:U7 hb h w l):∃ a n k,w=.slice a n k:=WW.shape o.sl
theorem zD7{h0 h:U0}{p:Value}{cs:List Value}(o:U1 h0 h p cs):∀ g,p=.pointer (some ⟨g,0,none⟩)->h0.n<=g/\g<h.n:=by
 obtain⟨g,a,b,rfl,_⟩:=o;intro g' e;cases e;exact⟨a,b⟩
theorem zO0{hb h:U0}{x:U2}{w:Value}(o:U7 hb h w x.parts)(hl:(x.parts.length:Int)<=9223372036854775807):Bl RTy h [.int .u8 x.kind,I x.elem,I x.many,w] x (fun k=>hb.n<=k/\k<h.n):=
 fun hx hk hn=>⟨w,rfl,o.depI (fun k o a b e=>hk k o ⟨a,b⟩ e) hn,hl⟩
theorem zOD{hb h:U0}{x:WY}{va vf:Value}(oa:U7 hb h va x.args)(of:U7 hb h vf x.frm)(hla:(x.args.length:Int)<=1152921504606846976)(hlf:(x.frm.length:Int)<=1152921504606846976)(ho:0<=x.op/\x.op<=255):Bl Wt h [.int .u8 x.op,I x.ty,I x.a,I x.b,I x.n,va,vf] x (fun k=>hb.n<=k/\k<h.n):=
 fun hx hk hn=>⟨va,vf,rfl,oa.depI (fun k o a b e=>hk k o ⟨a,b⟩ e) hn,of.depI (fun k o a b e=>hk k o ⟨a,b⟩ e) hn,hla,hlf,ho⟩
theorem zNm{b:Nat}{h:U0}{x:WL}{vi:Value}(o:OwnR 7 Wt b h vi x.ins)(hl:(x.ins.length:Int)<=1152921504606846976):Bl BS h [vi,.int .u8 x.fin.kind,I x.fin.a,I x.fin.to,I x.fin.els] x (fun k=>b<=k/\k<h.n):=
 fun hx hk hn=>⟨vi,rfl,o.dep (fun k o a b e=>hk k o ⟨a,b⟩ e) hn,hl⟩
theorem zPP{b:Nat}{h:U0}{x:WM}{vb:Value}(o:OwnR 5 BS b h vb x.blocks)(hl:(x.blocks.length:Int)<=1152921504606846976):Bl RFn h [I x.sig,vb] x (fun k=>b<=k/\k<h.n):=
 fun hx hk hn=>⟨vb,rfl,o.dep (fun k o a b e=>hk k o ⟨a,b⟩ e) hn,hl⟩
theorem Yt{α:Type}{c b:Nat}{R:U0->List Value->α->Prop}{h:U0}{v:Value}{xs:List α}(o:OwnR c R b h v xs):∃ a n k,v=.slice a n k:=zD o.sl
theorem zAd{α:Type}[Inhabited α]{l:List α}{i:Nat}(h:i<l.length):l.take (i+1)=l.take i++[l.getD i default]:=by
 rw[Q4,QB h];simp[List.getD,QB h]
theorem zKy(h:U0)(vt:Value)(T:List U2)(st:Wp h vt T)(hT:T.length<=1000)(hp:∀ x∈T,x.parts.length<=1000):
  WC Tryz.prog tb 31 [vt] h fun r h'=>OwnR 4 RTy h.n h' r T/\Ext h h':=by
 refine en ?_;replace hp:=WE.mk hp;refine go ?_;refine VD (fun i=>T.length-i) (fun i t h1=>Ext h h1/\zB t 4=I i/\i<=T.length/\∃ w,zB t 3=w/\OwnR 4 RTy h.n h1 w (T.take i)) 0 ?_ ?_
 ·exact⟨Ext.refl _,U6,QK _,_,U6,OwnR.nil⟩
 rintro i t h1 hsame ⟨e1,s4,hi,w,s3,ow⟩;have st1:=st.ext e1;refine go ?_;refine VE (fun hc=> ?_) (fun hc=> ?_)<;>simp only[DB]at hc
 ·have hi':i<T.length:=by omega
  obtain⟨cs,⟨va,rfl,sa,hla⟩,pc,hs⟩:=yH st1 hi';have hpl:=hp.out _ (zG (l:=T) hi');have hsucc:=zAd (l:=T) hi';generalize T.getD i default=x at *;obtain⟨aa,an,ak,rfl⟩:=yZ sa;refine go ?_;refine VL ?_;intro p h2 e2 o2;have hpn:=zD7 o2;refine go ?_;refine VH o2 e2 ?_;intro h3 e3 o3 u3;have sa3:=sa.ext e3;have e23:h2.n<=h3.n:=u3.1;refine go ?_;refine WO.bl [] ?_;intro v4 h4 e4 o4;have o3:=o3.ext e4;have sa4:=sa3.ext e4;refine go ?_;refine VO (h0:=h3) (.inr o4) sa4 e4 (by simp;omega) ?_;intro v5 h5 e5 o5;rw[GK]at o5;obtain⟨b5,n5,k5,rfl⟩:=zBs o5;have o3:=(by assumption:U1 h1 h3 p _).ext e5;refine go ?_;refine VT (cs:=[.slice b5 n5 k5]) (j:=3) (hl:=by simp[zi]) o3 (e3.trans e5) ?_;intro h6 e6 o6 u6;have o5':=zBV o5 u6 (fun g e=>by have:=(hpn g e).2;omega);have e06:=e1.trans e6;refine go ?_;have hn6:h3.n<=h6.n:=by have:=e5.n;have:=u6.1;omega
  have hn1:h1.n<=h3.n:=e3.n;refine Vw x (fun k=>h3.n<=k/\k<h6.n) (ow.ext e6) e06 (QE _) (by have:=e1.n;omega) (by decide) (by rw[Qj];omega) (zO0 o5' hla) (fun k hk=>⟨by have:=e1.n;omega,hk.2⟩) (fun g n k e hk=>by have:=(ow.lt e).2;omega) ?_;intro v7 h7 lit e7 o7 _ _;refine go ?_;exact zA (i+1) (by omega) ⟨e7,Wc,by omega,v7,U6,by rw[hsucc];exact o7⟩
 ·have hii:i=T.length:=by omega
  subst hii;rw[Qk]at ow;refine gr ?_;exact⟨ow,e1⟩
theorem zKI(h:U0)(vb:Value)(L:List WL)(sb:Wi h vb L)(hL:L.length<=1000)(hI:∀ b∈L,b.ins.length<=1000)(hX:∀ b∈L,∀ x∈b.ins,x.args.length<=20/\x.frm.length<=20):
  WC Tryz.prog tb 32 [vb] h fun r h'=>OwnR 5 BS h.n h' r L/\Ext h h':=by
 refine en ?_;replace hI:=WE.mk hI;replace hX:=WE.mk hX;refine go ?_;refine VD (fun i=>L.length-i) (fun i t h1=>Ext h h1/\zB t 4=I i/\i<=L.length/\∃ w,zB t 3=w/\OwnR 5 BS h.n h1 w (L.take i)) 0 ?_ ?_
 ·exact⟨Ext.refl _,U6,QK _,_,U6,OwnR.nil⟩
 rintro i t h1 hsame ⟨e1,s4,hi,w,s3,ow⟩;have sb1:=Wi.ext sb e1;refine go ?_;refine VE (fun hc=> ?_) (fun hc=> ?_)<;>simp only[DB]at hc
 ·have hi':i<L.length:=by omega
  obtain⟨cs,⟨vi,rfl,si,hli⟩,pc,hs⟩:=zb sb1 hi';have hIl:=hI.out _ (zG (l:=L) hi');have hXl:=hX.out _ (zG (l:=L) hi');have hsucc:=zAd (l:=L) hi';obtain⟨B,hB0⟩:∃ B,L.getD i default=B:=⟨_,rfl⟩;rw[hB0]at si hli hIl hXl hsucc pc;replace hXl:=WE.mk hXl;have pf:We h1 vb (i*5) [vi,.int .u8 B.fin.kind,I B.fin.a,I B.fin.to,I B.fin.els]:=pc;obtain⟨ia,iN,ik,rfl⟩:=zD si;refine go ?_;refine VL ?_;intro p h2 e2 o2;have hpn:=zD7 o2;refine go ?_;refine VH o2 e2 ?_;intro h3 e3 o3 u3;have hn3:h2.n<=h3.n:=u3.1;refine go ?_;refine VD (fun k=>B.ins.length-k) (fun k t h4=>Ext h1 h4/\h3.n<=h4.n/\zB t 6=I k/\k<=B.ins.length/\∃ v',U1 h1 h4 p [v',.int .u8 B.fin.kind,I B.fin.a,I B.fin.to,I B.fin.els]/\OwnR 7 Wt h3.n h4 v' (B.ins.take k)) 0 ?_ ?_
  ·exact⟨e3,QE _,U6,QK _,_,o3,OwnR.nil⟩
  rintro k t2 h4 hsame2 ⟨e4,hn4,s6,hk,v',o4,ov⟩;have sb4:=Wi.ext sb1 e4;obtain⟨cs4,hcs4,pc4,hs4⟩:=zb sb4 hi';rw[hB0]at hcs4;obtain⟨vi4,rfl,si4,hli4⟩:=hcs4;obtain⟨va',vn',vk',rfl⟩:=Yt ov;refine go ?_;refine VE (fun hd=> ?_) (fun hd=> ?_)<;>simp only[DB]at hd
  ·have hk':k<B.ins.length:=by omega
   obtain⟨csx,⟨xa,xf,rfl,sxa,sxf,hla,hlf,ho⟩,pcx,hsx⟩:=zb si4 hk';have hxl:=hXl.out _ (zG (l:=B.ins) hk');have hsuccI:=zAd (l:=B.ins) hk';generalize B.ins.getD k default=x at *;obtain⟨a1,a2,a3,rfl⟩:=yZ sxa;obtain⟨f1,f2,f3,rfl⟩:=yZ sxf;refine go ?_;refine VL ?_;intro q h5 e5 o5;have hqn:=zD7 o5;have o4':=o4.ext e5;refine go ?_;refine VH o5 e5 ?_;intro h6 e6 o6 u6;have hn6:h5.n<=h6.n:=u6.1;have hn46:=e6.n;have sxa6:=sxa.ext e6;have sxf6:=sxf.ext e6;have o4'':=o4.ext e6;refine go ?_;refine WO.bl [] ?_;intro v7 h7 e7 o7;have o6:=o6.ext e7;have sxa7:=sxa6.ext e7;refine go ?_;refine VO (h0:=h6) (.inr o7) sxa7 e7 (by simp;omega) ?_;intro v8 h8 e8 o8;rw[GK]at o8;obtain⟨b8,n8,k8,rfl⟩:=zBs o8;have o6:=(by assumption:U1 h4 h6 q _).ext e8;refine go ?_;refine VT (cs:=[.slice b8 n8 k8]) (j:=5) (hl:=by simp[zi]) o6 (e6.trans e8) ?_;intro h9 e9 o9 u9;have o8:=zBV o8 u9 (fun g e=>by have:=(hqn g e).2;omega);have sxf9:=sxf.ext e9;have hn9:h6.n<=h9.n:=by have:=e8.n;have:=u9.1;omega
   refine go ?_;refine WO.bl [] ?_;intro v10 h10 e10 o10;have o9:=o9.ext e10;have sxf10:=sxf9.ext e10;have o8:=o8.ext e10;refine go ?_;refine VO (h0:=h9) (.inr o10) sxf10 e10 (by simp;omega) ?_;intro v11 h11 e11 o11;rw[GK]at o11;obtain⟨b11,n11,k11,rfl⟩:=zBs o11;have o8:=(by assumption:U7 h6 h9 (.slice b8 n8 k8) x.args).ext e11;have o9:=(by assumption:U1 h4 h9 q _).ext e11;refine go ?_;refine VT (cs:=[.slice b11 n11 k11]) (j:=6) (hl:=by simp[zi]) o9 (e9.trans e11) ?_;intro h12 e12 o12 u12;have hn12:h9.n<=h12.n:=by have:=e11.n;have:=u12.1;omega
   have o8:=zBV o8 u12 (fun g e=>by have:=(hqn g e).2;omega);have o11:=zBV o11 u12 (fun g e=>by have:=(hqn g e).2;omega);have o12p:=o4.ext e12;have ov12:=ov.ext e12;refine go ?_;have o11':U7 h6 h12 (.slice b11 n11 k11) x.frm:=by
    rcases o11 with o|⟨g,g1,g2⟩
    ·exact .inl o
    ·exact .inr ⟨g,by omega,g2⟩
   have hh1:=e3.n;refine Vw x (fun k=>h6.n<=k/\k<h12.n) ov12 (e4.trans e12) hh1 (by omega) (by decide) (by rw[Qj];omega) (zOD o8 o11' hla hlf ho) (fun k hk=>⟨by omega,hk.2⟩) (fun g n k e hk=>by have:=(ov.lt e).2;omega) ?_;intro v13 h13 lit e13 o13 hn13 keep13;obtain⟨b13,n13,k13,rfl⟩:=Yt o13;have o13p:U1 h1 h13 p [.slice va' vn' vk',.int .u8 B.fin.kind,I B.fin.a,I B.fin.to,I B.fin.els]:=by
    obtain⟨g,g1,g2,hg,g3⟩:=o12p;refine⟨g,g1,by omega,hg,(keep13 g g2 (fun n k e=> ?_)).trans g3⟩;have h1:=(ov.lt e).1;have h2:=(hpn g hg).2;omega
   refine go ?_;refine VT (cs:=[.slice b13 n13 k13]) (j:=0) (hl:=by simp[zi]) o13p e13 ?_;intro h14 e14 o14 u14;have o13':=o13.upd (h':=h14) (fun k hk1 hk2=>u14.2 k hk2 (fun e=>by have:=(hpn k e).2;omega)) u14.1;refine go ?_;refine zA (k+1) (by omega) ⟨e14,by have:=u14.1;omega,Wc,by omega,_,o14,?_⟩;rw[hsuccI];exact o13'
  ·have hkk:k=B.ins.length:=by omega
   subst hkk;rw[Qk]at ov;refine go ?_;have hh1:=e3.n;refine Vw B (fun k=>h3.n<=k/\k<h4.n) (ow.ext e4) (e1.trans e4) (QE _) (by have:=e1.n;omega) (by decide) (by rw[Qj];omega) (zNm ov hli) (fun k hk=>⟨by have:=e1.n;omega,hk.2⟩) (fun g n k e hk=>by have:=(ow.lt e).2;omega) ?_;intro v5 h5 lit e5 o5 _ _;refine go ?_;exact zA (i+1) (by omega) ⟨e5,Wc,by omega,v5,U6,by rw[hsucc];exact o5⟩
 ·have hii:i=L.length:=by omega
  subst hii;rw[Qk]at ow;refine gr ?_;exact⟨ow,e1⟩
theorem zL5(h:U0)(vt vf:Value)(T:List U2)(F:List WM)(sm:W0 T F)(smi:zEV F)(hm:h.mark<=h.n)(st:Wp h vt T)(sf:Wd h vf F):
  WC Tryz.prog tb 10 [.agg #[vt,vf]] h fun r h'=>(∃ vt' vf',r=.agg #[vt',vf']/\Wp h' vt' T/\Wd h' vf' F)/\Ext h h':=by
 have hT:=sm.types;have hF:=sm.funcs;obtain⟨ta,tn,tk,rfl⟩:=zD st;obtain⟨ga,gn,gk,rfl⟩:=zD sf;refine en ?_;refine VF ?_;intro p1 h1 e1 o1;refine go ?_;refine VL ?_;intro p2 h2 e2 o2;have hp2:=zD7 o2;have o1:=o1.ext e2;have e02:=e1.trans e2;have st2:=st.ext e02;refine go ?_;refine VA (zKy h2 _ T st2 (by omega) (fun x hx=>by have:=sm.parts x hx;omega)) ?_;rintro w h3 ⟨ow,e3⟩;have swT:=ow.sl;obtain⟨wa,wn,wk,rfl⟩:=Yt ow;have o1:=o1.ext e3;have o2:=o2.ext e3;have e03:=e02.trans e3;have sf3:=Wd.ext sf e03;have hm3:=zq e03 hm;refine go ?_;refine VL ?_;intro p4 h4 e4 o4;have hpn:=zD7 o4;refine go ?_;refine VH o4 e4 ?_;intro h5 e5 o5 u5;have hn5:h4.n<=h5.n:=u5.1;have hn4:=e5.n;have o1:=o1.ext e5;have o2:=o2.ext e5;refine go ?_;refine VD (fun i=>F.length-i) (fun i t h6=>Ext h3 h6/\h5.n<=h6.n/\zB t 4=I i/\i<=F.length/\∃ v',U1 h3 h6 p4 [.slice wa wn wk,v']/\OwnR 2 RFn h5.n h6 v' (F.take i)) 0 ?_ ?_
 ·exact⟨e5,QE _,U6,QK _,_,o5,OwnR.nil⟩
 rintro i t h6 hsame ⟨e6,hn6,s4,hi,v',o6,ov⟩;have o1:=(by assumption:U1 h h3 p1 _).ext e6;have o2:=(by assumption:U1 h1 h3 p2 _).ext e6;have sf6:=Wd.ext sf3 e6;obtain⟨va',vn',vk',rfl⟩:=Yt ov;refine go ?_;refine VE (fun hd=> ?_) (fun hd=> ?_)<;>simp only[DB]at hd
 ·have hi':i<F.length:=by omega
  have hmem:=zG (l:=F) hi';have hsucc:=zAd (l:=F) hi';refine go ?_;refine VC 1 rfl rfl ?_;have o1X:U1 h (inC (zC 1 h6)) p1 [.slice ta tn tk,.slice ga gn gk]:=by have:=o1.ext (zI 1 h6);exact this
  have o6X:U1 h3 (inC (zC 1 h6)) p4 [.slice wa wn wk,.slice va' vn' vk']:=by have:=o6.ext (zI 1 h6);exact this
  have sfX:Wd (inC (zC 1 h6)) (.slice ga gn gk) F:=by have:=Wd.ext sf6 (zI 1 h6);exact this
  obtain⟨cs,⟨vb,rfl,sb,hlb⟩,pc,hs⟩:=zb sfX hi';have hB:=sm.blocks _ hmem;have hI:=sm.ins _ hmem;have hX:=smi _ hmem;generalize F.getD i default=f at *;obtain⟨ba,bn,bk,rfl⟩:=zD sb;refine U9 ?_;refine VA (zKI (inC (zC 1 h6)) _ f.blocks sb hB hI hX) ?_;rintro v h7 ⟨ow7,e7⟩;obtain⟨ca,cn,ck,rfl⟩:=Yt ow7;refine nE e7 ?_;have hn7:h6.n+1<=h7.n:=e7.n;refine U9 ?_;have hbn:(inC (zC 1 h6)).n=h6.n+1:=rfl;refine Xy (hB:=h3) (p:=p4) (cells:=[.slice wa wn wk,.slice va' vn' vk']) f (fun k=>h6.n+1<=k/\k<h7.n) e7 ov e6 (by rw[e6.mark];exact hm3) (by omega) hn6 (by decide) (by rw[Qj];omega) o6 (fun g e=>by have:=(hpn g e).2;omega) (zPP (b:=h6.n+1) ow7 (by omega)) (fun k hk=>⟨by omega,hk.2⟩) (fun g n k e hk=>by have:=(ov.lt e).2;omega) (fun hk=>by omega) (by simp) rfl ?_;intro H v8 t8 hs8 eH oH _ ovH _ hnH;refine go ?_;exact zA (i+1) (by omega) ⟨eH,by omega,Wc,by omega,v8,oH,by rw[hsucc];exact ovH⟩
 ·have hii:i=F.length:=by omega
  subst hii;rw[Qk]at ov;refine go ?_;refine VH o2 (e2.trans (e3.trans e6)) ?_;intro h7 e7 o7 u7;refine gr ?_;have keep:∀ k,h2.n<=k->k<h6.n->h7.get k=h6.get k:=fun k hk1 hk2=>u7.2 k hk2 (fun e=>by
   have:=hp2 k e;omega)
  exact⟨⟨_,_,rfl,((ow.ext e6).upd keep u7.1).sl,(ov.upd (fun k hk1 hk2=>keep k (by have:=e3.n;omega) hk2) u7.1).sl⟩,e1.trans e7⟩
end Go.Proofs.YtfnndahpddkniaaGreatDoor
set_option maxRecDepth 100000
namespace Go.Proofs.YtfnndahpddkniaaGreatDoor
open Go.Am
theorem Y3(h:U0)(v w:Value)(a b:List Int)(sa:WJ h v a)(sb:WJ h w b)(ha:(a.length:Int)<=1000000000):
  WC Tryz.prog tb 91 [v,w] h fun r h'=>r=.bool (decide (a=b))/\h=h':=by
 refine en ?_;by_cases hl:(a.length:Int)=(b.length:Int);case neg=>
  have hne:a≠b:=fun e=>hl (by rw[e]);refine gr ?_;exact⟨by rw[QQ hne];rfl,rfl⟩
 refine go ?_;refine VD (fun i=>a.length-i) (fun i t h1=>h=h1/\zB t 5=I i/\i<=a.length/\WE (∀ j,j<i->a.getD j 0=b.getD j 0)) 0 ?_ ?_
 ·exact⟨rfl,U6,QK _,⟨fun j hj=>absurd hj (Qh _)⟩⟩
 rintro i t _ hsame ⟨rfl,s5,hi,hm⟩;refine go ?_;refine VE (fun hb=> ?_) (fun hb=> ?_)<;>simp only[DB]at hb
 ·have hi':i<a.length:=by omega
  by_cases he:a.getD i 0=b.getD i 0
  ·refine go ?_;refine zA (i+1) (by omega) ⟨rfl,Wc,by omega,⟨fun j hj=> ?_⟩⟩;by_cases e:j=i
   ·subst e;exact he
   ·exact hm.out j (by omega)
  ·have hne:a≠b:=fun e=>he (by rw[e]);refine gr ?_;exact⟨by rw[QQ hne];rfl,rfl⟩
 ·have heq:a=b:=by
   refine JB (by omega) fun j h1 h2=> ?_;have:=hm.out j (by omega);simpa [List.getD,QB h1,QB h2]using this
  refine gr ?_;exact⟨by rw[QT heq];rfl,rfl⟩
theorem zKa(h:U0)(v w:Value)(T:List U2)(sa:Wp h v T)(sb:Wp h w T)(hT:T.length<=1000)(hp:∀ x∈T,x.parts.length<=1000):
  WC Tryz.prog tb 43 [v,w] h fun r h'=>r=.bool true/\h=h':=by
 refine en ?_;replace hp:=WE.mk hp;refine go ?_;refine VD (fun i=>T.length-i) (fun i t h1=>h=h1/\zB t 5=I i/\i<=T.length) 0 ?_ ?_
 ·exact⟨rfl,U6,QK _⟩
 rintro i t _ hsame ⟨rfl,s5,hi⟩;refine go ?_;refine VE (fun hb=> ?_) (fun hb=> ?_)<;>simp only[DB]at hb
 ·have hi':i<T.length:=by omega
  have hpl:=hp.out _ (zG (l:=T) hi');obtain⟨cs1,⟨va1,rfl,sa1,hla1⟩,pc1,hs1⟩:=yH sa hi';obtain⟨cs2,⟨va2,rfl,sa2,hla2⟩,pc2,hs2⟩:=yH sb hi';generalize T.getD i default=x at *;refine go ?_;refine VD (fun k=>x.parts.length-k) (fun k t h1=>h=h1/\zB t 6=I k/\k<=x.parts.length) 0 ?_ ?_
  ·exact⟨rfl,U6,QK _⟩
  rintro k t2 _ hsame2 ⟨rfl,s6,hk⟩;refine go ?_;refine VE (fun hc=> ?_) (fun hc=> ?_)<;>simp only[DB]at hc
  ·have hk':k<x.parts.length:=by omega
   refine go ?_;exact zA (k+1) (by omega) ⟨rfl,Wc,by omega⟩
  ·refine go ?_;exact zA (i+1) (by omega) ⟨rfl,Wc,by omega⟩
 ·refine gr ?_;exact⟨rfl,rfl⟩
theorem zHN(h:U0)(v w:Value)(L:List WY)(sa:BB h v L)(sb:BB h w L)(hm:h.mark<=h.n)(hL:L.length<=1000)(hX:∀ x∈L,x.args.length<=20/\x.frm.length<=20):
  WC Tryz.prog tb 70 [v,w] h fun r h'=>r=.bool true/\Ext h h':=by
 refine en ?_;replace hX:=WE.mk hX;refine go ?_;refine VD (fun i=>L.length-i) (fun i t h1=>Ext h h1/\zB t 5=I i/\i<=L.length) 0 ?_ ?_
 ·exact⟨Ext.refl _,U6,QK _⟩
 rintro i t h1 hsame ⟨e1,s5,hi⟩;have sa1:=BB.ext sa e1;have sb1:=BB.ext sb e1;have hm1:=zq e1 hm;refine go ?_;refine VE (fun hb=> ?_) (fun hb=> ?_)<;>simp only[DB]at hb
 ·have hi':i<L.length:=by omega
  have hxl:=hX.out _ (zG (l:=L) hi');obtain⟨aa,an,ak,hav,hab⟩:=YG sa1 hi';obtain⟨ba,bn,bk,hbv,hbb⟩:=YG sb1 hi';refine go ?_;refine Vg (fun g=>g=h1.n\/g=h1.n+1) 2 rfl rfl ?_;have saX:BB (inC (zC 2 h1)) v L:=by have:=BB.ext sa1 (zI 2 h1);exact this
  have sbX:BB (inC (zC 2 h1)) w L:=by have:=BB.ext sb1 (zI 2 h1);exact this
  obtain⟨cs1,⟨xa,xf,rfl,sxa,sxf,hla,hlf,ho⟩,px1,hs1⟩:=zW sa1 hi';obtain⟨cs2,⟨ya,yf,rfl,sya,syf,hlb,hlg,ho2⟩,px2,hs2⟩:=zW sb1 hi';have pc1:=(px1 _ (zI 2 h1)).2;have pc2:=(px2 _ (zI 2 h1)).2;generalize L.getD i default=x at *;obtain⟨a1,a2,a3,rfl⟩:=yZ sxa;obtain⟨f1,f2,f3,rfl⟩:=yZ sxf;obtain⟨b1,b2,b3,rfl⟩:=yZ sya;obtain⟨g1,g2,g3,rfl⟩:=yZ syf;refine goV ?_;refine zMK ⟨aa,an,ak,hav,by omega⟩ ?_;refine goV ?_;refine zMK ⟨ba,bn,bk,hbv,by omega⟩ ?_;refine goV ?_;refine UL hm1 ?_;intro h2 p q e2 op oq;have sxa2:WJ h2 (.slice a1 a2 a3) x.args:=sxa.ext e2;have sxf2:WJ h2 (.slice f1 f2 f3) x.frm:=sxf.ext e2;have sya2:WJ h2 (.slice b1 b2 b3) x.args:=sya.ext e2;have syf2:WJ h2 (.slice g1 g2 g3) x.frm:=syf.ext e2;refine go ?_;refine VA (Y3 h2 _ _ x.args x.args sxa2 sya2 (by omega)) ?_;rintro _ _ ⟨rfl,rfl⟩;refine go ?_;refine VA (Y3 h2 _ _ x.frm x.frm sxf2 syf2 (by omega)) ?_;rintro _ _ ⟨rfl,rfl⟩;refine go ?_;exact zA (i+1) (by omega) ⟨e1.trans e2,Wc,by omega⟩
 ·refine gr ?_;exact⟨rfl,e1⟩
theorem zKj(h:U0)(v w:Value)(L:List WL)(sa:Wi h v L)(sb:Wi h w L)(hm:h.mark<=h.n)(hL:L.length<=1000)(hI:∀ b∈L,b.ins.length<=1000)(hX:∀ b∈L,∀ x∈b.ins,x.args.length<=20/\x.frm.length<=20):
  WC Tryz.prog tb 44 [v,w] h fun r h'=>r=.bool true/\Ext h h':=by
 refine en ?_;replace hI:=WE.mk hI;replace hX:=WE.mk hX;refine go ?_;refine VD (fun i=>L.length-i) (fun i t h1=>Ext h h1/\zB t 5=I i/\i<=L.length) 0 ?_ ?_
 ·exact⟨Ext.refl _,U6,QK _⟩
 rintro i t h1 hsame ⟨e1,s5,hi⟩;have sa1:=Wi.ext sa e1;have sb1:=Wi.ext sb e1;refine go ?_;refine VE (fun hb=> ?_) (fun hb=> ?_)<;>simp only[DB]at hb
 ·have hi':i<L.length:=by omega
  have hmem:=zG (l:=L) hi';have hIl:=hI.out _ hmem;have hXl:=hX.out _ hmem;refine go ?_;refine VC 0 rfl rfl ?_;have saX:Wi (inC (zC 0 h1)) v L:=sa1;have sbX:Wi (inC (zC 0 h1)) w L:=sb1;obtain⟨cs1,⟨v1,rfl,sn1,hl1⟩,pc1,hs1⟩:=zb saX hi';obtain⟨cs2,⟨v2,rfl,sn2,hl2⟩,pc2,hs2⟩:=zb sbX hi';generalize L.getD i default=B at *;obtain⟨a1,a2,a3,rfl⟩:=zD sn1;obtain⟨b1,b2,b3,rfl⟩:=zD sn2;refine U9 ?_;refine Vn (zM5 (xs:=#[.int .u8 B.fin.kind,I B.fin.a,I B.fin.to,I B.fin.els]) (ys:=#[.int .u8 B.fin.kind,I B.fin.a,I B.fin.to,I B.fin.els]) (b:=true) (by kernel_rfl) (by simp[YU,zCW,I])) ?_;refine nQ ?_;refine U9 ?_;refine VA (zHN _ _ _ B.ins sn1 sn2 (QE _) hIl hXl) ?_;rintro _ h2 ⟨rfl,e2⟩;refine nE e2 ?_;refine U9 ?_;have e3:Ext h1 (outC h1 (inC h2)):=e2.reg;refine go ?_;exact zA (i+1) (by omega) ⟨e1.trans e3,Wc,by omega⟩
 ·refine gr ?_;exact⟨rfl,e1⟩
theorem zLm(h:U0)(vt vf wt wf:Value)(T:List U2)(F:List WM)(sm:W0 T F)(smi:zEV F)(hm:h.mark<=h.n)(st:Wp h vt T)(sf:Wd h vf F)(st2:Wp h wt T)(sf2:Wd h wf F):
  WC Tryz.prog tb 14 [.agg #[vt,vf],.agg #[wt,wf]] h fun r h'=>r=.bool true/\Ext h h':=by
 have hT:=sm.types;have hF:=sm.funcs;obtain⟨ta,tn,tk,rfl⟩:=zD st;obtain⟨ga,gn,gk,rfl⟩:=zD sf;obtain⟨ua,un,uk,rfl⟩:=zD st2;obtain⟨za,zn,zk,rfl⟩:=zD sf2;refine en ?_;refine VF ?_;intro p h1 e1 o1;refine go ?_;refine VF ?_;intro q h2 e2 o2;have o1:=o1.ext e2;have e12:=e1.trans e2;have st_2:=st.ext e12;have sf_2:=Wd.ext sf e12;have st2_2:=st2.ext e12;have sf2_2:=Wd.ext sf2 e12;have hm2:=zq e12 hm;refine go ?_;refine VA (zKa h2 _ _ T st_2 st2_2 (by omega) (fun x hx=>by have:=sm.parts x hx;omega)) ?_;rintro _ _ ⟨rfl,rfl⟩;refine go ?_;refine VD (fun i=>F.length-i) (fun i t h3=>Ext h2 h3/\zB t 5=I i/\i<=F.length) 0 ?_ ?_
 ·exact⟨Ext.refl _,U6,QK _⟩
 rintro i t h3 hsame ⟨e3,s5,hi⟩;have o1:=o1.ext e3;have o2:=o2.ext e3;have sf3:=Wd.ext sf_2 e3;have sf23:=Wd.ext sf2_2 e3;refine go ?_;refine VE (fun hb=> ?_) (fun hb=> ?_)<;>simp only[DB]at hb
 ·have hi':i<F.length:=by omega
  have hmem:=zG (l:=F) hi';have hB:=sm.blocks _ hmem;have hI:=sm.ins _ hmem;have hX:=smi _ hmem;refine go ?_;refine VC 0 rfl rfl ?_;have o1X:U1 h (inC (zC 0 h3)) p [_,_]:=o1;have o2X:U1 h1 (inC (zC 0 h3)) q [_,_]:=o2;have saX:Wd (inC (zC 0 h3)) _ F:=sf3;have sbX:Wd (inC (zC 0 h3)) _ F:=sf23;obtain⟨cs1,⟨v1,rfl,sn1,hl1⟩,pc1,hs1⟩:=zb saX hi';obtain⟨cs2,⟨v2,rfl,sn2,hl2⟩,pc2,hs2⟩:=zb sbX hi';generalize F.getD i default=f at *;obtain⟨a1,a2,a3,rfl⟩:=zD sn1;obtain⟨b1,b2,b3,rfl⟩:=zD sn2;refine U9 ?_;refine VA (zKj _ _ _ f.blocks sn1 sn2 (QE _) hB hI hX) ?_;rintro _ h4 ⟨rfl,e4⟩;refine nE e4 ?_;refine U9 ?_;have e5:Ext h3 (outC h3 (inC h4)):=e4.reg;refine go ?_;exact zA (i+1) (by omega) ⟨e3.trans e5,Wc,by omega⟩
 ·refine gr ?_;exact⟨rfl,e12.trans e3⟩
inductive Bu(nx:Int->List Int)(first:List Int)(but:Int):Int->Prop
 |here {a:Int}:a∈first->a≠but->Bu nx first but a
 |step {b c:Int}:Bu nx first but b->c∈nx b->c≠but->Bu nx first but c
theorem Bu.way{nx:Int->List Int}{first:List Int}{but c:Int}(h:Bu nx first but c):∃ a∈first,WU nx a c:=by
 induction h with
 |here h _=>exact⟨_,h,.here⟩
 |step _ hc _ ih=>obtain⟨a,h1,h2⟩:=ih;exact⟨a,h1,.step h2 hc⟩
theorem Bu.in{nx:Int->List Int}{first:List Int}{but c:Int}{N:Nat}(hin:∀ b,0<=b/\b<(N:Int)->∀ c∈nx b,0<=c/\c<(N:Int))(hf:∀ a∈first,0<=a/\a<(N:Int))(h:Bu nx first but c):0<=c/\c<(N:Int):=by
 induction h with
 |here h _=>exact hf _ h
 |step _ hc _ ih=>exact hin _ ih _ hc
theorem zJg{nx:Int->List Int}{first:List Int}{c:Int}{N:Nat}(hin:∀ b,0<=b/\b<(N:Int)->∀ c∈nx b,0<=c/\c<(N:Int))(hf:∀ a∈first,0<=a/\a<(N:Int)):Bu nx first (-1) c↔∃ a∈first,WU nx a c:=by
 refine⟨Bu.way,fun hh=> ?_⟩;obtain⟨a,h1,h2⟩:=hh;have:Bu nx first (-1) c/\0<=c/\c<(N:Int):=by
  induction h2 with
  |here=>exact⟨.here h1 (by have:=hf a h1;omega),hf a h1⟩
  |step _ hc ih=>
   have:=hin _ ih.2 _ hc;exact⟨.step ih.1 hc (by omega),this⟩
 exact this.1
abbrev bO(bs:List Bool)(j:Int):Bool:=bs.getD j.toNat false
theorem zLa{bs:List Bool}{j c:Int}{b:Bool}(hc:0<=c/\c<(bs.length:Int))(hj:0<=j):bO (bs.set c.toNat b) j=if j=c then b else bO bs j:=by
 unfold bO;rw[QH,List.getElem?_set];by_cases e:j=c
 ·subst e;rw[QF rfl,QF (by omega),QF rfl];rfl
 ·rw[QC (by omega),QC e,QH]
theorem zFf{xs ys:List Bool}(hl:xs.length=ys.length)(h:∀ j:Int,0<=j/\j<(xs.length:Int)->bO xs j=bO ys j):xs=ys:=by
 refine JB hl fun j h1 h2=> ?_;have:=h (j:Int) (by omega);simpa [bO,List.getD,QB h1,QB h2]using this
def zPF(nx:Int->List Int)(but:Int)(bs:List Bool)(j:Int):Prop:=bO bs j=true->∀ c∈nx j,c≠but->bO bs c=true
def Cl(nx:Int->List Int)(but:Int)(bs:List Bool):Prop:=∀ j:Int,0<=j/\j<(bs.length:Int)->zPF nx but bs j
structure Swp(nx:Int->List Int)(first:List Int)(but:Int)(N:Nat)(bs0 bs:List Bool)(i:Nat):Prop where
 len0:bs0.length=N
 len:bs.length=N
 le:∀ j:Int,0<=j->bO bs0 j=true->bO bs j=true
 sound:∀ j:Int,0<=j->bO bs j=true->Bu nx first but j
 cl:Cl nx but bs0->bs=bs0
 fix:bs=bs0->∀ j:Int,0<=j/\j<(i:Int)->zPF nx but bs j
theorem XO{nx:Int->List Int}{first:List Int}{but:Int}{N:Nat}{bs:List Bool}(hl:bs.length=N)(hs:∀ j:Int,0<=j->bO bs j=true->Bu nx first but j):Swp nx first but N bs bs 0:=
 ⟨hl,hl,fun _ _ h=>h,hs,fun _=>rfl,fun _ j hj=>by omega⟩
theorem Swp.add{nx:Int->List Int}{first:List Int}{but:Int}{N i:Nat}{bs0 bs:List Bool}{c:Int}(s:Swp nx first but N bs0 bs i)(hi:bO bs i=true)(hc:c∈nx i)(hin:0<=c/\c<(N:Int))(hiN:i<N):
  Swp nx first but N bs0 (bs.set c.toNat (bO bs c|| !decide (c=but))) i/\(bs.set c.toNat (bO bs c|| !decide (c=but))=bs0->bs=bs0)/\bO (bs.set c.toNat (bO bs c|| !decide (c=but))) i=true/\(c≠but->bO (bs.set c.toNat (bO bs c|| !decide (c=but))) c=true):=by
 have hlc:0<=c/\c<(bs.length:Int):=by rw[s.len];exact hin
 have get:∀ j:Int,0<=j->bO (bs.set c.toNat (bO bs c|| !decide (c=but))) j=if j=c then(bO bs c|| !decide (c=but))else bO bs j:=fun j hj=>zLa hlc hj;have up:∀ j:Int,0<=j->bO bs j=true->bO (bs.set c.toNat (bO bs c|| !decide (c=but))) j=true:=fun j hj h=>by
  rw[get j hj];split
  ·rename_i e;subst e;rw[h];rfl
  ·exact h
 have back:bs.set c.toNat (bO bs c|| !decide (c=but))=bs0->bs=bs0:=fun e=>by
  refine zFf (by rw[s.len,s.len0]) fun j hj=> ?_;cases h1:bO bs j with
  |true=>have:=up j hj.1 h1;rw[e]at this;exact this.symm
  |false=>
   cases h2:bO bs0 j with
   |false=>rfl
   |true=>rw[s.le j hj.1 h2]at h1;cases h1
 refine⟨⟨s.len0,by rw[Gv];exact s.len,fun j hj h=>up j hj (s.le j hj h),fun j hj h=> ?_,fun h=> ?_,fun e j hj=> ?_⟩,back,up i (by omega) hi,fun h=> ?_⟩
 ·rw[get j hj]at h;split at h
  ·rename_i e;subst e;rw[GG]at h;rcases h with h|h
   ·exact s.sound _ hj h
   ·exact .step (s.sound i (by omega) hi) hc (by simpa using h)
  ·exact s.sound j hj h
 ·have e:=s.cl h;subst e;refine zFf (by rw[Gv]) fun j hj=> ?_;rw[Gv]at hj;rw[get j hj.1];split
  ·rename_i e;subst e;by_cases hb:j=but
   ·simp[hb]
   ·rw[h i (by rw[s.len];omega) hi j hc hb];rfl
  ·rfl
 ·have e2:=back e;have:=s.fix e2 j hj;subst e2;rw[e];exact this
 ·rw[get c hin.1,QF rfl];simp[h]
theorem Swp.next{nx:Int->List Int}{first:List Int}{but:Int}{N i:Nat}{bs0 bs:List Bool}(s:Swp nx first but N bs0 bs i)(h:bs=bs0->zPF nx but bs i):Swp nx first but N bs0 bs (i+1):=
 ⟨s.len0,s.len,s.le,s.sound,s.cl,fun e j hj=>by
  by_cases hji:j=i
  ·rw[hji];exact h e
  ·exact s.fix e j (by omega)⟩
def zKk(bs:List Bool):Nat:=bs.countP id
theorem zOA{xs ys:List Bool}(hl:xs.length=ys.length)(hle:∀ j:Int,0<=j->bO xs j=true->bO ys j=true)(hne:xs≠ys):zKk xs<zKk ys:=by
 unfold zKk;induction xs generalizing ys with
 |nil=>cases ys with
  |nil=>exact absurd rfl hne
  |cons=>cases hl
 |cons x xs ih=>
  cases ys with
  |nil=>cases hl
  |cons y ys=>
   have hle':∀ j:Int,0<=j->bO xs j=true->bO ys j=true:=fun j hj h=>by
    have:=hle (j+1) (by omega);have e:(j+1).toNat=j.toNat+1:=by omega
    unfold bO at this h |-;rw[e]at this;simpa [List.getD]using this (by simpa [List.getD]using h)
   have h0:x=true->y=true:=fun h=>by have:=hle 0 (Qe _);simpa [bO,List.getD,h]using this
   have hlen:xs.length=ys.length:=by simpa using hl
   have mono:∀ {ps qs:List Bool},ps.length=qs.length->(∀ j:Int,0<=j->bO ps j=true->bO qs j=true)->ps.countP id<=qs.countP id:=by
    intro ps;induction ps with
    |nil=>intro qs _ _;simp
    |cons a ps iha=>
     intro qs hl2 h2;cases qs with
     |nil=>cases hl2
     |cons b qs=>
      have h3:∀ j:Int,0<=j->bO ps j=true->bO qs j=true:=fun j hj h=>by
       have:=h2 (j+1) (by omega);have e:(j+1).toNat=j.toNat+1:=by omega
       unfold bO at this h |-;rw[e]at this;simpa [List.getD]using this (by simpa [List.getD]using h)
      have h4:a=true->b=true:=fun h=>by have:=h2 0 (Qe _);simpa [bO,List.getD,h]using this
      have:=iha (by simpa using hl2) h3;simp only[List.countP_cons,id];cases a with
      |true=>rw[h4 rfl];omega
      |false=>cases b<;>simp<;>omega
   have hm:=mono hlen hle';simp only[List.countP_cons,id];by_cases hxy:x=y
   ·subst hxy;have:=ih hlen hle' (fun e=>hne (by rw[e]));omega
   ·cases x with
    |true=>exact absurd (h0 rfl).symm hxy
    |false=>
     cases y with
     |true=>simp;omega
     |false=>exact absurd rfl hxy
theorem zNM{bs:List Bool}(h:bs.length<=zKk bs){j:Int}(hj:0<=j/\j<(bs.length:Int)):bO bs j=true:=by
 unfold zKk at h;have h2:bs.countP id=bs.length:=Nat.le_antisymm List.countP_le_length h;rw[List.countP_eq_length]at h2;have hi:j.toNat<bs.length:=by omega
 have:=h2 (bs[j.toNat]) (List.getElem_mem hi);simpa [bO,List.getD,QB hi]using this
structure Rds(nx:Int->List Int)(first:List Int)(but:Int)(N:Nat)(bs:List Bool)(n:Nat):Prop where
 len:bs.length=N
 sound:∀ j:Int,0<=j->bO bs j=true->Bu nx first but j
 init:∀ a∈first,a≠but->bO bs a=true
 cl:Cl nx but bs\/n<=zKk bs
theorem Rds.next{nx:Int->List Int}{first:List Int}{but:Int}{N n:Nat}{bs0 bs:List Bool}(hf:∀ a∈first,0<=a)(r:Rds nx first but N bs0 n)(s:Swp nx first but N bs0 bs N):Rds nx first but N bs (n+1):=by
 refine⟨s.len,s.sound,fun a ha hb=>s.le a (hf a ha) (r.init a ha hb),?_⟩;by_cases e:bs=bs0
 ·left;intro j hj;exact s.fix e j (by rw[s.len]at hj;exact hj)
 ·right;rcases r.cl with h|h
  ·exact absurd (s.cl h) e
  ·have:=zOA (by rw[s.len,s.len0]) s.le (Ne.symm e);omega
theorem Rds.done{nx:Int->List Int}{first:List Int}{but:Int}{N:Nat}{bs:List Bool}(hin:∀ b,0<=b/\b<(N:Int)->∀ c∈nx b,0<=c/\c<(N:Int))(hf:∀ a∈first,0<=a/\a<(N:Int))(r:Rds nx first but N bs N)(j:Int)(hj:0<=j/\j<(N:Int)):bO bs j=true↔Bu nx first but j:=by
 refine⟨r.sound j hj.1,fun h=> ?_⟩;have hcl:Cl nx but bs:=by
  rcases r.cl with h|h
  ·exact h
  ·intro i hi _ c hc _;rw[r.len]at hi;exact zNM (by rw[r.len];exact h) (by rw[r.len];exact hin i hi c hc)
 clear hj;induction h with
 |here ha hb=>exact r.init _ ha hb
 |step hb hc hne ih=>exact hcl _ (by rw[r.len];exact hb.in hin hf) ih _ hc hne
end Go.Proofs.YtfnndahpddkniaaGreatDoor
set_option maxRecDepth 100000
namespace Go.Proofs.YtfnndahpddkniaaGreatDoor
open Go.Am
theorem zL4(h:U0)(x:BY):
  WC Tryz.prog tb 121 [.agg #[.int .u8 x.kind,I x.a,I x.to,I x.els]] h fun r h'=>U7 h h' r (ZI x)/\Ext h h':=by
 refine en ?_;refine VF ?_;intro p h1 e1 o1;unfold ZI;by_cases k1:x.kind=1
 ·rw[QF k1];refine go ?_;refine WO.bl [x.to] ?_;intro v h2 e2 o2;refine gr ?_;exact⟨.inr (o2.since e1),e1.trans e2⟩
 rw[QC k1];by_cases k2:x.kind=2
 ·rw[QF k2];by_cases k3:x.to=x.els
  ·rw[QF k3];refine go ?_;refine WO.bl [x.to] ?_;intro v h2 e2 o2;refine gr ?_;exact⟨.inr (o2.since e1),e1.trans e2⟩
  ·rw[QC k3];refine go ?_;refine WO.bl [x.to,x.els] ?_;intro v h2 e2 o2;refine gr ?_;exact⟨.inr (o2.since e1),e1.trans e2⟩
 ·rw[QC k2];refine gr ?_;exact⟨.inl ⟨rfl,rfl⟩,e1⟩
theorem zOl(h:U0)(v:Value)(l:List Int)(n:Int)(s:WJ h v l)(hl:(l.length:Int)<=1000000):
  WC Tryz.prog tb 120 [v,I n] h fun r h'=>r=.bool (decide (n∈l))/\h=h':=by
 refine en ?_;refine VD (fun i=>l.length-i) (fun i t h1=>h=h1/\zB t 5=I i/\i<=l.length/\WE (∀ j,j<i->l.getD j 0≠n)) 0 ?_ ?_
 ·exact⟨rfl,U6,QK _,⟨fun j hj=>absurd hj (Qh _)⟩⟩
 rintro i t _ hsame ⟨rfl,s5,hi,hm⟩;refine go ?_;refine VE (fun hb=> ?_) (fun hb=> ?_)<;>simp only[DB]at hb
 ·have hi':i<l.length:=by omega
  by_cases he:l.getD i 0=n
  ·have hin:n∈l:=by rw[<-he];exact zO hi'
   refine gr ?_;exact⟨by rw[QT hin];rfl,rfl⟩
  ·refine go ?_;refine zA (i+1) (by omega) ⟨rfl,Wc,by omega,⟨fun j hj=> ?_⟩⟩;by_cases e:j=i
   ·subst e;exact he
   ·exact hm.out j (by omega)
 ·have hno:n∉l:=fun hin=>by
   obtain⟨j,hj,e⟩:=Zi hin;exact hm.out j (by omega) e
  refine gr ?_;exact⟨by rw[QQ hno];rfl,rfl⟩
theorem zJG{h0 h h':U0}{v:Value}{bs:List Bool}(o:Wz h0 h v bs){q:Nat}(hq:∃ n k,v=.slice (some ⟨q,0,none⟩) n k):h0.n<=q/\q<h.n:=by
 obtain⟨g,a,b,rfl,_⟩:=o;obtain⟨n,k,e⟩:=hq;cases e;exact⟨a,b⟩
theorem zC8{hA h h':U0}{v w:Value}{l:List Int}(o:U7 hA h w l)(keep:∀ k,k<h.n->(∀ n k',v≠ .slice (some ⟨k,0,none⟩) n k')->h'.get k=h.get k)(hn:h.n<=h'.n)(hv:∀ q n k,v=.slice (some ⟨q,0,none⟩) n k->q<hA.n):U7 hA h' w l:=by
 rcases o with o|⟨g,g1,g2,g3,g4⟩
 ·exact .inl o
 ·exact .inr ⟨g,g1,by omega,g3,(keep g g2 (fun n k' e=>by have:=hv g n k' e;omega)).trans g4⟩
theorem zGD(h:U0)(v w:Value)(L:List WL)(first:List Int)(but:Int)(hm:h.mark<=h.n)(sb:Wi h v L)(sw:WJ h w first)(hL:L.length<=16)(hin:∀ c,0<=c/\c<(L.length:Int)->∀ d∈WZ L c,0<=d/\d<(L.length:Int))(hf:∀ a∈first,0<=a/\a<(L.length:Int))(hfl:first.length<=1000):
  WC Tryz.prog tb 113 [v,w,I but] h fun r h'=>(∃ bs:List Bool,Wz h h' r bs/\bs.length=L.length/\∀ j:Int,0<=j/\j<(L.length:Int)->(bO bs j=true↔Bu (WZ L) first but j))/\Ext h h':=by
 replace hin:=WE.mk hin;replace hf:=WE.mk hf;refine en ?_;refine UI (n:=L.length) (by omega) ?_;intro r h1 e1 o1;have hrl:∀ j:Int,bO (List.replicate L.length false) j=false:=fun j=>by
  unfold bO;rw[QH,JG];split<;>rfl
 refine go ?_;refine VD (fun i=>first.length-i) (fun i t h2=>Ext h h2/\zB t 8=I i/\i<=first.length/\∃ bs:List Bool,Wz h h2 r bs/\bs.length=L.length/\WE ((∀ j:Int,0<=j->bO bs j=true->Bu (WZ L) first but j)/\∀ k,k<i->first.getD k 0≠but->bO bs (first.getD k 0)=true)) 0 ?_ ?_
 ·exact⟨e1,U6,QK _,_,o1,by simp,⟨⟨fun j hj hh=>(by rw[hrl]at hh;cases hh),fun k hk=>absurd hk (Qh _)⟩⟩⟩
 clear o1 hrl;rintro i t h2 hsame ⟨e2,s8,hi,bs,o2,hbl,hP⟩;have sw2:=sw.ext e2;refine go ?_;refine VE (fun hb=> ?_) (fun hb=> ?_)<;>simp only[DB]at hb
 ·have hi':i<first.length:=by omega
  have hfi:=hf.out _ (zO hi');have hbd:(first.getD i 0).toNat<bs.length:=by omega
  refine go ?_;refine VC 0 rfl rfl ?_;have swX:WJ (inC (zC 0 h2)) w first:=sw2
  have oX:Wz h (zC 0 h2) r bs:=o2;have sX:zNu (inC (zC 0 h2)) r bs:=o2.sl;refine U9 ?_;refine Vx (hS:=h2) (i:=(first.getD i 0).toNat) (b:= !decide (first.getD i 0=but)) oX e2 (by rw[e2.mark];exact hm) rfl hbd ?_;intro h3 e3 o3 _ _;refine go ?_;have hset:∀ j:Int,0<=j->bO (bs.set (first.getD i 0).toNat (!decide (first.getD i 0=but))) j=if j=first.getD i 0 then !decide (first.getD i 0=but)else bO bs j:=fun j hj=>zLa (by omega) hj
  refine zA (i+1) (by omega) ⟨e3,Wc,by omega,_,o3,by rw[Gv];exact hbl,⟨⟨fun j hj hh=> ?_,fun k hk hne=> ?_⟩⟩⟩
  ·rw[hset j hj]at hh;split at hh
   ·rename_i e;rw[e];exact .here (zO hi') (by simpa using hh)
   ·exact hP.out.1 j hj hh
  ·by_cases e:k=i
   ·subst e;rw[hset _ hfi.1,QF rfl];simpa using hne
   ·have hk':k<first.length:=by omega
    rw[hset _ (hf.out _ (zO hk')).1];split
    ·rename_i e2;rw[e2]at hne;simpa using hne
    ·exact hP.out.2 k (by omega) hne
 have hii:i=first.length:=by omega
 subst hii;have hR:WE (Rds (WZ L) first but L.length bs 0):=⟨⟨hbl,hP.out.1,fun a ha hb=>by
  obtain⟨k,hk,rfl⟩:=Zi ha;exact hP.out.2 k hk hb,.inr (QK _)⟩⟩
 clear hP;refine go ?_;refine VD (fun n=>L.length-n) (fun n t h3=>Ext h h3/\zB t 9=I n/\n<=L.length/\∃ bs:List Bool,Wz h h3 r bs/\WE (Rds (WZ L) first but L.length bs n)) 0 ?_ ?_
 ·exact⟨e2,U6,QK _,_,o2,hR⟩
 clear hR o2 hbl bs;rintro n t3 h3 hsame3 ⟨e3,s9,hn,bs0,o3,hR⟩;have sb3:=Wi.ext sb e3;refine go ?_;refine VE (fun hb=> ?_) (fun hb=> ?_)<;>simp only[DB]at hb;case refine_2=>
  have hnn:n=L.length:=by omega
  subst hnn;have hdone:=Rds.done hin.out hf.out hR.out;have hlen:=hR.out.len;refine gr ?_;exact⟨⟨bs0,o3,hlen,fun j hj=>hdone j hj⟩,e3⟩
 refine go ?_;refine VD (fun i=>L.length-i) (fun i t h4=>Ext h h4/\zB t 10=I i/\i<=L.length/\∃ bs:List Bool,Wz h h4 r bs/\WE (Swp (WZ L) first but L.length bs0 bs i)) 0 ?_ ?_
 ·exact⟨e3,U6,QK _,_,o3,⟨XO hR.out.len hR.out.sound⟩⟩
 clear o3;rintro i t4 h4 hsame4 ⟨e4,s10,hi,bs,o4,hS⟩;have sb4:=Wi.ext sb e4;refine go ?_;refine VE (fun hc=> ?_) (fun hc=> ?_)<;>simp only[DB]at hc;case refine_2=>
  have hii:i=L.length:=by omega
  subst hii;refine go ?_;exact zA (n+1) (by omega) ⟨e4,Wc,by omega,_,o4,⟨Rds.next (fun a ha=>(hf.out a ha).1) hR.out hS.out⟩⟩
 have hi':i<L.length:=by omega
 obtain⟨cs,⟨vi,rfl,si,hsi⟩,pc,hs⟩:=zb sb4 hi';obtain⟨_,_,_,rfl⟩:=zD si;refine go ?_;refine VA (zL4 h4 (L.getD i default).fin) ?_;rintro u h5 ⟨ou,e5⟩;have hnx:ZI (L.getD i default).fin=WZ L i:=by unfold WZ;rw[QN]
 rw[hnx]at ou;have hul:(WZ L i).length<=2:=zCH _;have hinI:=WE.mk (hin.out i (by omega));have hqv:∀ q n k,r=.slice (some ⟨q,0,none⟩) n k->q<h4.n:=fun q n k e=>(zJG (h':=h4) o4 ⟨n,k,e⟩).2;have o5:=o4.ext e5;have e45:=e4.trans e5;clear pc;generalize hX:WZ L i=X at *;refine go ?_;refine VD (fun k=>X.length-k) (fun k t h6=>Ext h h6/\zB t 12=I k/\k<=X.length/\U7 h4 h6 u X/\∃ bs:List Bool,Wz h h6 r bs/\WE (Swp (WZ L) first but L.length bs0 bs i/\(bs=bs0->bO bs i=true->∀ k',k'<k->X.getD k' 0≠but->bO bs (X.getD k' 0)=true))) 0 ?_ ?_
 ·exact⟨e45,U6,QK _,ou,_,o5,⟨⟨hS.out,fun _ _ k hk=>absurd hk (Qh _)⟩⟩⟩
 clear o4 o5 hS ou e45;rintro k t6 h6 hsame6 ⟨e6,s12,hk,ou,bs,o6,hS⟩;have hlen:=hS.out.1.len;have su:=ou.sl;have sr:=o6.sl;by_cases hkX:(k:Int)<X.length;case neg=>
  have hkk:k=X.length:=by omega
  subst hkk;refine go ?_;refine zA (i+1) (by omega) ⟨e6,Wc,by omega,_,o6,⟨hS.out.1.next fun e hb c hc hne=> ?_⟩⟩;rw[hX]at hc;obtain⟨k',hk',rfl⟩:=Zi hc;exact hS.out.2 e hb k' hk' hne
 have hk':k<X.length:=by omega
 obtain⟨cs1,hcs1,pc1,hs1⟩:=zb sr (i:=i) (by omega);have hcs1:cs1=[.bool (bO bs i)]:=by
  have:bs.getD i default=bO bs i:=by unfold bO;rw[QN];rfl
  rw[<-this];exact hcs1
 subst hcs1;by_cases hbi:bO bs i=true;case neg=>
  have hbi':bO bs i=false:=by simpa using hbi
  refine go ?_;refine zA (i+1) (by omega) ⟨e6,Wc,by omega,_,o6,⟨hS.out.1.next fun e hb=>absurd hb hbi⟩⟩
 have hci:=hinI.out _ (zO hk');have hcm:=zO hk';obtain⟨c,hc0⟩:∃ c,X.getD k 0=c:=⟨_,rfl⟩;rw[hc0]at hci hcm;have hcb:c.toNat<bs.length:=by omega
 rw[<-hX]at hcm;obtain⟨s1,s2,s3,s4⟩:=hS.out.1.add hbi hcm (by omega) hi';have hfin:WE (Swp (WZ L) first but L.length bs0 (bs.set c.toNat (bO bs c|| !decide (c=but))) i/\(bs.set c.toNat (bO bs c|| !decide (c=but))=bs0->bO (bs.set c.toNat (bO bs c|| !decide (c=but))) i=true->∀ k',k'<k+1->X.getD k' 0≠but->bO (bs.set c.toNat (bO bs c|| !decide (c=but))) (X.getD k' 0)=true)):=by
  refine⟨⟨s1,fun e _ k' hk2 hne=> ?_⟩⟩;by_cases ek:k'=k
  ·subst ek;rw[hc0]at hne |-;exact s4 hne
  ·have e2:=s2 e;have:=hS.out.2 e2 hbi k' (by omega) hne;rw[e,<-e2];exact this
 clear s1 s2 s3 s4 hS;have s0:=hc0;refine go ?_;refine VC 0 rfl rfl ?_;have suX:WJ (inC (zC 0 h6)) u X:=su;have oX:Wz h (zC 0 h6) r bs:=o6;have sX:zNu (inC (zC 0 h6)) r bs:=o6.sl;obtain⟨cs2,hcs2,pc2,hs2⟩:=zb sX (i:=c.toNat) hcb;have hcs2:cs2=[.bool (bO bs c)]:=hcs2;subst hcs2;refine U9 ?_;rw[hc0];refine U9 ?_;cases hbc:bO bs c with
 |true=>
  rw[hbc]at hfin pc2;refine U9 ?_;refine Vx (hS:=h6) (i:=c.toNat) (b:=true) oX e6 (by rw[e6.mark];exact hm) rfl hcb ?_;intro h7 e7 o7 keep hn7;refine go ?_;exact zA (k+1) (by omega) ⟨e7,Wc,by omega,zC8 ou keep hn7 hqv,_,o7,hfin⟩
 |false=>
  rw[hbc]at hfin pc2;refine U9 ?_;rw[hc0];refine U9 ?_;refine Vx (hS:=h6) (i:=c.toNat) (b:= !decide (c=but)) oX e6 (by rw[e6.mark];exact hm) rfl hcb ?_;intro h7 e7 o7 keep hn7;refine go ?_;exact zA (k+1) (by omega) ⟨e7,Wc,by omega,zC8 ou keep hn7 hqv,_,o7,hfin⟩
end Go.Proofs.YtfnndahpddkniaaGreatDoor
set_option maxRecDepth 100000
namespace Go.Proofs.YtfnndahpddkniaaGreatDoor
open Go.Am
theorem zJ6(h:U0)(v:Value)(L:List WL)(b:Int)(sb:Wi h v L)(hL:L.length<=1000):
  WC Tryz.prog tb 158 [v,I b] h fun r h'=>U7 h h' r (zR L b L.length)/\Ext h h':=by
 refine en ?_;refine VD (fun i=>L.length-i) (fun i t h1=>Ext h h1/\zB t 6=I i/\i<=L.length/\∃ w,zB t 5=w/\U7 h h1 w (zR L b i)) 0 ?_ ?_
 ·exact⟨Ext.refl _,U6,QK _,_,U6,.inl ⟨rfl,rfl⟩⟩
 rintro i t h1 hsame ⟨e1,s6,hi,w,s5,ow⟩;have sb1:=Wi.ext sb e1;refine go ?_;refine VE (fun hb=> ?_) (fun hb=> ?_)<;>simp only[DB]at hb
 ·have hi':i<L.length:=by omega
  obtain⟨cs,⟨vi,rfl,si,hli⟩,pc,hs⟩:=zb sb1 hi';obtain⟨_,_,_,rfl⟩:=zD si;have hsucc:=zBD L b i;have hln:=Yq L b i;refine go ?_;refine VA (zL4 h1 (L.getD i default).fin) ?_;rintro u h2 ⟨ou,e2⟩;have hul:(ZI (L.getD i default).fin).length<=2:=zCH _;refine go ?_;refine VA (zOl h2 u _ b ou.sl (by omega)) ?_;rintro _ _ ⟨rfl,rfl⟩;have ow2:=ow.ext e2;by_cases hb2:b∈ZI (L.getD i default).fin
  ·rw[QF hb2]at hsucc;refine go ?_;refine WO.bl [(i:Int)] ?_;intro v4 h4 e4 o4;refine go ?_;refine VO (ow2.ext e4) o4.sl ((e1.trans e2).trans e4) (by simp only[QX];omega) ?_;intro v5 h5 e5 o5;refine go ?_;exact zA (i+1) (by omega) ⟨e5,Wc,by omega,v5,U6,by rw[hsucc];exact o5⟩
  ·rw[QC hb2]at hsucc;refine go ?_;exact zA (i+1) (by omega) ⟨e1.trans e2,Wc,by omega,w,U6,by rw[hsucc];exact ow2⟩
 ·have hii:i=L.length:=by omega
  subst hii;refine gr ?_;exact⟨ow,e1⟩
end Go.Proofs.YtfnndahpddkniaaGreatDoor
set_option maxRecDepth 100000
namespace Go.Proofs.YtfnndahpddkniaaGreatDoor
open Go.Am
def Ris(l:List Int):Prop:=∀ i,i+1<l.length->l.getD i 0<l.getD (i+1) 0
theorem Ris.tail{a:Int}{l:List Int}(h:Ris (a::l)):Ris l:=fun i hi=>by
 have:=h (i+1) (by simp only[GE];omega);simpa [List.getD]using this
theorem Ris.lt{l:List Int}:∀ {a:Int},Ris (a::l)->∀ x∈l,a<x:=by
 induction l with
 |nil=>intro a _ x hx;cases hx
 |cons b l ih=>
  intro a h x hx;have h0:a<b:=by have:=h 0 (by simp);simpa [List.getD]using this
  rcases GI.1 hx with rfl|hx
  ·exact h0
  ·have:=ih h.tail x hx;omega
theorem zOK{l k:List Int}(hl:Ris l)(hk:Ris k)(h:∀ x,x∈l↔x∈k):l=k:=by
 induction l generalizing k with
 |nil=>
  cases k with
  |nil=>rfl
  |cons b k=>have:=(h b).2 (by simp);cases this
 |cons a l ih=>
  cases k with
  |nil=>have:=(h a).1 (by simp);cases this
  |cons b k=>
   have hab:a=b:=by
    have h1:=(h a).1 (by simp);have h2:=(h b).2 (by simp);rcases GI.1 h1 with e|h1
    ·exact e
    ·rcases GI.1 h2 with e|h2
     ·exact e.symm
     ·have:=hl.lt b h2;have:=hk.lt a h1;omega
   subst hab;congr 1;refine ih hl.tail hk.tail fun x=>⟨fun hx=> ?_,fun hx=> ?_⟩
   ·rcases GI.1 ((h x).1 (by simp[hx]))with e|h2
    ·have:=hl.lt x hx;omega
    ·exact h2
   ·rcases GI.1 ((h x).2 (by simp[hx]))with e|h2
    ·have:=hk.lt x hx;omega
    ·exact h2
theorem zJB(p:Nat->Bool)(n:Nat):Ris (((List.range n).filter p).map fun(i:Nat)=>(i:Int)):=by
 intro i hi;have hp:((List.range n).filter p).Pairwise (·<·):=List.Pairwise.filter _ List.pairwise_lt_range;rw[Qv]at hi;have:=List.pairwise_iff_getElem.1 hp i (i+1) (by omega) hi (by omega);simp only[QH,GT,QB hi,QB (show i<((List.range n).filter p).length by omega),QI,GD];omega
def onL(bs:List Bool)(n:Nat):List Int:=((List.range n).filter fun(i:Nat)=>bO bs (i:Int)).map fun(i:Nat)=>(i:Int)
theorem zLV(bs:List Bool)(n:Nat):onL bs (n+1)=if bO bs (n:Int)then onL bs n++[(n:Int)]else onL bs n:=by
 unfold onL;rw[List.range_succ,List.filter_append,GB];by_cases h:bO bs (n:Int)=true
 ·rw[QF h,List.filter_cons_of_pos (by simpa using h)];rfl
 ·rw[QC h,List.filter_cons_of_neg (by simpa using h)];simp
theorem zJn(bs:List Bool)(n:Nat):(onL bs n).length<=n:=by
 unfold onL;rw[Qv];exact QU (List.length_filter_le _ _) (by simp)
theorem zOM{bs:List Bool}{n:Nat}{x:Int}:x∈onL bs n↔(0<=x/\x<(n:Int))/\bO bs x=true:=by
 unfold onL;rw[Q8];constructor
 ·rintro⟨i,hi,rfl⟩;rw[Gm,GQ]at hi;exact⟨by omega,hi.2⟩
 ·rintro⟨h1,h2⟩;refine⟨x.toNat,?_,by omega⟩;rw[Gm,GQ];refine⟨by omega,?_⟩;rw[show((x.toNat:Nat):Int)=x by omega];exact h2
theorem zIz(h:U0)(v:Value)(L:List WL)(hm:h.mark<=h.n)(sb:Wi h v L)(hL:L.length<=16)(hL0:0<L.length)(hin:∀ c,0<=c/\c<(L.length:Int)->∀ d∈WZ L c,0<=d/\d<(L.length:Int)):
  WC Tryz.prog tb 88 [v] h fun r h'=>(∃ l,U7 h h' r l/\Ris l/\l.length<=16/\∀ c,c∈l↔WU (WZ L) 0 c)/\Ext h h':=by
 have hf0:∀ a∈([0]:List Int),0<=a/\a<(L.length:Int):=fun a ha=>by rw[Qb]at ha;subst ha;omega
 have hrw:∀ c,Bu (WZ L) [0] (-1) c↔WU (WZ L) 0 c:=fun c=>by
  rw[zJg hin hf0];exact⟨fun⟨a,ha,w⟩=>by rw[Qb]at ha;subst ha;exact w,fun w=>⟨0,by simp,w⟩⟩
 have hwin:∀ c,WU (WZ L) 0 c->0<=c/\c<(L.length:Int):=fun c w=>((hrw c).2 w).in hin hf0;replace hwin:=WE.mk hwin;replace hrw:=WE.mk hrw;refine en ?_;refine WO.bl [0] ?_;intro v1 h1 e1 o1;refine go ?_;refine VA (zGD h1 v v1 L [0] (-1) (zq e1 hm) (Wi.ext sb e1) o1.sl hL hin hf0 (by simp)) ?_;rintro r h2 ⟨⟨bs,ob,hbl,hbs⟩,e2⟩;replace hbs:=WE.mk hbs;have e12:=e1.trans e2;refine go ?_;refine VD (fun i=>L.length-i) (fun i t h3=>Ext h2 h3/\zB t 5=I i/\i<=L.length/\∃ w,zB t 3=w/\U7 h2 h3 w (onL bs i)) 0 ?_ ?_
 ·exact⟨Ext.refl _,U6,QK _,_,U6,.inl ⟨rfl,rfl⟩⟩
 rintro i t h3 hsame ⟨e3,s5,hi,w,s3,ow⟩;have sr:zNu h3 r bs:=(ob.ext e3).sl;refine go ?_;refine VE (fun hb=> ?_) (fun hb=> ?_)<;>simp only[DB]at hb
 ·have hi':i<L.length:=by omega
  obtain⟨cs1,hcs1,pc1,hs1⟩:=zb sr (i:=i) (by omega);have hcs1:cs1=[.bool (bO bs i)]:=by
   have:bs.getD i default=bO bs i:=by unfold bO;rw[QN];rfl
   rw[<-this];exact hcs1
  subst hcs1;have hsucc:=zLV bs i;have hln:=zJn bs i;cases hbi:bO bs i with
  |true=>
   rw[hbi]at pc1;rw[hbi,QF rfl]at hsucc;refine go ?_;refine WO.bl [(i:Int)] ?_;intro v4 h4 e4 o4;refine go ?_;refine VO (ow.ext e4) o4.sl (e3.trans e4) (by simp only[QX];omega) ?_;intro v5 h5 e5 o5;refine go ?_;exact zA (i+1) (by omega) ⟨e5,Wc,by omega,v5,U6,by rw[hsucc];exact o5⟩
  |false=>
   rw[hbi]at pc1;rw[hbi,QC (by simp)]at hsucc;refine go ?_;exact zA (i+1) (by omega) ⟨e3,Wc,by omega,w,U6,by rw[hsucc];exact ow⟩
 ·have hii:i=L.length:=by omega
  subst hii;refine gr ?_;have hln:=zJn bs L.length;refine⟨⟨_,ow.since e12,zJB _ _,by omega,fun c=> ?_⟩,e12.trans e3⟩;rw[zOM];exact⟨fun hh=>(hrw.out c).1 ((hbs.out c hh.1).1 hh.2),fun w=>⟨hwin.out c w,(hbs.out c (hwin.out c w)).2 ((hrw.out c).2 w)⟩⟩
end Go.Proofs.YtfnndahpddkniaaGreatDoor
set_option maxRecDepth 100000
namespace Go.Proofs.YtfnndahpddkniaaGreatDoor
open Go.Am
structure En(h:U0)(vt vf:Value)(T:List U2)(F:List WM):Prop where
 tt:Bh h
 hm:h.mark<=h.n
 sm:W0 T F
 si:zEV F
 st:Wp h vt T
 sf:Wd h vf F
theorem En.ext{h h':U0}{vt vf:Value}{T:List U2}{F:List WM}(E:En h vt vf T F)(e:Ext h h'):En h' vt vf T F:=
 ⟨E.tt.ext e,zq e E.hm,E.sm,E.si,E.st.ext e,Wd.ext E.sf e⟩
theorem En.inC{h:U0}{vt vf:Value}{T:List U2}{F:List WM}(E:En h vt vf T F):En (inC (zC 0 h)) vt vf T F:=⟨E.tt,QE _,E.sm,E.si,E.st,E.sf⟩
theorem zI1(h:U0)(vt vf:Value)(T:List U2)(F:List WM)(E:En h vt vf T F):
  WC Tryz.prog tb 65 [.agg #[vt,vf]] h fun r h'=>r=I (yu T F)/\Ext h h':=by
 have st:=E.st;have sf:=E.sf;have hT:=E.sm.types;have hF:=E.sm.funcs;obtain⟨ta,tn,tk,rfl⟩:=zD st;obtain⟨ga,gn,gk,rfl⟩:=zD sf;refine en ?_;refine VF ?_;intro p h1 e1 o1;have st1:=st.ext e1;have sf1:=Wd.ext sf e1;refine go ?_;refine VA (zKi h1 _ T st1 (by omega) (fun x hx=>by have:=E.sm.parts x hx;omega)) ?_;rintro _ h2 ⟨rfl,e2⟩;have o1:=o1.ext e2;have e02:=e1.trans e2;by_cases hc:yQ T=0;case neg=>
  have hc':yQ T≠0:=hc;refine gr ?_;exact⟨by unfold yu;rw[QF hc];rfl,e02⟩
 have E2:=E.ext e02;rw[hc];have hp0:yu T F=if(!zY ((F.length:Int)-1) 8||F.any fun f=> !BL T F.length f)then 60 else 0:=by unfold yu;rw[QC (fun e=>e hc)]
 refine go ?_;refine VD (fun i=>F.length-i) (fun i t h3=>Ext h2 h3/\zB t 4=I i/\i<=F.length/\WE (∀ j,j<i->BL T F.length (F.getD j default)=true)) 0 ?_ ?_
 ·exact⟨Ext.refl _,U6,QK _,⟨fun j hj=>absurd hj (Qh _)⟩⟩
 rintro i t h3 hsame ⟨e3,s4,hi,hall⟩;have o1:=o1.ext e3;have e03:=e02.trans e3;have E3:=E2.ext e3;have sf3:=E3.sf;refine go ?_;refine VE (fun hd=> ?_) (fun hd=> ?_)<;>simp only[DB]at hd
 ·have hi':i<F.length:=by omega
  have hmem:=zG (l:=F) hi';refine go ?_;refine VC 0 rfl rfl ?_;have o1X:U1 h (inC (zC 0 h3)) p [_,_]:=o1;have sfX:Wd (inC (zC 0 h3)) _ F:=sf3;obtain⟨cs,⟨vb,rfl,sb,hlb⟩,pc,hs⟩:=zb sfX hi';obtain⟨ba,bn,bk,rfl⟩:=zD sb;refine U9 ?_;refine VA (zGp (inC (zC 0 h3)) _ _ T F (F.getD i default) [I (F.getD i default).sig,.slice ba bn bk] E.sm E.si hmem (QE _) E3.inC.st sfX ⟨_,rfl,sb,hlb⟩) ?_;rintro _ h4 ⟨rfl,e4⟩;refine nE e4 ?_;refine U9 ?_;have e5:Ext h3 (outC h3 (inC h4)):=e4.reg;obtain⟨h5,hh5⟩:∃ h5,h5=outC h3 (inC h4):=⟨_,rfl⟩;rw[<-hh5]at e5;rw[<-hh5];clear o1X sfX pc e4 hh5 sb;cases hfn:BL T F.length (F.getD i default)with
  |false=>
   refine gr ?_;refine⟨?_,e03.trans e5⟩;rw[hp0,Gz.2 ⟨_,hmem,by rw[hfn];rfl⟩,Q2];rfl
  |true=>
   refine go ?_;refine zA (i+1) (by omega) ⟨e3.trans e5,Wc,by omega,⟨fun j hj=> ?_⟩⟩;by_cases e:j=i
   ·subst e;exact hfn
   ·exact hall.out j (by omega)
 ·have hany:(F.any fun f=> !BL T F.length f)=false:=YC fun f hf=>by
   obtain⟨j,hj,rfl⟩:=ZX hf;rw[hall.out j (by omega)];rfl
  rw[hany,Qw]at hp0;by_cases c1:(F.length:Int)<1
  ·refine gr ?_;refine⟨?_,e03⟩;have:zY ((F.length:Int)-1) 8=false:=by unfold zY;simp;omega
   rw[hp0,this];rfl
  by_cases c2:8<(F.length:Int)
  ·refine gr ?_;refine⟨?_,e03⟩;have:zY ((F.length:Int)-1) 8=false:=by unfold zY;simp;omega
   rw[hp0,this];rfl
  ·refine gr ?_;refine⟨?_,e03⟩;have:zY ((F.length:Int)-1) 8=true:=by unfold zY;simp;omega
   rw[hp0,this];rfl
theorem zEE{T:List U2}{F:List WM}{f:Int}(h:(zz T F f).2=0):0<=f/\f<(F.length:Int)/\yu T F=0/\zz T F f=(((T.getD (F.getD f.toNat default).sig.toNat default).parts.length:Int),0):=by
 unfold zz at h |-;split at h
 ·rename_i hp;exact absurd h hp
 ·rename_i hp;rw[QC hp];split at h
  ·rename_i hb;have hb2:=hb;unfold zY at hb2;simp at hb2;exact⟨hb2.1,hb2.2,by omega,by rw[QF hb]⟩
  ·cases h
theorem zPa{T:List U2}{F:List WM}{f:Int}(h:(zz T F f).2=0):0<=(F.getD f.toNat default).sig/\(F.getD f.toNat default).sig<(T.length:Int):=by
 obtain⟨h1,h2,h3,_⟩:=zEE h;exact zEn ((yX h3).2.2.2 _ (zG (l:=F) (i:=f.toNat) (by omega)))
theorem zM7{T:List U2}{F:List WM}{f:Int}(h:(zF T F f 0).2=0){l:List Int}(hr:Ris l)(hm:∀ c,c∈l↔WU (WZ (zF T F f 0).1) 0 c):(yL T F f).1=l:=by
 refine zOK ?_ hr fun x=>(Zl h).trans (hm x).symm;obtain⟨_,_,_,_,h5,_⟩:=zAK h;exact h5
end Go.Proofs.YtfnndahpddkniaaGreatDoor
set_option maxRecDepth 100000
namespace Go.Proofs.YtfnndahpddkniaaGreatDoor
open Go.Am
theorem zGo(h:U0)(x:BY):WC Tryz.prog tb 119 [.agg #[.int .u8 x.kind,I x.a,I x.to,I x.els]] h fun r h'=>U7 h h' r (yB x)/\Ext h h':=by
 unfold yB;refine en ?_;refine VF ?_;intro p h1 e1 o1;by_cases c2:x.kind=2
 ·rw[QF (.inl c2)];refine go ?_;refine WO.bl [x.a] ?_;intro v h2 e2 o2;refine gr ?_;exact⟨.inr (WT.since o2 e1),e1.trans e2⟩
 by_cases c3:x.kind=3
 ·rw[QF (.inr c3)];refine go ?_;refine WO.bl [x.a] ?_;intro v h2 e2 o2;refine gr ?_;exact⟨.inr (WT.since o2 e1),e1.trans e2⟩
 ·rw[QC (fun h=>h.elim c2 c3)];refine gr ?_;exact⟨.inl ⟨rfl,rfl⟩,e1⟩
end Go.Proofs.YtfnndahpddkniaaGreatDoor
