/- Walks of functions, plain laws; proves no statement. -/
import Derived.Test.YtmilpkdhbdgjfaaGreatDoorJi
set_option linter.all false
set_option maxHeartbeats 4000000
set_option maxRecDepth 100000
namespace Go.Proofs.YtmilpkdhbdgjfaaGreatDoor
open Go.Am
def ZN(a:Wa):Bool:=decide (a.state=1)&&decide (0<a.frs.length)
def zJ(a:Wa):BQ:=a.frs.getD (a.frs.length-1) default
def zM:Wa:=⟨[],[],[],0,[],0,0,0,0,0⟩
def zEr(a:Wa)(r:Int):Bool:=decide (0<=r)&&decide (r<((zJ a).regs.length:Int))
abbrev mC(vm vf vi ve:Value)(a:Wa):List Value:=[vm,vf,vi,I a.used,ve,I a.steps,I a.heaps,.int .u8 a.state,I a.trap,I a.exit]
def Bv(v:Value):Prop:=v=.slice none 0 0\/∃ a k,v=.slice (some a) 0 k
theorem Bv.sl{α:Type}{c:Nat}{R:WF->List Value->α->Prop}{h:WF}{v:Value}(n:Bv v):Ww c R h v ([]:List α):=⟨[],⟨by simp,.inl ⟨rfl,n⟩⟩,fun i a h=>by cases h⟩
theorem Bv.of{α:Type}{c:Nat}{R:WF->List Value->α->Prop}{h:WF}{v:Value}(s:Ww c R h v ([]:List α)):Bv v:=by
 obtain⟨_,⟨_,⟨_,h⟩|⟨g,off,row,h,_⟩⟩,_⟩:=s
 ·exact h
 ·exact .inr ⟨_,_,h⟩
theorem Bv.shape{v:Value}(n:Bv v):∃ a m k,v=.slice a m k:=by
 rcases n with h|⟨_,_,h⟩<;>exact⟨_,_,_,h⟩
structure OM(b:Nat)(h:WF)(vf vi:Value)(xs:List Br)(a:Wa):Prop where
 f:WZ 5 B6 b h vf xs
 lx:xs.length=a.frs.length
 rel:∀ i,i<xs.length->zGO (xs.getD i default) (a.frs.getD i default)
 rg:∀ i,i<xs.length->WZ 4 W6 b h (xs.getD i default).v (a.frs.getD i default).regs
 off:∀ j k,j<k->k<xs.length->Wp (xs.getD j default).v (xs.getD k default).v
 offF:∀ i,i<xs.length->Wp vf (xs.getD i default).v
 i:∃ hb:WF,b<=hb.n/\Wb hb h vi a.inn
 offI:Wp vi vf/\∀ i,i<xs.length->Wp vi (xs.getD i default).v
 bn:b<=h.n
 nm:a.mem=[]/\a.evs=[]
 lf:a.frs.length<=100
 li:a.inn.length<=1000
 lr:∀ i,i<a.frs.length->(a.frs.getD i default).regs.length<=1000
structure FM(b:Nat)(h:WF)(cs:List Value)(a:Wa):Prop where
 ex:∃ vm vf vi ve,cs=mC vm vf vi ve a/\(Bv vm/\Bv ve)/\∀ h':WF,(∀ k,b<=k->k<h.n->h'.get k=h.get k)->h.n<=h'.n->BW h' vf a.frs/\Wd h' vi a.inn
 bn:b<=h.n
 nm:a.mem=[]/\a.evs=[]
 lf:a.frs.length<=100
 li:a.inn.length<=1000
 lr:∀ i,i<a.frs.length->(a.frs.getD i default).regs.length<=1000
section
variable {b:Nat}{h h':WF}{vm vf vi ve:Value}{xs:List Br}{a:Wa}{cs:List Value}
theorem OM.upd(o:OM b h vf vi xs a)(hk:∀ k,b<=k->k<h.n->h'.get k=h.get k)(hn:h.n<=h'.n):OM b h' vf vi xs a:=
 ⟨o.f.upd hk hn,o.lx,o.rel,fun i hi=>(o.rg i hi).upd hk hn,o.off,o.offF,let⟨hb,h1,h2⟩:=o.i;⟨hb,h1,zHJ h2 (fun g g1 g2=>hk g (QN h1 g1) g2) hn⟩,o.offI,QN o.bn hn,o.nm,o.lf,o.li,o.lr⟩
theorem OM.ext(o:OM b h vf vi xs a)(e:WK h h'):OM b h' vf vi xs a:=o.upd (fun k _ hk=>e.get k hk) e.n
theorem OM.base{b':Nat}(o:OM b h vf vi xs a)(hb:b'<=b):OM b' h vf vi xs a:=
 ⟨o.f.base hb,o.lx,o.rel,fun i hi=>(o.rg i hi).base hb,o.off,o.offF,let⟨hb',h1,h2⟩:=o.i;⟨hb',QN hb h1,h2⟩,o.offI,QN hb o.bn,o.nm,o.lf,o.li,o.lr⟩
theorem FM.upd(o:FM b h cs a)(hk:∀ k,b<=k->k<h.n->h'.get k=h.get k)(hn:h.n<=h'.n):FM b h' cs a:=
 ⟨let⟨vm,vf,vi,ve,h1,h2,h3⟩:=o.ex;⟨vm,vf,vi,ve,h1,h2,fun h'' q1 q2=>h3 h'' (fun k k1 k2=>(q1 k k1 (QK k2 hn)).trans (hk k k1 k2)) (QN hn q2)⟩,QN o.bn hn,o.nm,o.lf,o.li,o.lr⟩
theorem FM.ext(o:FM b h cs a)(e:WK h h'):FM b h' cs a:=o.upd (fun k _ hk=>e.get k hk) e.n
theorem FM.base{b':Nat}(o:FM b h cs a)(hb:b'<=b):FM b' h cs a:=
 ⟨let⟨vm,vf,vi,ve,h1,h2,h3⟩:=o.ex;⟨vm,vf,vi,ve,h1,h2,fun h'' q1 q2=>h3 h'' (fun k k1 k2=>q1 k (QN hb k1) k2) q2⟩,QN hb o.bn,o.nm,o.lf,o.li,o.lr⟩
theorem OM.fr(o:OM b h vf vi xs a):BW h vf a.frs:=
 zFD (rel:=fun x f=>zGO x f/\W9 h x.v f.regs/\(f.regs.length:Int)<=9223372036854775807) o.f.sl o.lx (fun j hj=>⟨o.rel j (by rw[o.lx];exact hj),(o.rg j (by rw[o.lx];exact hj)).sl,by have:=o.lr j hj;omega⟩) (fun cs x f hx hr=>by
  obtain⟨⟨r1,r2,r3,r4⟩,r5,r6⟩:=hr;obtain⟨rfl,_⟩:=hx;exact⟨x.v,by rw[r1,r2,r3,r4],r5,r6⟩)
theorem FM.rm(o:FM b h cs a):RMm h cs a:=by
 obtain⟨vm,vf,vi,ve,rfl,n,k⟩:=o.ex;obtain⟨k1,k2⟩:=k h (fun _ _ _=>rfl) (QE _);have h1:=o.lf;have h3:=o.li;exact⟨vm,vf,vi,ve,rfl,by rw[o.nm.1];exact n.1.sl,k1,k2,by rw[o.nm.2];exact n.2.sl,by rw[o.nm.1];simp,by omega,by omega,by rw[o.nm.2];simp⟩
theorem FM.small(o:FM b h cs a):SmallM a:=⟨by rw[o.nm.1];simp,fun i hi=>by rw[o.nm.1]at hi;simp at hi,o.lf,o.lr,o.li,by rw[o.nm.2];simp⟩
theorem OM.fm(o:OM b h vf vi xs a)(n:Bv vm/\Bv ve):FM b h (mC vm vf vi ve a) a:=
 ⟨⟨vm,vf,vi,ve,rfl,n,fun h' q1 q2=>⟨(o.upd q1 q2).fr,let⟨_,_,h2⟩:=(o.upd q1 q2).i;h2.sl⟩⟩,o.bn,o.nm,o.lf,o.li,o.lr⟩
theorem zPK(rm:RMm h cs a)(om:OwnMach b h cs a)(sm:SmallM a)(nm:a.mem=[]/\a.evs=[]):∃ vm vf vi ve xs,cs=mC vm vf vi ve a/\(Bv vm/\Bv ve)/\OM b h vf vi xs a:=by
 obtain⟨vm,vf,vi,ve,xs,b1,b2,rfl,of,lx,h1,h2,h3,h4,h5,⟨hb,hb1,oi⟩,h7,h6⟩:=om;obtain⟨vm',vf',vi',ve',e,km,kf,ki,ke,lm,lf,li,le⟩:=rm;simp only[JB]at e;obtain⟨rfl,rfl,rfl,_,rfl,_⟩:=e;obtain⟨c1,s1,r1⟩:=kf;obtain⟨c2,s2,r2⟩:=of.sl;have hc:0<xs.length->c1=c2:=fun hx=>by
  obtain⟨p1,p2⟩:=s1;obtain⟨q1,q2⟩:=s2;rcases p2 with⟨p2,_⟩|⟨g,off,row,p3,p4,p5,_⟩
  ·omega
  rcases q2 with⟨q2,_⟩|⟨g',off',row',q3,q4,q5,_⟩
  ·omega
  rw[p3,lx]at q3;cases q3;rw[p4]at q4;cases q4;rw[lx]at q5;rw[p5]at q5;exact Q5 q5
 have hR:∀ i,i<xs.length->zGO (xs.getD i default) (a.frs.getD i default):=fun i hi=>by
  have e:=hc (by omega);subst e;have q1:=r1 i (a.frs.getD i default) (by rw[QB (by omega)];simp[List.getD,QB (show i<a.frs.length by omega)]);have q2:=r2 i (xs.getD i default) (by rw[QB hi];simp[List.getD,QB hi]);obtain⟨v,q3,q4,q5⟩:=q1;obtain⟨q6,_⟩:=q2;rw[q6]at q3;simp only[JB,Value.int.injEq]at q3;obtain⟨⟨_,z1⟩,⟨_,z2⟩,⟨_,z3⟩,z4,⟨_,z5⟩,_⟩:=q3;exact⟨z1,z2,z3,z5⟩
 have vf2:∀ g,blk vf=some g->b1<=g/\g<b2:=fun g hg=>by
  have hx:=ZP of g hg;rcases of with⟨e,_⟩|⟨g',_,_,_,_,e,_⟩
  ·rw[e]at hg;cases hg
  ·rw[e]at hg;cases hg;exact⟨hx.1,h4 _ _ _ e⟩
 have vi2:∀ g,blk vi=some g->g<b1:=fun g hg=>by
  rcases oi with⟨e,_⟩|⟨g',_,_,e,_⟩
  ·rw[e]at hg;cases hg
  ·rw[e]at hg;cases hg;exact h7 _ _ _ e
 refine⟨vm,vf,vi,ve,xs,rfl,⟨Bv.of (by rw[nm.1]at km;exact km),Bv.of (by rw[nm.2]at ke;exact ke)⟩,of.base h1,lx,hR,fun i hi=>(h5 i hi).base (by omega),h6,fun i hi g k1 k2=> ?_,⟨hb,hb1,oi⟩,⟨fun g k1 k2=> ?_,fun i hi g k1 k2=> ?_⟩,by omega,nm,sm.frs,sm.inn,sm.regs⟩
 ·have:=vf2 g k1;have:=ZP (h5 i hi) g k2;omega
 ·have:=vf2 g k2;have:=vi2 g k1;omega
 ·have:=vi2 g k1;have:=ZP (h5 i hi) g k2;omega
end
theorem zBz(h:WF)(ca:List Value)(a:Wa)(ra:RMm h ca a):WC Tryz.prog tb 35 [.agg ca.toArray] h fun r h'=>r=.bool (ZN a)/\WK h h':=by
 obtain⟨vm,vf,vi,ve,rfl,km,kf,ki,ke,lm,lf,li,le⟩:=ra;unfold ZN;refine en ?_;refine VG ?_;intro p h1 e1 o1;replace o1:WH h h1 p [vm,vf,vi,I a.used,ve,I a.steps,I a.heaps,.int .u8 a.state,I a.trap,I a.exit]:=o1;have kf1:=BW.ext kf e1;obtain⟨f1,f2,f3,rfl⟩:=zc kf;by_cases c1:a.state=1
 ·by_cases c2:0<a.frs.length
  ·refine gr ?_;exact⟨by simp[c1,c2];rfl,e1⟩
  ·refine gr ?_;exact⟨by simp[c1,c2];rfl,e1⟩
 ·refine gr ?_;exact⟨by simp[c1];rfl,e1⟩
theorem zFx(h:WF)(ca:List Value)(a:Wa){b:Nat}(ra:FM b h ca a)(hm:h.mark<=h.n)(hne:0<a.frs.length):
  WC Tryz.prog tb 37 [.agg ca.toArray] h fun r h'=>(∃ gq gf nf vm vi ve xs,r=.agg #[zR (.slice (some ⟨gf,0,none⟩) nf 5) ((a.frs.length-1)*5),.pointer (some ⟨gq,0,none⟩)]/\WH h h' (.pointer (some ⟨gq,0,none⟩)) (mC vm (.slice (some ⟨gf,0,none⟩) nf 5) vi ve a)/\(Bv vm/\Bv ve)/\OM h.n h' (.slice (some ⟨gf,0,none⟩) nf 5) vi xs a/\
   (gq≠gf/\Wp (.pointer (some ⟨gq,0,none⟩)) vi/\∀ i,i<xs.length->Wp (.pointer (some ⟨gq,0,none⟩)) (xs.getD i default).v))/\WK h h':=by
 have ra0:=ra.rm;have sm:=ra.small;have nm:=ra.nm;have hfl:=sm.frs;obtain⟨am,af,ai,ae,rfl,kam,kaf,kai,kae,lam,laf,lai,lae⟩:=ra.rm;refine en ?_;refine VG ?_;intro p h1 e1 o1;replace o1:WH h h1 p [am,af,ai,I a.used,ae,I a.steps,I a.heaps,.int .u8 a.state,I a.trap,I a.exit]:=o1;refine go ?_;refine VJ ?_;intro p2 h2 e2 o2;have o12:=o1.ext e2;have e12:=e1.trans e2;refine go ?_;refine VA (zCw h2 _ a (ra0.ext e12) sm (by rw[e12.mark];exact QN hm e12.n)) ?_;rintro _ h3 ⟨⟨cs,rfl,rm,om⟩,e3⟩;obtain⟨vm,vf,vi,ve,xs,rfl,⟨nb1,nb2⟩,M⟩:=zPK rm om sm nm;have o23:=o2.ext e3;obtain⟨gf,nf,rfl⟩:∃ gf nf,vf=.slice (some ⟨gf,0,none⟩) nf 5:=by
  rcases M.f with⟨_,e⟩|⟨g,_,_,_,_,e,_⟩
  ·have:=M.lx;rw[e]at this;simp at this;omega
  ·exact⟨g,_,e⟩
 obtain⟨hb,hb1,oi⟩:=id M.i;obtain⟨m1,m2,m3,rfl⟩:=nb1.shape;obtain⟨i1,i2,i3,rfl⟩:=Wt.shape oi.sl;obtain⟨v1,v2,v3,rfl⟩:=nb2.shape;refine go ?_;refine VJ ?_;intro q h4 e4 o4;refine go ?_;refine VF (cs:=[.slice m1 m2 m3,.slice (some ⟨gf,0,none⟩) nf 5,.slice i1 i2 i3,I a.used,.slice v1 v2 v3,I a.steps,I a.heaps,.int .u8 a.state,I a.trap,I a.exit]) o4 e4 ?_;intro h5 e5 o5 u5;have M5:=M.ext e5;have kf5:=M5.fr;have o25:=o23.ext e5;obtain⟨gq,gq1,gq2,rfl,gq3⟩:=id o5;refine go ?_;rw[show((a.frs.length:Int)-1).toNat=a.frs.length-1 by omega];refine VF (cs:=[zR (.slice (some ⟨gf,0,none⟩) nf 5) ((a.frs.length-1)*5),.pointer (some ⟨gq,0,none⟩)]) o25 (e2.trans (e3.trans e5)) ?_;intro h6 e6 o6 u6;have M6:OM h2.n h6 _ _ _ a:=M5.upd (fun k h1 h2=>u6.2 k h2 fun e=>by have:=(zDT o2 k e).2;omega) u6.1;refine gr ?_;have hq:zC1 h3 (.pointer (some ⟨gq,0,none⟩)):=o5.since';refine⟨⟨gq,gf,nf,.slice m1 m2 m3,.slice i1 i2 i3,.slice v1 v2 v3,xs,rfl,?_,⟨nb1,nb2⟩,M6.base e12.n,fun e=> ?_,VI hq oi.within,fun i hi=>VI hq (M.rg i hi).within⟩,e1.trans e6⟩
 ·exact(zM8 o5 u6 fun g e=>by have:=(zDT o2 g e).2;have:=e3.n;omega).since (e12.trans e3)
 ·have:=ZP M.f gf rfl;omega
theorem zJ4(h:WF)(vf q:Value)(L:List BQ)(i:Nat)(r:Int)(sv:zJB vf)(s:BW h vf L)(hi:i<L.length):WC Tryz.prog tb 36 [.agg #[zR vf (i*5),q],I r] h fun w h'=>w=.bool (decide (0<=r)&&decide (r<((L.getD i default).regs.length:Int)))/\WK h h':=by
 obtain⟨cs,⟨v,rfl,k,_⟩,pc,hs⟩:=zg s hi;obtain⟨w1,w2,w3,rfl⟩:=zc k;generalize L.getD i default=x at *;refine en ?_;refine VG ?_;intro p h1 e1 o1;replace o1:WH h h1 p [zR vf (i*5),q]:=o1;have pc1:=(pc _ e1).1;have k1:=W9.ext k e1;by_cases r0:0<=r
 ·refine gr ?_;exact⟨by rw[QX r0];rfl,e1⟩
 ·refine gr ?_;exact⟨by rw[QW r0];rfl,e1⟩
end Go.Proofs.YtmilpkdhbdgjfaaGreatDoor
set_option maxRecDepth 100000
namespace Go.Proofs.YtmilpkdhbdgjfaaGreatDoor
open Go.Am
def putF(a:Wa)(f:BQ):Wa:={a with frs:=a.frs.set (a.frs.length-1) f}
def v0:Wi:=⟨0,0,0,0⟩
def zBp(a:Wa)(r:Int)(v:Wi):Wa×Int:=if ZN a=false then(zM,160)else if zEr a r&&Bo v then(putF a {zJ a with regs:=(zJ a).regs.set r.toNat v},0)else(zM,2)
def zAq(a:Wa)(e:Int):Wa×Int:=if ZN a=false then(zM,160)else if decide (1<=e)&&decide (e<=1000)then({a with state:=3,trap:=e},0)else(zM,2)
theorem Yf{a:Wa}(h:ZN a=true):0<a.frs.length:=by
 unfold ZN at h;simp at h;exact h.2
theorem FM.zero{b:Nat}{h:WF}(hb:b<=h.n):FM b h [.slice none 0 0,.slice none 0 0,.slice none 0 0,I 0,.slice none 0 0,I 0,I 0,.int .u8 0,I 0,I 0] zM:=
 ⟨⟨_,_,_,_,rfl,⟨.inl rfl,.inl rfl⟩,fun h' _ _=>⟨Bv.sl (.inl rfl),⟨by simp,.inl ⟨rfl,.inl rfl⟩⟩⟩⟩,hb,⟨rfl,rfl⟩,by decide,by decide,fun i hi=>by simp[zM]at hi⟩
theorem OM.setR{b:Nat}{h h':WF}{vf vi:Value}{xs:List Br}{a:Wa}{i:Nat}{l:List Wi}(o:OM b h vf vi xs a)(hi:i<a.frs.length)(hl:l.length<=1000)(o':WZ 4 W6 b h' (xs.getD i default).v l)(u:UpB (xs.getD i default).v h h'):
  OM b h' vf vi xs {a with frs:=a.frs.set i {a.frs.getD i default with regs:=l}}:=by
 have hx:i<xs.length:=by rw[o.lx];exact hi
 have hset:∀ j,(a.frs.set i {a.frs.getD i default with regs:=l}).getD j default=if j=i then {a.frs.getD i default with regs:=l} else a.frs.getD j default:=fun j=>yb hi;refine⟨o.f.upB (fun _ _ _ _ r=>r) u (o.offF i hx).symm,by simp[o.lx],fun j hj=> ?_,fun j hj=> ?_,o.off,o.offF,let⟨hb,h1,h2⟩:=o.i;⟨hb,h1,h2.upB u (o.offI.2 i hx).symm⟩,o.offI,QN o.bn u.1,o.nm,by simpa using o.lf,o.li,fun j hj=> ?_⟩
 ·rw[hset];by_cases e:j=i
  ·subst e;rw[QG rfl];exact o.rel j hj
  ·rw[QC e];exact o.rel j hj
 ·rw[hset];by_cases e:j=i
  ·subst e;rw[QG rfl];exact o'
  ·rw[QC e];refine(o.rg j hj).upB (fun _ _ _ _ r=>r) u ?_;rcases Nat.lt_or_gt_of_ne e with q|q
   ·exact(o.off j i q hx).symm
   ·exact o.off i j q hj
 ·rw[hset];by_cases e:j=i
  ·rw[QG e];exact hl
  ·rw[QC e];exact o.lr j (by simpa using hj)
theorem zN3(h:WF)(ca:List Value)(a:Wa){b:Nat}(ra:FM b h ca a)(hm:h.mark<=h.n)(r:Int)(v:Wi):
  WC Tryz.prog tb 11 [.agg ca.toArray,I r,.agg #[.int .u8 v.kind,I v.n,I v.block,I v.pos]] h fun w h'=>(∃ cs,w=.tuple #[.agg cs.toArray,I (zBp a r v).2]/\FM h.n h' cs (zBp a r v).1)/\WK h h':=by
 have rm0:=ra.rm;have om0:=ra;obtain⟨vm,vf,vi,ve,rfl,_,_⟩:=ra.ex;refine en ?_;refine VG ?_;intro p h1 e1 o1;replace o1:WH h h1 p [vm,vf,vi,I a.used,ve,I a.steps,I a.heaps,.int .u8 a.state,I a.trap,I a.exit]:=o1;refine go ?_;refine VG ?_;intro p5 h2 e2 o2;replace o2:WH h1 h2 p5 [.int .u8 v.kind,I v.n,I v.block,I v.pos]:=o2;refine go ?_;refine VJ ?_;intro p6 h3 e3 o3;have e03:=e1.trans (e2.trans e3);have o13:=o1.ext (e2.trans e3);have o23:=o2.ext e3;refine go ?_;refine VA (zBz h3 _ a (rm0.ext e03)) ?_;rintro _ h4 ⟨rfl,e4⟩;have o14:=o13.ext e4;have o24:=o23.ext e4;have o34:=o3.ext e4;have e04:=e03.trans e4;by_cases hr:ZN a=true;case neg=>
  have hr:ZN a=false:=by simpa using hr
  rw[show zBp a r v=(zM,160)from QG hr,hr];refine go ?_;refine VF (cs:=[.slice none 0 0,.slice none 0 0,.slice none 0 0,I 0,.slice none 0 0,I 0,I 0,.int .u8 0,I 0,I 0]) o34 (e3.trans e4) ?_;intro h5 e5 o5 u5;refine gr ?_;have e05:=(e1.trans e2).trans e5;exact⟨⟨_,rfl,FM.zero e05.n⟩,e05⟩
 rw[hr];have hne:=Yf hr;refine go ?_;refine VA (zFx h4 _ a (om0.ext e04) (by rw[e04.mark];exact QN hm e04.n) hne) ?_;rintro _ h5 ⟨⟨gq,gf,nf,vm',vi',ve',xs',rfl,oq,nb',M',dq1,dq2,dq3⟩,e5⟩;have o25:=o24.ext e5;have o35:=o34.ext e5;have e05:=e04.trans e5;obtain⟨m1,m2,m3,rfl⟩:=nb'.1.shape;obtain⟨i1,i2,i3,rfl⟩:∃ a n k,vi'=.slice a n k:=let⟨_,_,h2⟩:=M'.i;Wt.shape h2.sl;obtain⟨v1,v2,v3,rfl⟩:=nb'.2.shape;refine go ?_;refine VJ ?_;intro p8 h6 e6 o6;refine go ?_;refine VF (cs:=[zR (.slice (some ⟨gf,0,none⟩) nf 5) ((a.frs.length-1)*5),.pointer (some ⟨gq,0,none⟩)]) o6 e6 ?_;intro h7 e7 o8 u8;have o27:=o25.ext e7;have o37:=o35.ext e7;have e07:=e05.trans e7;have M7:=M'.ext e7;have oq7:=oq.ext e7;have hxl:=M7.lx;refine go ?_;refine VA (zJ4 h7 (.slice (some ⟨gf,0,none⟩) nf 5) _ a.frs (a.frs.length-1) r ⟨_,_,_,rfl⟩ M7.fr (by omega)) ?_;rintro _ h8 ⟨rfl,e8⟩;have hq:(decide (0<=r)&&decide (r<((a.frs.getD (a.frs.length-1) default).regs.length:Int)))=zEr a r:=rfl;rw[hq];have o28:=o27.ext e8;have o38:=o37.ext e8;have o88:=o8.ext e8;have e08:=e07.trans e8;have e38:=(((e3.trans e4).trans e5).trans e7).trans e8;by_cases hh:zEr a r=true;case neg=>
  have hh:zEr a r=false:=by simpa using hh
  rw[hh,show zBp a r v=(zM,2)from by unfold zBp;rw[QC (by rw[hr];decide),hh];rfl];refine go ?_;refine VF (cs:=[.slice none 0 0,.slice none 0 0,.slice none 0 0,I 0,.slice none 0 0,I 0,I 0,.int .u8 0,I 0,I 0]) o38 e38 ?_;intro h9 e9 o9 u9;refine gr ?_;have e09:=(e1.trans e2).trans e9;exact⟨⟨_,rfl,FM.zero e09.n⟩,e09⟩
 rw[hh];have hh2:0<=r/\r<((zJ a).regs.length:Int):=by unfold zEr at hh;simpa using hh
 refine go ?_;refine Vz ?_;intro h9 e9 n9 s9 g9;have o29:=o28.ext e9;have o39:=o38.ext e9;have o89:=o88.ext e9;have e09:=e08.trans e9;have sv9:W9 h9 _ [v]:=⟨_,s9,fun i x hx=>by
  have hi:i=0:=by have:=(QM.1 hx).1;simp at this;omega
  subst hi;simp at hx;subst hx;rfl⟩
 refine go ?_;refine VA (zGq h9 _ [v] sv9 (by simp)) ?_;rintro _ h10 ⟨rfl,e10⟩;rw[show([v].all Bo)=Bo v from by simp];have o210:=o29.ext e10;have o310:=o39.ext e10;have o810:=o89.ext e10;have e010:=e09.trans e10;have e910:=(e8.trans e9).trans e10;have e310:=(e38.trans e9).trans e10;by_cases hv:Bo v=true;case neg=>
  have hv:Bo v=false:=by simpa using hv
  rw[hv,show zBp a r v=(zM,2)from by unfold zBp;rw[QC (by rw[hr];decide),hv,Qi];rfl];refine go ?_;refine VF (cs:=[.slice none 0 0,.slice none 0 0,.slice none 0 0,I 0,.slice none 0 0,I 0,I 0,.int .u8 0,I 0,I 0]) o310 e310 ?_;intro h11 e11 o11 u11;refine gr ?_;have e011:=(e1.trans e2).trans e11;exact⟨⟨_,rfl,FM.zero e011.n⟩,e011⟩
 rw[hv,show zBp a r v=(putF a {zJ a with regs:=(zJ a).regs.set r.toNat v},0)from by unfold zBp;rw[QC (by rw[hr];decide),hh,hv];rfl];have M10:=M7.ext e910;have oq10:=oq7.ext e910;have hlr:=M10.lr (a.frs.length-1) (by omega);obtain⟨cs,⟨rfl,_⟩,pc,hs⟩:=zg M10.f.sl (i:=a.frs.length-1) (by omega);have ow:=M10.rg (a.frs.length-1) (by omega);have dqi:=dq3 (a.frs.length-1) (by omega);have hset:=fun(h':WF) (o':WZ 4 W6 h4.n h' (xs'.getD (a.frs.length-1) default).v ((zJ a).regs.set r.toNat v)) (u:UpB (xs'.getD (a.frs.length-1) default).v h10 h')=>M10.setR (i:=a.frs.length-1) (l:=(zJ a).regs.set r.toNat v) (by omega) (by rw[GL];exact hlr) o' u;replace hset:=Wu.mk hset;obtain⟨w1,w2,w3,hw⟩:=zc ow.sl;have ow':WZ 4 W6 h4.n h10 (.slice w1 w2 w3) (zJ a).regs:=by rw[<-hw];exact ow
 rw[hw]at pc dqi hset;refine go ?_;refine VC 0 rfl rfl ?_;have o8Y:WH h5 (inC (zB 0 h10)) p8 [zR (.slice (some ⟨gf,0,none⟩) nf 5) ((a.frs.length-1)*5),.pointer (some ⟨gq,0,none⟩)]:=o810;have o2Y:WH h1 (inC (zB 0 h10)) p5 [.int .u8 v.kind,I v.n,I v.block,I v.pos]:=o210;have pcY:Wh (inC (zB 0 h10)) _ _ _:=(pc _ (WK.refl _)).2;have kY:W9 (inC (zB 0 h10)) (.slice w1 w2 w3) (zJ a).regs:=ow'.sl;have owY:WZ 4 W6 h4.n (zB 0 h10) (.slice w1 w2 w3) (zJ a).regs:=ow';refine Wc ?_;refine XJ (hB:=h4) (hS:=h10) (i:=r.toNat) (off:=0) (cs:=[.int .u8 v.kind,I v.n,I v.block,I v.pos]) (ho:=by simp) v owY (e5.trans (e7.trans e910)) ?_ rfl (QE _) (by omega) (fun old hx hr ho=> ?_) ?_ (hx:=by show WQ _ _ (zR _ (r.toNat*4));exact zX)
 ·rw[((e5.trans e7).trans e910).mark,e04.mark];exact QN hm e04.n
 ·unfold W6 at hr |-;subst hr;rfl
 intro h11 e11 o11 n11 k11;have u11:UpB (.slice w1 w2 w3) h10 h11:=zGY (by omega) k11;have Mf:=hset.out h11 o11 u11;have dq8:Wp (.slice w1 w2 w3) p8:=(VI (h:=h5) o6.since' (by have:=(M'.rg (a.frs.length-1) (by omega)).within;rw[hw]at this;exact this)).symm;have o811:=o810.upB u11 dq8;have oqf:WH h4 h11 (.pointer (some ⟨gq,0,none⟩)) [.slice m1 m2 m3,.slice (some ⟨gf,0,none⟩) nf 5,.slice i1 i2 i3,I a.used,.slice v1 v2 v3,I a.steps,I a.heaps,.int .u8 a.state,I a.trap,I a.exit]:=oq10.upB u11 dqi.symm;refine go ?_;refine VF (cs:=[.slice m1 m2 m3,.slice (some ⟨gf,0,none⟩) nf 5,.slice i1 i2 i3,I a.used,.slice v1 v2 v3,I a.steps,I a.heaps,.int .u8 a.state,I a.trap,I a.exit]) (o34.ext e11) ((e3.trans e4).trans e11) ?_;intro h12 e12 o12 u12;refine gr ?_;have e012:=(e1.trans e2).trans e12;refine⟨⟨_,rfl,((OM.upd Mf (fun k h1 h2=>u12.2 k h2 fun e=> ?_) u12.1).base e04.n).fm nb'⟩,e012⟩;have:=o34.within k (by rw[e];rfl);omega
theorem zMY(h:WF)(ca:List Value)(a:Wa){b:Nat}(ra:FM b h ca a)(hm:h.mark<=h.n)(e:Int):
  WC Tryz.prog tb 13 [.agg ca.toArray,I e] h fun w h'=>(∃ cs,w=.tuple #[.agg cs.toArray,I (zAq a e).2]/\FM h.n h' cs (zAq a e).1)/\WK h h':=by
 have rm0:=ra.rm;have sm:=ra.small;have nm:=ra.nm;obtain⟨vm,vf,vi,ve,rfl,_,_⟩:=ra.ex;refine en ?_;refine VG ?_;intro p h1 e1 o1;replace o1:WH h h1 p [vm,vf,vi,I a.used,ve,I a.steps,I a.heaps,.int .u8 a.state,I a.trap,I a.exit]:=o1;refine go ?_;refine VJ ?_;intro p4 h2 e2 o2;have e02:=e1.trans e2;have o12:=o1.ext e2;refine go ?_;refine VA (zBz h2 _ a (rm0.ext e02)) ?_;rintro _ h3 ⟨rfl,e3⟩;have o13:=o12.ext e3;have o23:=o2.ext e3;have e03:=e02.trans e3;by_cases hr:ZN a=true;case neg=>
  have hr:ZN a=false:=by simpa using hr
  rw[show zAq a e=(zM,160)from QG hr,hr];refine go ?_;refine VF (cs:=[.slice none 0 0,.slice none 0 0,.slice none 0 0,I 0,.slice none 0 0,I 0,I 0,.int .u8 0,I 0,I 0]) o23 (e2.trans e3) ?_;intro h5 e5 o5 u5;refine gr ?_;have e05:=e1.trans e5;exact⟨⟨_,rfl,FM.zero e05.n⟩,e05⟩
 rw[hr];have hz:¬(1<=e/\e<=1000)->zAq a e=(zM,2):=fun hn=>by
  unfold zAq;rw[QC (by rw[hr];decide),QC (by simpa using fun q1 q2=>hn ⟨q1,q2⟩)]
 by_cases q1:1<=e;case neg=>
  rw[hz (by omega)];refine go ?_;refine VF (cs:=[.slice none 0 0,.slice none 0 0,.slice none 0 0,I 0,.slice none 0 0,I 0,I 0,.int .u8 0,I 0,I 0]) o23 (e2.trans e3) ?_;intro h5 e5 o5 u5;refine gr ?_;have e05:=e1.trans e5;exact⟨⟨_,rfl,FM.zero e05.n⟩,e05⟩
 by_cases q2:e<=1000;case neg=>
  rw[hz (by omega)];refine go ?_;refine VF (cs:=[.slice none 0 0,.slice none 0 0,.slice none 0 0,I 0,.slice none 0 0,I 0,I 0,.int .u8 0,I 0,I 0]) o23 (e2.trans e3) ?_;intro h5 e5 o5 u5;refine gr ?_;have e05:=e1.trans e5;exact⟨⟨_,rfl,FM.zero e05.n⟩,e05⟩
 rw[show zAq a e=({a with state:=3,trap:=e},0)from by unfold zAq;rw[QC (by rw[hr];decide),QG (by simp;omega)]];refine go ?_;refine VA (zCw h3 _ a (rm0.ext e03) sm (by rw[e03.mark];exact QN hm e03.n)) ?_;rintro _ h4 ⟨⟨cs,rfl,rm,om⟩,e4⟩;obtain⟨vm',vf',vi',ve',xs',rfl,nb',M'⟩:=zPK rm om sm nm;obtain⟨m1,m2,m3,rfl⟩:=nb'.1.shape;obtain⟨i1,i2,i3,rfl⟩:∃ a n k,vi'=.slice a n k:=let⟨_,_,h2⟩:=M'.i;Wt.shape h2.sl;obtain⟨v1,v2,v3,rfl⟩:=nb'.2.shape;obtain⟨f1,f2,f3,rfl⟩:=zc M'.f.sl;have o24:=o23.ext e4;refine go ?_;refine VJ ?_;intro p6 h5 e5 o6;refine go ?_;refine VF (cs:=[.slice m1 m2 m3,.slice f1 f2 f3,.slice i1 i2 i3,I a.used,.slice v1 v2 v3,I a.steps,I a.heaps,.int .u8 a.state,I a.trap,I a.exit]) o6 e5 ?_;intro h6 e6 o6 _;refine go ?_;refine Vj (cs:=[.int .u8 3]) (j:=7) (hl:=by simp) o6 e6 ?_;intro h7 e7 o6 _;replace o6:WH h4 h7 p6 [.slice m1 m2 m3,.slice f1 f2 f3,.slice i1 i2 i3,I a.used,.slice v1 v2 v3,I a.steps,I a.heaps,.int .u8 3,I a.trap,I a.exit]:=o6;refine go ?_;refine Vj (cs:=[I e]) (j:=8) (hl:=by simp) o6 e7 ?_;intro h8 e8 o6 _;replace o6:WH h4 h8 p6 [.slice m1 m2 m3,.slice f1 f2 f3,.slice i1 i2 i3,I a.used,.slice v1 v2 v3,I a.steps,I a.heaps,.int .u8 3,I e,I a.exit]:=o6;have M8:=M'.ext e8;refine go ?_;refine VF (cs:=[.slice m1 m2 m3,.slice f1 f2 f3,.slice i1 i2 i3,I a.used,.slice v1 v2 v3,I a.steps,I a.heaps,.int .u8 3,I e,I a.exit]) (o24.ext e8) ((e2.trans e3).trans (e4.trans e8)) ?_;intro h9 e9 o9 u9;refine gr ?_;have e09:=e1.trans e9;have Mt:OM h3.n h8 (.slice f1 f2 f3) (.slice i1 i2 i3) xs' {a with state:=3,trap:=e}:=⟨M8.f,M8.lx,M8.rel,M8.rg,M8.off,M8.offF,M8.i,M8.offI,M8.bn,M8.nm,M8.lf,M8.li,M8.lr⟩;refine⟨⟨_,rfl,((Mt.upd (fun k h1 h2=>u9.2 k h2 fun q=> ?_) u9.1).base e03.n).fm nb'⟩,e09⟩;have:=o23.within k (by rw[q];rfl);omega
end Go.Proofs.YtmilpkdhbdgjfaaGreatDoor
set_option maxRecDepth 100000
namespace Go.Proofs.YtmilpkdhbdgjfaaGreatDoor
open Go.Am
theorem zA8:∀ l:List Wl,0<=zz l
 |[]=>by simp[zz]
 |b::l=>by have:=zA8 l;unfold zz at *;simp;omega
theorem Ug{P:Program}{tab:Wv}{t:WI Value}{h:WF}{ds:List Deferred}{rd:Option Nat}{l:List WG}{Q:WR->WF->Prop}{d:Nat}{x y:Operand}{a b:Int}(r:Int)(hr:r=if a<b then b else a)(k:WO P tab l ⟨t.set d (I r),ds,rd⟩ h Q)(hx:WQ t x (I a):=by exact zX)(hy:WQ t y (I b):=by exact zX):WO P tab (⟨some d,none,.maxmin true [x,y]⟩::l) ⟨t,ds,rd⟩ h Q:=by
 have hx:ev t x=I a:=hx;have hy:ev t y=I b:=hy;refine WO.op (I r) h rfl ?_ k;subst hr;simp only[WN,hx,hy,Q6,Gl];rfl
def Z0(T:List WJ)(F:List Wj)(f:Int):Int:=((T.getD (F.getD f.toNat default).sig.toNat default).parts.length:Int)+zz (F.getD f.toNat default).blocks
theorem zBC{T:List WJ}{F:List Wj}(hp:yl T F=0){f:Int}(hf:0<=f/\f<(F.length:Int)):Ym T F f=(Z0 T F f,0)/\0<=Z0 T F f/\Z0 T F f<=300:=by
 have hask:yY T F f=(((T.getD (F.getD f.toNat default).sig.toNat default).parts.length:Int),0):=by
  unfold yY;rw[QC (fun e=>e hp),QG (by unfold za;simp;omega)]
 have Z:=zNb hp hf;have h1:=Z.many;have h2:=Z.par4;have h3:=zA8 (F.getD f.toNat default).blocks;unfold zp at h1;unfold Yc at h2;unfold Z0;refine⟨?_,by omega,by omega⟩;unfold Ym;rw[hask];simp
def ZZ(T:List WJ)(F:List Wj)(f:Int)(args:List Wi)(into:Int):BQ:=⟨f,0,0,args++List.replicate ((Z0 T F f).toNat-args.length) v0,into⟩
theorem zJv{z:List Value}{c:Nat}(hz:z.length=c):∀ (n i:Nat),i<n->((zS z n).drop (i*c)).take c=z
 |0,i,h=>absurd h (Qw _)
 |n+1,0,_=>by
  rw[G7,Qx];show(z++zS z n).take c=z;rw[List.take_append_of_le_length (by omega),Qo (by omega)]
 |n+1,i+1,h=>by
  have e:(zS z (n+1)).drop ((i+1)*c)=(zS z n).drop (i*c):=by
   show(z++zS z n).drop ((i+1)*c)=_;rw[GX,Nat.add_comm,<-Gb,List.drop_append_of_le_length (by omega),List.drop_of_length_le (l:=z) (by omega),GF]
  rw[e];exact zJv hz n i (by omega)
theorem zGH{z:List Value}:∀ n,(zS z n).length=n*z.length
 |0=>by simp[zS]
 |n+1=>by
  show(z++zS z n).length=_;rw[QT,zGH n,GX,Nat.add_comm]
section
variable {h:WF}{vt vf:Value}{T:List WJ}{F:List Wj}
theorem zIG(E:B4 h vt vf T F)(hp:yl T F=0){f:Int}(hf:0<=f/\f<(F.length:Int))(va:Value)(args:List Wi)(sa:W9 h va args)(ha:args.length<=100)(into:Int):
  WC Tryz.prog tb 33 [.agg #[vt,vf],I f,va,I into] h fun r h'=>(∃ v,r=.agg #[I f,I 0,I 0,v,I into]/\WZ 4 W6 h.n h' v (ZZ T F f args into).regs)/\WK h h':=by
 obtain⟨hr,hn0,hn3⟩:=zBC hp hf;have hR:=zFy h vt vf T F f E.tt E.hm E.sm E.st E.sf;obtain⟨a1,a2,a3,rfl⟩:=zc sa;refine en ?_;refine VG ?_;intro p h1 e1 o1;replace o1:WH h h1 p [vt,vf]:=o1;refine go ?_;refine VJ ?_;intro p8 h2 e2 o2;have o12:=o1.ext e2;have e02:=e1.trans e2;have E2:=E.ext e02;have hR:=zFy h2 vt vf T F f E2.tt E2.hm E2.sm E2.st E2.sf;rw[hr]at hR;refine go ?_;refine VA hR ?_;rintro _ h3 ⟨rfl,e3⟩;have o23:=o2.ext e3;have e03:=e02.trans e3;have sa3:=W9.ext sa e03;obtain⟨N,hN⟩:∃ N:Nat,Z0 T F f=N:=⟨(Z0 T F f).toNat,by omega⟩;obtain⟨m,hm⟩:∃ m:Nat,m=args.length+(N-args.length):=⟨_,rfl⟩;have hregs:(ZZ T F f args into).regs=args++List.replicate (N-args.length) v0:=by unfold ZZ;simp only;rw[hN,Q7]
 rw[hregs];rw[hN]at hn3 |-;refine go ?_;refine Ug (a:=(N:Int)) (b:=(args.length:Int)) (m:Int) (by split<;>omega) ?_;refine go ?_;refine Xs (n:=m) (by omega) ?_;intro h4 e4 n4 g4;have o24:=o23.ext e4;have sa4:=W9.ext sa3 e4;obtain⟨ys,s4,hys⟩:=sa4;have h1:zH ys=true:=zGP (by decide:0<4) s4.1 fun i hi=>by
  have:=hys i args[i] (QB hi);rw[show _=_ from this];rfl
 have hrl:(zS [.int .u8 0,I 0,I 0,I 0] m).length=m*4:=zGH m;refine go ?_;refine Xe (off:=0) (n:=m) (k:=args.length) g4 s4 (by decide) (by omega) (by rw[s4.1,hrl];omega) h1 ?_;intro h5 n5 k5 g5 w5 m5 wr5;have e35:WK h3 h5:=⟨by rw[n5,n4];omega,fun k hk=>by rw[k5 k (by omega)];exact e4.get k hk,fun w=>w5 (e4.wf w),m5.trans e4.mark,fun hmk=>(wr5 (by rw[e4.mark];omega)).trans (e4.wr hmk)⟩;have o25:=o23.ext e35;have ow:WZ 4 W6 h3.n h5 (.slice (some ⟨h3.n,0,none⟩) m 4) (args++List.replicate (N-args.length) v0):=by
  have hl:(args++List.replicate (N-args.length) v0).length=m:=by simp[hm]
  refine .inr ⟨h3.n,_,fun _=>False,QE _,by rw[n5,n4];omega,by rw[hl],g5,?_,id,fun _ h=>h.elim,fun i x hx hq _ _=> ?_⟩
  ·rw[hl,Yk (by rw[s4.1,hrl];omega),hrl]
  ·have hi:i<m:=by have:=(QM.1 hx).1;omega
   show((zO (zS [.int .u8 0,I 0,I 0,I 0] m) 0 ys).drop (i*4)).take 4=_;have hpa:zO (zS [.int .u8 0,I 0,I 0,I 0] m) 0 ys=ys++(zS [.int .u8 0,I 0,I 0,I 0] m).drop (args.length*4):=by
    unfold zO;rw[GA,GF,Qk,s4.1]
   rw[hpa];by_cases hi2:i<args.length
   ·rw[Qc hi2]at hx;have:=hys i x hx;rw[List.drop_append_of_le_length (by rw[s4.1];omega),List.take_append_of_le_length (by rw[Gk,s4.1];omega)];exact this
   ·rw[Qm (by omega),List.getElem?_replicate]at hx;split at hx
    ·cases hx;rw[show i*4=args.length*4+(i-args.length)*4 by omega,<-Gb,List.drop_append_of_le_length (by rw[s4.1];omega),List.drop_of_length_le (l:=ys) (by rw[s4.1];omega),GF,Gb,<-Gf,show args.length+(i-args.length)=i by omega];exact zJv (z:=[.int .u8 0,I 0,I 0,I 0]) (c:=4) rfl m i hi
    ·cases hx
 refine go ?_;refine VF (cs:=[I f,I 0,I 0,.slice (some ⟨h3.n,0,none⟩) m 4,I into]) o25 (e2.trans (e3.trans e35)) ?_;intro h6 e6 o6 u6;refine gr ?_;refine⟨⟨_,rfl,?_⟩,e1.trans e6⟩;refine(ow.upd (fun k h1 h2=>u6.2 k h2 fun e=> ?_) u6.1).base e03.n;have:=o23.within k (by rw[e];rfl);omega
noncomputable def Zj(T:List WJ)(F:List Wj)(inn:List Int):Wa×Int:=if zAA T F≠0 then(zM,zAA T F)else if 64<inn.length then(zM,4)else(⟨[],[ZZ T F 0 [] 0],inn,0,[],0,0,1,0,0⟩,0)
theorem zKi(E:B4 h vt vf T F)(vi:Value)(inn:List Int)(si:Wd h vi inn)(hl:(inn.length:Int)<=1152921504606846976):
  WC Tryz.prog tb 8 [.agg #[vt,vf],vi] h fun w h'=>(∃ cs,w=.tuple #[.agg cs.toArray,I (Zj T F inn).2]/\FM h.n h' cs (Zj T F inn).1)/\WK h h':=by
 obtain⟨b1,b2,b3,rfl⟩:=Wt.shape si;refine en ?_;refine VG ?_;intro p h1 e1 o1;replace o1:WH h h1 p [vt,vf]:=o1;refine go ?_;refine VJ ?_;intro p4 h2 e2 o2;have o12:=o1.ext e2;have e02:=e1.trans e2;refine go ?_;refine VA (zLX h2 vt vf T F (E.ext e02)) ?_;rintro _ h3 ⟨rfl,e3⟩;have o13:=o12.ext e3;have o23:=o2.ext e3;have e03:=e02.trans e3;have si3:=si.ext e03;by_cases hs:zAA T F=0;case neg=>
  have hs':zAA T F≠0:=hs;rw[show Zj T F inn=(zM,zAA T F)from QG hs];refine go ?_;refine VF (cs:=[.slice none 0 0,.slice none 0 0,.slice none 0 0,I 0,.slice none 0 0,I 0,I 0,.int .u8 0,I 0,I 0]) o23 (e2.trans e3) ?_;intro h5 e5 o5 u5;refine gr ?_;have e05:=e1.trans e5;exact⟨⟨_,rfl,FM.zero e05.n⟩,e05⟩
 have hp:=(zAf hs).1;obtain⟨hc,hF1,hF8,hfn⟩:=Z3 hp;clear hc hfn;by_cases h64:64<inn.length
 ·rw[show Zj T F inn=(zM,4)from by unfold Zj;rw[QC (fun e=>e hs),QG h64],hs];refine go ?_;refine VF (cs:=[.slice none 0 0,.slice none 0 0,.slice none 0 0,I 0,.slice none 0 0,I 0,I 0,.int .u8 0,I 0,I 0]) o23 (e2.trans e3) ?_;intro h5 e5 o5 u5;refine gr ?_;have e05:=e1.trans e5;exact⟨⟨_,rfl,FM.zero e05.n⟩,e05⟩
 rw[show Zj T F inn=(⟨[],[ZZ T F 0 [] 0],inn,0,[],0,0,1,0,0⟩,0)from by unfold Zj;rw[QC (fun e=>e hs),QC h64],hs];obtain⟨-,hn0,hn3⟩:=zBC hp (f:=0) ⟨by omega,by omega⟩;refine go ?_;refine VA (zIG (E.ext e03) hp (f:=0) ⟨by omega,by omega⟩ (.slice none 0 0) [] (Bv.sl (.inl rfl)) (by simp) 0) ?_;rintro _ h4 ⟨⟨v,rfl,ow⟩,e4⟩;obtain⟨w1,w2,w3,rfl⟩:=zc ow.sl;refine go ?_;refine Vz (cs:=[I 0,I 0,I 0,.slice w1 w2 w3,I 0]) ?_;intro h5 e5 n5 s5 g5;refine go ?_;refine VA (zFH h5 _ inn (si3.ext (e4.trans e5)) (by omega)) ?_;rintro vi' h6 ⟨oi,e6⟩;obtain⟨i1,i2,i3,rfl⟩:=Wt.shape oi.sl;have e36:=(e4.trans e5).trans e6;have o26:=o23.ext e36;refine go ?_;refine VF (cs:=[.slice none 0 0,.slice (some ⟨h4.n,0,none⟩) 1 5,.slice i1 i2 i3,I 0,.slice none 0 0,I 0,I 0,.int .u8 1,I 0,I 0]) o26 (e2.trans (e3.trans e36)) ?_;intro h7 e7 o7 u7;refine gr ?_;have ow6:=(ow.ext e5).ext e6;have hwb:=ZP ow;have hib:=oi.since';have M6:OM h3.n h6 (.slice (some ⟨h4.n,0,none⟩) 1 5) (.slice i1 i2 i3) [⟨0,0,0,.slice w1 w2 w3,0⟩] ⟨[],[ZZ T F 0 [] 0],inn,0,[],0,0,1,0,0⟩:=by
  have h1:∀ i,i<1->i=0:=fun i hi=>by omega
  refine⟨.inr ⟨h4.n,_,fun _=>False,e4.n,by have:=e6.n;rw[n5]at this;omega,rfl,(e6.get _ (by omega)).trans g5,rfl,id,fun _ h=>h.elim,fun i x hx hq _ _=> ?_⟩,rfl,fun i hi=> ?_,fun i hi=> ?_,fun j k hj hk=> ?_,fun i hi g k1 k2=> ?_,⟨h5,?_,oi⟩,⟨fun g k1 k2=> ?_,fun i hi g k1 k2=> ?_⟩,?_,⟨rfl,rfl⟩,by simp,by simp only;omega,fun i hi=> ?_⟩
  ·have hi:=h1 i (QM.1 hx).1;subst hi;simp at hx;subst hx;exact⟨rfl,rfl⟩
  ·obtain rfl:=h1 i hi;exact⟨rfl,rfl,rfl,rfl⟩
  ·obtain rfl:=h1 i hi;exact ow6
  ·simp at hk;omega
  ·obtain rfl:=h1 i hi;have hg:h4.n=g:=by cases k1;rfl
   have:=(hwb g k2).2;omega
  ·have:=e4.n;omega
  ·have:=hib g k1;have hg:h4.n=g:=by cases k2;rfl
   omega
  ·obtain rfl:=h1 i hi;have:=hib g k1;have:=(hwb _ k2).2;omega
  ·exact e36.n
  ·obtain rfl:=h1 i hi;show(ZZ T F 0 [] 0).regs.length<=1000;unfold ZZ;simp;omega
 refine⟨⟨_,rfl,((M6.upd (fun k h1 h2=>u7.2 k h2 fun q=> ?_) u7.1).base e03.n).fm ⟨.inl rfl,.inl rfl⟩⟩,e1.trans e7⟩;have:=o23.within k (by rw[q];rfl);omega
end
end Go.Proofs.YtmilpkdhbdgjfaaGreatDoor
set_option maxRecDepth 100000
namespace Go.Proofs.YtmilpkdhbdgjfaaGreatDoor
open Go.Am
def zAR(T:List WJ)(F:List Wj)(f:Int):List Int:=(T.getD (F.getD f.toNat default).sig.toNat default).parts
def Bz(T:List WJ)(F:List Wj)(a:Wa)(f:Int)(args:List Wi)(into:Int):Bool:=
 (decide (0<=f)&&decide (f<(F.length:Int)))&&decide (args.length=(zAR T F f).length)&&args.all Bo&&zEr a into
def zA9(T:List WJ)(F:List Wj)(a:Wa)(f:Int)(args:List Wi)(into:Int):Wa×Int:=
 if ZN a=false then(zM,160)else if Bz T F a f args into then({a with frs:=a.frs++[ZZ T F f args into]},0)else(zM,2)
theorem Zx{α:Type}{c b:Nat}{R:WF->List Value->α->Prop}{h h':WF}{v:Value}{l:List α}(o:WZ c R b h v l)(hf:∀ h h' cs a,R h cs a->R h' cs a)(hv:∀ g,blk v=some g->h'.get g=h.get g)(hn:h.n<=h'.n):WZ c R b h' v l:=by
 rcases o with o|⟨g,cells,D,g1,g2,rfl,g3,g4,_,_,g7⟩
 ·exact .inl o
 ·exact .inr ⟨g,cells,fun _=>False,g1,QK g2 hn,rfl,(hv g rfl).trans g3,g4,id,fun _ h=>h.elim,fun i a ha hx _ _=>hf _ _ _ _ (g7 i a ha).self⟩
theorem zBJ{hb h h':WF}{v:Value}{l:List Int}(o:Wb hb h v l)(hv:∀ g,blk v=some g->h'.get g=h.get g)(hn:h.n<=h'.n):Wb hb h' v l:=by
 rcases o with o|⟨g,g1,g2,rfl,g3⟩
 ·exact .inl o
 ·exact .inr ⟨g,g1,QK g2 hn,rfl,(hv g rfl).trans g3⟩
theorem Zg{α:Type}[Inhabited α]{l:List α}{x:α}{i:Nat}(hi:i<(l++[x]).length):(l++[x]).getD i default=if i<l.length then l.getD i default else x:=by
 simp only[QT,QZ]at hi;by_cases q:i<l.length
 ·rw[QG q];simp[List.getD,Qc q]
 ·rw[QC q,show i=l.length by omega];simp[List.getD]
theorem OM.call{b gf gq nf:Nat}{h H:WF}{vi vf':Value}{xs:List Br}{a:Wa}{x:Br}{fr:BQ}(M:OM b h (.slice (some ⟨gf,0,none⟩) nf 5) vi xs a)(kH:∀ k,k<h.n->k≠gf->k≠gq->H.get k=h.get k)(hn:h.n<=H.n)
  (dq2:Wp (.pointer (some ⟨gq,0,none⟩)) vi) (dq3:∀ i,i<xs.length->Wp (.pointer (some ⟨gq,0,none⟩)) (xs.getD i default).v) (oY:WZ 5 B6 b H vf' (xs++[x])) (hv:∀ g,blk vf'=some g->h.n<g/\∀ g',blk x.v=some g'->g'<g)
  (ow:WZ 4 W6 b H x.v fr.regs) (hw:∀ g,blk x.v=some g->h.n<g) (h99:a.frs.length<=99) (hreg:fr.regs.length<=1000) (rel:zGO x fr):OM b H vf' vi (xs++[x]) {a with frs:=a.frs++[fr]}:=by
 have hlx:=M.lx;have keepR:∀ i,i<xs.length->WZ 4 W6 b H (xs.getD i default).v (a.frs.getD i default).regs:=fun i hi=>Zx (M.rg i hi) (fun _ _ _ _ r=>r) (fun g hg=>kH g ((M.rg i hi).within g hg) (fun e=>M.offF i hi gf rfl (by rw[<-e];exact hg)) (fun e=>dq3 i hi gq rfl (by rw[<-e];exact hg))) hn;obtain⟨hb,hb1,oi⟩:=M.i;refine⟨oY,by simp[hlx],fun i hi=> ?_,fun i hi=> ?_,fun j k hj hk=> ?_,fun i hi=> ?_,⟨hb,hb1,zBJ oi (fun g hg=>kH g (oi.within g hg) (fun e=>M.offI.1 g hg (by rw[e];rfl)) (fun e=>dq2 gq rfl (by rw[<-e];exact hg))) hn⟩,⟨fun g k1 k2=> ?_,fun i hi=> ?_⟩,QN M.bn hn,M.nm,by simp;omega,M.li,fun i hi=> ?_⟩
 ·rw[Zg hi,Zg (by simpa [hlx]using hi),<-hlx];split
  ·rename_i q;exact M.rel i q
  ·exact rel
 ·rw[Zg hi,Zg (by simpa [hlx]using hi),<-hlx];split
  ·rename_i q;exact keepR i q
  ·exact ow
 ·rw[Zg (by omega),Zg hk];have hj2:j<xs.length:=by simp at hk;omega
  rw[QG hj2];split
  ·rename_i q;exact M.off j k hj q
  ·intro g k1 k2;have:=(M.rg j hj2).within g k1;have:=hw g k2;omega
 ·rw[Zg hi];split
  ·rename_i q;intro g k1 k2;have:=(M.rg i q).within g k2;have:=(hv g k1).1;omega
  ·intro g k1 k2;have:=(hv g k1).2 g k2;omega
 ·have:=oi.within g k1;have:=(hv g k2).1;omega
 ·rw[Zg hi];split
  ·rename_i q;exact M.offI.2 i q
  ·intro g k1 k2;have:=oi.within g k1;have:=hw g k2;omega
 ·rw[Zg hi];split
  ·rename_i q;exact M.lr i q
  ·exact hreg
section
variable {h:WF}{vt vf:Value}{T:List WJ}{F:List Wj}
theorem B4.as(E:B4 h vt vf T F)(n:Nat):B4 (inC (zB n h)) vt vf T F:=by
 have E':=E.ext (zQ n h);exact⟨E'.tt,QE _,E'.sm,E'.st,E'.sf⟩
theorem zMV(E:B4 h vt vf T F)(a:Wa)(hp0:ZN a=true->yl T F=0)(ca:List Value){b:Nat}(ra:FM b h ca a)(h99:a.frs.length<=99)(f:Int)(va:Value)(args:List Wi)(sa:W9 h va args)(ha:args.length<=10)(into:Int):
  WC Tryz.prog tb 14 [.agg #[vt,vf],.agg ca.toArray,I f,va,I into] h fun w h'=>(∃ cs,w=.tuple #[.agg cs.toArray,I (zA9 T F a f args into).2]/\FM h.n h' cs (zA9 T F a f args into).1)/\WK h h':=by
 have rm0:=ra.rm;have om0:=ra;have hm:=E.hm;obtain⟨am,af,ai,ae,rfl,_,_⟩:=ra.ex;obtain⟨t1,t2,t3,rfl⟩:=zN E.st;obtain⟨f1,f2,f3,rfl⟩:=zN E.sf;obtain⟨a1,a2,a3,rfl⟩:=zc sa;refine en ?_;refine VG ?_;intro p5 h1 e1 o5;replace o5:WH h h1 p5 [.slice t1 t2 t3,.slice f1 f2 f3]:=o5;have hp5:=o5.within;refine go ?_;refine VG ?_;intro p6 h2 e2 o6;replace o6:WH h1 h2 p6 [am,af,ai,I a.used,ae,I a.steps,I a.heaps,.int .u8 a.state,I a.trap,I a.exit]:=o6;refine go ?_;refine VJ ?_;intro p10 h3 e3 o10;have hp10:=o10.within;have e03:=e1.trans (e2.trans e3);have o5:=o5.ext (e2.trans e3);have o6:=o6.ext e3;refine go ?_;refine VA (zBz h3 _ a (rm0.ext e03)) ?_;rintro _ h4 ⟨rfl,e4⟩;have o5:=o5.ext e4;have o6:=o6.ext e4;have o10:=o10.ext e4;have o10s:=o10;have e04:=e03.trans e4;by_cases hr:ZN a=true;case neg=>
  have hr:ZN a=false:=by simpa using hr
  rw[show zA9 T F a f args into=(zM,160)from QG hr,hr];refine go ?_;refine VF (cs:=[.slice none 0 0,.slice none 0 0,.slice none 0 0,I 0,.slice none 0 0,I 0,I 0,.int .u8 0,I 0,I 0]) o10 (e3.trans e4) ?_;intro h5 e5 o5 u5;refine gr ?_;have e05:=(e1.trans e2).trans e5;exact⟨⟨_,rfl,FM.zero e05.n⟩,e05⟩
 rw[hr];have hp:=hp0 hr;obtain⟨hc,hF1,hF8,hfn⟩:=Z3 hp;clear hc hfn;have hne:=Yf hr;refine go ?_;refine VA (zFx h4 _ a (om0.ext e04) (by rw[e04.mark];exact QN hm e04.n) hne) ?_;rintro _ h5 ⟨⟨gq,gf,nf,vm',vi',ve',xs',rfl,oq,nb',M',dq1,dq2,dq3⟩,e5⟩;have o5:=o5.ext e5;have o10:=o10.ext e5;have e05:=e04.trans e5;obtain⟨m1,m2,m3,rfl⟩:=nb'.1.shape;obtain⟨i1,i2,i3,rfl⟩:∃ a n k,vi'=.slice a n k:=let⟨_,_,h2⟩:=M'.i;Wt.shape h2.sl;obtain⟨v1,v2,v3,rfl⟩:=nb'.2.shape;refine go ?_;refine VJ ?_;intro p12 h6 e6 o12;refine go ?_;refine VF (cs:=[zR (.slice (some ⟨gf,0,none⟩) nf 5) ((a.frs.length-1)*5),.pointer (some ⟨gq,0,none⟩)]) o12 e6 ?_;intro h7 e7 o12' u12;have hp12:=o12.since';replace o12:=o12';clear o12' u12;have o5:=o5.ext e7;have o10:=o10.ext e7;have e07:=e05.trans e7;have M7:=M'.ext e7;have oq7:=oq.ext e7;have E7:=E.ext e07;have sa7:=W9.ext sa e07;have e27:=(((e3.trans e4).trans e5).trans e7);refine go ?_;refine VK (fun t h8=>WK h7 h8/\zC t 55=.bool (!Bz T F a f args into)) ?_ ?_
 ·have o5Y:WH h (inC (zB 0 h7)) p5 [.slice t1 t2 t3,.slice f1 f2 f3]:=o5;have saY:W9 (inC (zB 0 h7)) (.slice a1 a2 a3) args:=sa7;have sfY:W7 (inC (zB 0 h7)) (.slice f1 f2 f3) F:=E7.sf;have stY:Bc (inC (zB 0 h7)) (.slice t1 t2 t3) T:=E7.st;have e7Y:WK h7 (zq h7 (inC (zB 0 h7))):=WK.refl _;refine VC 0 rfl rfl ?_;by_cases f0:f<0
  ·have hk:Bz T F a f args into=false:=by unfold Bz;rw[QW (by omega)];simp
   rw[hk];refine Wc ?_;exact zD ⟨e7Y,WM⟩
  by_cases f9:(F.length:Int)<=f
  ·have hk:Bz T F a f args into=false:=by unfold Bz;rw[QX (by omega:0<=f),QW (by omega:¬f<(F.length:Int))];simp
   rw[hk];refine Wc ?_;exact zD ⟨e7Y,WM⟩
  have Z:=zNb hp (f:=f) ⟨by omega,by omega⟩;have hsg:=Z.sig;obtain⟨csF,⟨vb,rfl,sb,hlb⟩,pxF,hsF⟩:=zg E7.sf (i:=f.toNat) (by omega);obtain⟨csT,⟨vp,rfl,sp,hpl⟩,pxT,hsT⟩:=zg E7.st (i:=(F.getD f.toNat default).sig.toNat) (by omega);have pcF:Wh (inC (zB 0 h7)) _ _ _:=(pxF _ (WK.refl _)).2;have pcT:Wh (inC (zB 0 h7)) _ _ _:=(pxT _ (WK.refl _)).2;have spY:Wd (inC (zB 0 h7)) vp (zAR T F f):=sp;have hpars:(T.getD (F.getD f.toNat default).sig.toNat default).parts=zAR T F f:=rfl;rw[hpars]at hpl;obtain⟨vp1,vp2,vp3,rfl⟩:=Wt.shape sp;have hokf:(decide (0<=f)&&decide (f<(F.length:Int)))=true:=by simp;omega
  generalize T.getD (F.getD f.toNat default).sig.toNat default=PT at *;generalize hFD:F.getD f.toNat default=FD at *;by_cases hl:args.length=(zAR T F f).length;case neg=>
   have hk:Bz T F a f args into=false:=by unfold Bz;rw[QW hl];simp
   rw[hk];have hl':¬(args.length:Int)=((zAR T F f).length:Int):=by omega
   refine Wc ?_;exact zD ⟨e7Y,WM⟩
  have hl':(args.length:Int)=((zAR T F f).length:Int):=by omega
  refine Wc ?_;refine VA (zGq _ _ args saY (by omega)) ?_;rintro _ X ⟨rfl,eX⟩;refine nE eX ?_;have e7X:WK h7 (zq h7 X):=(zQ 0 h7).trans (yP (h:=h7) eX);have o12X:WH h5 (inC X) p12 [zR (.slice (some ⟨gf,0,none⟩) nf 5) ((a.frs.length-1)*5),.pointer (some ⟨gq,0,none⟩)]:=WH.ext (h':=X) (show WH h5 (inC (zB 0 h7)) p12 _ from o12) eX;by_cases hv:args.all Bo=true;case neg=>
   have hv:args.all Bo=false:=by simpa using hv
   have hk:Bz T F a f args into=false:=by unfold Bz;rw[hv];simp
   rw[hk,hv];refine Wc ?_;exact zD ⟨e7X,WM⟩
  rw[hv];have frX:BW (inC X) (.slice (some ⟨gf,0,none⟩) nf 5) a.frs:=BW.ext (h':=zq h7 X) M7.fr e7X;refine Wc ?_;refine VA (zJ4 (inC X) (.slice (some ⟨gf,0,none⟩) nf 5) _ a.frs (a.frs.length-1) into ⟨_,_,_,rfl⟩ frX (by omega)) ?_;rintro _ Y ⟨rfl,eY⟩;refine nE eY ?_;have e7Y2:WK h7 (zq h7 Y):=e7X.trans (yP (h:=h7) eY);have hq:(decide (0<=into)&&decide (into<((a.frs.getD (a.frs.length-1) default).regs.length:Int)))=zEr a into:=rfl;rw[hq];have hk:Bz T F a f args into=zEr a into:=by unfold Bz;rw[hokf,QX hl,hv];simp
  rw[hk];cases zEr a into with
  |true=>
   refine Wc ?_;exact zD ⟨e7Y2,WM⟩
  |false=>
   refine Wc ?_;exact zD ⟨e7Y2,WM⟩
 rintro t8 h8 hsame ⟨e8,s55⟩;have o5:=o5.ext e8;have o10:=o10.ext e8;have o12:=o12.ext e8;have e08:=e07.trans e8;have M8:=M7.ext e8;have oq8:=oq7.ext e8;have sa8:=W9.ext sa7 e8;have e28:=e27.trans e8;by_cases hk:Bz T F a f args into=true;case neg=>
  have hk:Bz T F a f args into=false:=by simpa using hk
  rw[hk]at s55;rw[show zA9 T F a f args into=(zM,2)from by unfold zA9;rw[QC (by rw[hr];decide),hk];rfl];refine go ?_;refine VF (cs:=[.slice none 0 0,.slice none 0 0,.slice none 0 0,I 0,.slice none 0 0,I 0,I 0,.int .u8 0,I 0,I 0]) o10 e28 ?_;intro h9 e9 o9 u9;refine gr ?_;have e09:=(e1.trans e2).trans e9;exact⟨⟨_,rfl,FM.zero e09.n⟩,e09⟩
 rw[hk]at s55;rw[show zA9 T F a f args into=({a with frs:=a.frs++[ZZ T F f args into]},0)from by unfold zA9;rw[QC (by rw[hr];decide),hk];rfl];have hf:0<=f/\f<(F.length:Int):=by
  unfold Bz at hk;simp at hk;omega
 obtain⟨-,hn0,hn3⟩:=zBC hp hf;have hd12:Wp (.pointer (some ⟨gq,0,none⟩)) p12:=(VI (h:=h5) hp12 oq.within).symm;have hf12:Wp (.slice (some ⟨gf,0,none⟩) nf 5) p12:=(VI (h:=h5) hp12 M'.f.within).symm;obtain⟨g12,hg12a,hg12b,rfl,hg12c⟩:=id o12;obtain⟨g5,hg5a,hg5b,rfl,hg5c⟩:=id o5;have b12:¬g12=gf:=fun e=>hf12 gf rfl (by rw[<-e];rfl);have hgf:=ZP M'.f gf rfl;have b5:¬g5=gf:=fun e=>by have:=hp5 g5 rfl;have:=e04.n;have:=(e2.trans (e3.trans e4)).n;omega
 have hgq:=oq.since' gq rfl;have hgq8:=oq8.within gq rfl;have bq:¬gq=gf:=dq1;have hgf8:=ZP M8.f gf rfl;have hm8:h8.mark<=h4.n:=by rw[e08.mark];exact QN hm e04.n
 have hn45:=e5.n;have hn58:=(e7.trans e8).n;refine go ?_;refine VX (fun k=>k=gf) 1 rfl rfl ?_;have o5Y:WH h (inC (zB 1 h8)) (.pointer (some ⟨g5,0,none⟩)) [.slice t1 t2 t3,.slice f1 f2 f3]:=VW (o5.ext (zQ 1 h8));have o12Y:WH h5 (inC (zB 1 h8)) (.pointer (some ⟨g12,0,none⟩)) [zR (.slice (some ⟨gf,0,none⟩) nf 5) ((a.frs.length-1)*5),.pointer (some ⟨gq,0,none⟩)]:=VW (o12.ext (zQ 1 h8));have oqY:WH h4 (inC (zB 1 h8)) (.pointer (some ⟨gq,0,none⟩)) [.slice m1 m2 m3,.slice (some ⟨gf,0,none⟩) nf 5,.slice i1 i2 i3,I a.used,.slice v1 v2 v3,I a.steps,I a.heaps,.int .u8 a.state,I a.trap,I a.exit]:=VW (oq8.ext (zQ 1 h8));have saZ:W9 (zB 1 h8) (.slice a1 a2 a3) args:=W9.ext sa8 (zQ 1 h8);have saY:W9 (inC (zB 1 h8)) (.slice a1 a2 a3) args:=saZ;refine goV ?_;refine zJ7 (a:=⟨g5,0,none⟩) (k:=0) (by show WQ _ _ (.pointer (some ⟨g5,0,none⟩));exact zX) b5 ?_;refine goV ?_;have E8:=(E.ext e08).as 1;refine VA (zIG E8 hp hf (.slice a1 a2 a3) args saY (by omega) into) ?_;rintro _ X ⟨⟨vr,rfl,ow⟩,eX⟩;obtain⟨w1,w2,w3,rfl⟩:=zc ow.sl;have hwb:=ZP ow;replace hwb:∀ g,blk (.slice w1 w2 w3)=some g->h8.n+1<=g/\g<X.n:=hwb;refine WO.nil (zQt eX zBq ?_);have hnX:h8.n+1<=X.n:=eX.n;refine UJ (hS:=h8) (cs:=[I f,I 0,I 0,.slice w1 w2 w3,I into]) (⟨f,0,0,.slice w1 w2 w3,into⟩:Br) eX M8.f hm8 M8.bn (by decide) (by have:=M8.lx;omega) (fun _=>⟨rfl,rfl⟩) (fun k hk=>by cases hk;rfl) ?_;intro Y v'' lit nY kY oY sY wY;obtain⟨n',k',gv,rfl,hgv⟩:=sY;have kY8:∀ k,k<h8.n->k≠gf->Y.get k=h8.get k:=fun k hk hne=>(kY k (by omega) (by omega) (fun e=>hne (by cases e;rfl))).trans (eX.get k (by show k<h8.n+1;omega));have oqZ:WH h4 (inC Y) (.pointer (some ⟨gq,0,none⟩)) [.slice m1 m2 m3,.slice (some ⟨gf,0,none⟩) nf 5,.slice i1 i2 i3,I a.used,.slice v1 v2 v3,I a.steps,I a.heaps,.int .u8 a.state,I a.trap,I a.exit]:=by
  obtain⟨q,q1,q2,q3,q4⟩:=oq8;cases q3;exact⟨gq,q1,by show gq<Y.n;omega,rfl,(kY8 gq q2 bq).trans q4⟩
 have hYq:Y.get gq=some (.row [.slice m1 m2 m3,.slice (some ⟨gf,0,none⟩) nf 5,.slice i1 i2 i3,I a.used,.slice v1 v2 v3,I a.steps,I a.heaps,.int .u8 a.state,I a.trap,I a.exit] true 0):=by
  obtain⟨q,_,_,q3,q4⟩:=oqZ;cases q3;exact q4
 refine goV ?_;refine XG (q:=gq) (off:=1) (cs:=[.slice (some ⟨gv,0,none⟩) n' k']) hYq (QN hm8 hgq) (.inl rfl) ?_ (by simp) (hx:=by show WQ _ _ (zw (.pointer (some ⟨gq,0,none⟩)) 1);exact zX);intro H nH kH gH wH mH wrH;have kH8:∀ k,k<h8.n->k≠gf->k≠gq->H.get k=h8.get k:=fun k hk h1 h2=>(kH k h2).trans (kY8 k hk h1);have hne8:h8.n<=H.n:=by omega
 have e48:=(e5.trans e7).trans e8;have e4H:WK h4 H:=⟨by have:=e48.n;omega,fun k hk=>(kH8 k (by have:=e48.n;omega) (by omega) (by omega)).trans (e48.get k hk),fun w=>wH (wY (eX.wf fun k hk=>e48.wf w k (by have hk:h8.n+1<=k:=hk;omega))),mH.trans e48.mark,fun hmk=>wrH.trans (e48.wr hmk)⟩;have e2H:WK h2 H:=(e3.trans e4).trans e4H;have oqH:WH h4 H (.pointer (some ⟨gq,0,none⟩)) [.slice m1 m2 m3,.slice (some ⟨gv,0,none⟩) n' k',.slice i1 i2 i3,I a.used,.slice v1 v2 v3,I a.steps,I a.heaps,.int .u8 a.state,I a.trap,I a.exit]:=⟨gq,hgq,by omega,rfl,gH⟩;have o12H:WH h5 H (.pointer (some ⟨g12,0,none⟩)) [zR (.slice (some ⟨gf,0,none⟩) nf 5) ((a.frs.length-1)*5),.pointer (some ⟨gq,0,none⟩)]:=⟨g12,hg12a,by omega,rfl,(kH8 g12 hg12b b12 (fun e=>hd12 gq rfl (by rw[e];rfl))).trans hg12c⟩;have hreg:(ZZ T F f args into).regs.length<=1000:=by unfold ZZ;simp;omega
 have MH:OM h4.n H (.slice (some ⟨gv,0,none⟩) n' k') (.slice i1 i2 i3) (xs'++[⟨f,0,0,.slice w1 w2 w3,into⟩]) {a with frs:=a.frs++[ZZ T F f args into]}:=
  M8.call kH8 hne8 dq2 dq3 (Zx oY (fun _ _ _ _ r=>r) (fun g hg=>kH g (fun e=>by have hh:gv=g:=(by cases hg;rfl);omega)) (by omega)) (fun g hg=>by have hh:gv=g:=(by cases hg;rfl);exact⟨by omega,fun g' hg'=>by have:=(hwb g' hg').2;omega⟩)
   (Zx (ow.base (by show h4.n<=h8.n+1;omega)) (fun _ _ _ _ r=>r) (fun g hg=>by
     have:=hwb g hg;exact(kH g (by omega)).trans (kY g (by omega) (by omega) (fun e=>by have hh:gf=g:=(by cases e;rfl);omega))) (by omega)) (fun g hg=>by have:=(hwb g hg).1;omega) h99 hreg ⟨rfl,rfl,rfl,rfl⟩
 refine go ?_;refine VF (cs:=[.slice m1 m2 m3,.slice (some ⟨gv,0,none⟩) n' k',.slice i1 i2 i3,I a.used,.slice v1 v2 v3,I a.steps,I a.heaps,.int .u8 a.state,I a.trap,I a.exit]) (o10s.ext e4H) e2H ?_;intro h12 e12 o12' u12;refine go ?_;refine rt ?_ (VL WM o12' rfl (Wz.cons WM Wz.nil));have e012:=(e1.trans e2).trans e12;refine⟨⟨_,rfl,((OM.upd MH (fun k h1 h2=>u12.2 k h2 fun e=> ?_) u12.1).base e04.n).fm nb'⟩,e012⟩;have:=hp10 k (by rw[e];rfl);have:=e4.n;omega
end
end Go.Proofs.YtmilpkdhbdgjfaaGreatDoor
