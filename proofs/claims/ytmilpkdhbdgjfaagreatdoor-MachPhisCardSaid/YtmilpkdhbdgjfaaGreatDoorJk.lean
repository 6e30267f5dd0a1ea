/- Walks of functions, plain laws; proves no statement. -/
import Derived.Test.YtmilpkdhbdgjfaaGreatDoorJj
set_option linter.all false
set_option maxHeartbeats 4000000
set_option maxRecDepth 100000
namespace Go.Am
theorem zJb{c g i len:Nat}(hi:i<=len):yU c (.slice (some ⟨g,0,none⟩) len c) none (some i) none=some (.slice (some ⟨g,0,none⟩) i c):=by
 have h1:Nat.ble i len=true:=QF hi;have h0:Nat.ble 0 i=true:=QF (QU i);simp[yU,h1,h0]
theorem zFS{α:Type}{c:Nat}{R:WF->List Value->α->Prop}{h:WF}{g n k:Nat}{l:List α}(s:Ww c R h (.slice (some ⟨g,0,none⟩) n c) l)(hk:k<=l.length):Ww c R h (.slice (some ⟨g,0,none⟩) k c) (l.take k):=by
 obtain⟨cells,⟨h1,h2⟩,hR⟩:=s;have hlen:(l.take k).length=k:=by rw[Ql];omega
 refine⟨cells.take (k*c),⟨by rw[hlen,Ql,h1];exact GD (Qr _ hk),?_⟩,fun i a ha=> ?_⟩
 ·rw[hlen];rcases h2 with⟨h0,h3⟩|⟨g',off,row,e,hr,hcut,hn⟩
  ·have h0:l.length=0:=h0;exact .inl ⟨by omega,.inr ⟨_,_,by rw[show k=0 by omega]⟩⟩
  ·cases e;refine .inr ⟨g,0,row,rfl,hr,?_,hn⟩;have hle:=Qr c hk;unfold cut at hcut |-;cases hb:Nat.ble (0+l.length*c) row.length with
   |false=>rw[hb]at hcut;cases hcut
   |true=>
    rw[hb]at hcut;have hb2:=QO hb;rw[show Nat.ble (0+k*c) row.length=true from QF (by omega)];simp only[cond_true,QA]at hcut |-;rw[<-hcut,G3,GD hle]
 ·have hi:=(QM.1 ha).1;rw[hlen]at hi;rw[List.getElem?_take_of_lt hi]at ha;have:=hR i a ha;have h4:i*c+c<=k*c:=by rw[<-GX];exact Qr _ hi
  rw[List.drop_take,G3,GD (by omega)];exact this
end Go.Am
namespace Go.Proofs.YtmilpkdhbdgjfaaGreatDoor
open Go.Am
def YU(a:Wa)(v:Wi):List BQ:=(a.frs.set (a.frs.length-2) {a.frs.getD (a.frs.length-2) default with regs:=(a.frs.getD (a.frs.length-2) default).regs.set (zJ a).into.toNat v}).take (a.frs.length-1)
def Zh(a:Wa)(v:Wi):Wa×Int:=
 if ZN a=false then(zM,160)else if okE v=false then(zM,2)else if 1<a.frs.length then({a with frs:=YU a v},0)else({a with frs:=[],state:=2,exit:=v.n},0)
theorem zIt(h:WF)(ca:List Value)(a:Wa){b:Nat}(ra:FM b h ca a)(hm:h.mark<=h.n)(v:Wi)(hinto:1<a.frs.length->0<=(zJ a).into/\(zJ a).into<((a.frs.getD (a.frs.length-2) default).regs.length:Int)):
  WC Tryz.prog tb 15 [.agg ca.toArray,.agg #[.int .u8 v.kind,I v.n,I v.block,I v.pos]] h fun w h'=>(∃ cs,w=.tuple #[.agg cs.toArray,I (Zh a v).2]/\FM h.n h' cs (Zh a v).1)/\WK h h':=by
 have rm0:=ra.rm;have om0:=ra;have hfl:=ra.lf;obtain⟨am,af,ai,ae,rfl,⟨nb0,_⟩,hst⟩:=ra.ex;have kaf:=(hst h (fun _ _ _=>rfl) (QE _)).1;obtain⟨x1,x2,x3,rfl⟩:=zc kaf;clear hst;refine en ?_;refine VG ?_;intro p2 h1 e1 o2;replace o2:WH h h1 p2 [am,.slice x1 x2 x3,ai,I a.used,ae,I a.steps,I a.heaps,.int .u8 a.state,I a.trap,I a.exit]:=o2;refine go ?_;refine VG ?_;intro p3 h2 e2 o3;replace o3:WH h1 h2 p3 [.int .u8 v.kind,I v.n,I v.block,I v.pos]:=o3;refine go ?_;refine VJ ?_;intro p4 h3 e3 o4;have hp4:=o4.within;have e03:=e1.trans (e2.trans e3);have o2:=o2.ext (e2.trans e3);have o3:=o3.ext e3;refine go ?_;refine VA (zBz h3 _ a (rm0.ext e03)) ?_;rintro _ h4 ⟨rfl,e4⟩;have o2:=o2.ext e4;have o3:=o3.ext e4;have o4:=o4.ext e4;have e04:=e03.trans e4;by_cases hr:ZN a=true;case neg=>
  have hr:ZN a=false:=by simpa using hr
  rw[show Zh a v=(zM,160)from QG hr,hr];refine go ?_;refine VF (cs:=[.slice none 0 0,.slice none 0 0,.slice none 0 0,I 0,.slice none 0 0,I 0,I 0,.int .u8 0,I 0,I 0]) o4 (e3.trans e4) ?_;intro h5 e5 o5 u5;refine gr ?_;have e05:=(e1.trans e2).trans e5;exact⟨⟨_,rfl,FM.zero e05.n⟩,e05⟩
 rw[hr];have hne:=Yf hr;refine go ?_;refine VA (zH0 h4 am nb0.sl v) ?_;rintro _ h5 ⟨rfl,e5⟩;have o2:=o2.ext e5;have o3:=o3.ext e5;have o4:=o4.ext e5;have e05:=e04.trans e5;refine go ?_;refine Vz ?_;intro h6 e6 n6 s6 g6;have o2:=o2.ext e6;have o3:=o3.ext e6;have o4:=o4.ext e6;have e06:=e05.trans e6;have sv6:W9 h6 _ [v]:=⟨_,s6,fun i x hx=>by
  have hi:i=0:=by have:=(QM.1 hx).1;simp at this;omega
  subst hi;simp at hx;subst hx;rfl⟩
 refine go ?_;refine VA (zGq h6 _ [v] sv6 (by simp)) ?_;rintro _ h7 ⟨rfl,e7⟩;rw[show([v].all Bo)=Bo v from by simp];have o2:=o2.ext e7;have o3:=o3.ext e7;have o4:=o4.ext e7;have e07:=e06.trans e7;have e37:=((e4.trans e5).trans e6).trans e7;have o3s:=o3;have o4s:=o4;by_cases hv:okE v=true;case neg=>
  have hv:okE v=false:=by simpa using hv
  rw[show Zh a v=(zM,2)from by unfold Zh;rw[QC (by rw[hr];decide),QG hv]];rw[hv];rw[QC Bool.false_ne_true];cases Bo v with
  |false=>
   refine go ?_;refine VF (cs:=[.slice none 0 0,.slice none 0 0,.slice none 0 0,I 0,.slice none 0 0,I 0,I 0,.int .u8 0,I 0,I 0]) o4 (e3.trans e37) ?_;intro h8 e8 o8 u8;refine gr ?_;have e08:=(e1.trans e2).trans e8;exact⟨⟨_,rfl,FM.zero e08.n⟩,e08⟩
  |true=>
   refine go ?_;refine VF (cs:=[.slice none 0 0,.slice none 0 0,.slice none 0 0,I 0,.slice none 0 0,I 0,I 0,.int .u8 0,I 0,I 0]) o4 (e3.trans e37) ?_;intro h8 e8 o8 u8;refine gr ?_;have e08:=(e1.trans e2).trans e8;exact⟨⟨_,rfl,FM.zero e08.n⟩,e08⟩
 have hov:Bo v=true:=by unfold okE at hv;simp at hv;exact hv.1
 rw[hv,hov];rw[QG rfl];have hnl:¬(0:Int)=(a.frs.length:Int):=by omega
 have kaf7:=BW.ext kaf e07;refine go ?_;refine VA (zFx h7 _ a (om0.ext e07) (by rw[e07.mark];exact QN hm e07.n) hne) ?_;rintro _ h8 ⟨⟨gq,gf,nf,vm',vi',ve',xs',rfl,oq,nb',M',dq1,dq2,dq3⟩,e8⟩;have o3:=o3.ext e8;have o4:=o4.ext e8;have e08:=e07.trans e8;have e38:=e37.trans e8;obtain⟨m1,m2,m3,rfl⟩:=nb'.1.shape;obtain⟨i1,i2,i3,rfl⟩:∃ a n k,vi'=.slice a n k:=let⟨_,_,h2⟩:=M'.i;Wt.shape h2.sl;obtain⟨v1,v2,v3,rfl⟩:=nb'.2.shape;have hnf:nf=a.frs.length:=by
  rcases M'.f with⟨e,_⟩|⟨_,_,_,_,_,e,_⟩
  ·cases e
  ·cases e;exact M'.lx
 subst hnf;refine go ?_;refine VJ ?_;intro p9 h9 e9 o9;refine go ?_;refine VF (cs:=[zR (.slice (some ⟨gf,0,none⟩) a.frs.length 5) ((a.frs.length-1)*5),.pointer (some ⟨gq,0,none⟩)]) o9 e9 ?_;intro h10 e10 o9' u9;have hp9:=o9.since';replace o9:=o9';clear o9' u9;have o3:=o3.ext e10;have o4:=o4.ext e10;have e010:=e08.trans e10;have e310:=e38.trans e10;have M10:=M'.ext e10;have oq10:WH h7 h10 (.pointer (some ⟨gq,0,none⟩)) [.slice m1 m2 m3,.slice (some ⟨gf,0,none⟩) a.frs.length 5,.slice i1 i2 i3,I a.used,.slice v1 v2 v3,I a.steps,I a.heaps,.int .u8 a.state,I a.trap,I a.exit]:=oq.ext e10;obtain⟨cs,⟨vr,rfl,kr,hlr⟩,pc,hs⟩:=zg M10.fr (i:=a.frs.length-1) (by omega);have pc10:=(pc _ (WK.refl _)).1;have hd9:Wp (.pointer (some ⟨gq,0,none⟩)) p9:=(VI (h:=h8) hp9 oq.within).symm;have hm10:h10.mark<=h7.n:=by rw[e010.mark];exact QN hm e07.n
 have sm10:BC h10 (.slice m1 m2 m3) []:=nb'.1.sl;have hti:(a.frs.getD (a.frs.length-1) default).into=(zJ a).into:=rfl;refine go ?_;refine VC 0 rfl rfl ?_;have o9Y:WH h8 (inC (zB 0 h10)) p9 [zR (.slice (some ⟨gf,0,none⟩) a.frs.length 5) ((a.frs.length-1)*5),.pointer (some ⟨gq,0,none⟩)]:=o9;have oqY:WH h7 (inC (zB 0 h10)) (.pointer (some ⟨gq,0,none⟩)) [.slice m1 m2 m3,.slice (some ⟨gf,0,none⟩) a.frs.length 5,.slice i1 i2 i3,I a.used,.slice v1 v2 v3,I a.steps,I a.heaps,.int .u8 a.state,I a.trap,I a.exit]:=oq10;refine Wc ?_;refine VA (zLa (inC (zB 0 h10)) (.slice m1 m2 m3) sm10 (QE _) a.frs.length (by omega)) ?_;rintro _ X ⟨⟨w,rfl,sw⟩,eX⟩;obtain⟨w1,w2,w3,rfl⟩:=zc sw;have nbw:=Bv.of sw;refine nE eX ?_;have e10X:WK h10 (zq h10 X):=(zQ 0 h10).trans (yP (h:=h10) eX);have oqX:WH h7 X (.pointer (some ⟨gq,0,none⟩)) [.slice m1 m2 m3,.slice (some ⟨gf,0,none⟩) a.frs.length 5,.slice i1 i2 i3,I a.used,.slice v1 v2 v3,I a.steps,I a.heaps,.int .u8 a.state,I a.trap,I a.exit]:=WH.ext (h':=X) oqY eX;have oqX':WH h7 (inC X) (.pointer (some ⟨gq,0,none⟩)) [.slice m1 m2 m3,.slice (some ⟨gf,0,none⟩) a.frs.length 5,.slice i1 i2 i3,I a.used,.slice v1 v2 v3,I a.steps,I a.heaps,.int .u8 a.state,I a.trap,I a.exit]:=oqX;refine Wc ?_;refine V6 (hB:=h7) (j:=0) (cs:=[.slice w1 w2 w3]) (hl:=by simp) oqX hm10 ?_;intro H nH kH oH wH mH wrH;have oH:WH h7 H (.pointer (some ⟨gq,0,none⟩)) [.slice w1 w2 w3,.slice (some ⟨gf,0,none⟩) a.frs.length 5,.slice i1 i2 i3,I a.used,.slice v1 v2 v3,I a.steps,I a.heaps,.int .u8 a.state,I a.trap,I a.exit]:=oH;have hgq7:=oq10.since' gq rfl;have kH10:∀ k,k<h10.n->k≠gq->H.get k=h10.get k:=fun k hk hne=>(kH k (fun e=>hne (by cases e;rfl))).trans (e10X.get k hk);have hn10:h10.n<=H.n:=by rw[nH];exact e10X.n
 have e7H:WK h7 H:=⟨by have:=(e8.trans e10).n;omega,fun k hk=>(kH10 k (by have:=(e8.trans e10).n;omega) (by omega)).trans ((e8.trans e10).get k hk),fun w=>wH (e10X.wf ((e8.trans e10).wf w)),mH.trans (e8.trans e10).mark,fun hmk=>wrH.trans ((e8.trans e10).wr hmk)⟩;have MH:OM h7.n H (.slice (some ⟨gf,0,none⟩) a.frs.length 5) (.slice i1 i2 i3) xs' a:=⟨Zx M10.f (fun _ _ _ _ r=>r) (fun g hg=>kH10 g (M10.f.within g hg) (fun e=>by cases hg;exact dq1 e.symm)) hn10,M10.lx,M10.rel,fun i hi=>Zx (M10.rg i hi) (fun _ _ _ _ r=>r) (fun g hg=>kH10 g ((M10.rg i hi).within g hg) (fun e=>dq3 i hi gq rfl (by rw[<-e];exact hg))) hn10,M10.off,M10.offF,
  let⟨hb,hb1,oi⟩:=M10.i;⟨hb,hb1,zBJ oi (fun g hg=>kH10 g (oi.within g hg) (fun e=>dq2 gq rfl (by rw[<-e];exact hg))) hn10⟩,M10.offI,QN M10.bn hn10,M10.nm,M10.lf,M10.li,M10.lr⟩
 have o9H:WH h8 H p9 [zR (.slice (some ⟨gf,0,none⟩) a.frs.length 5) ((a.frs.length-1)*5),.pointer (some ⟨gq,0,none⟩)]:=by
  obtain⟨g,g1,g2,rfl,g3⟩:=o9;exact⟨g,g1,by omega,rfl,(kH10 g g2 (fun e=>hd9 gq rfl (by rw[e];rfl))).trans g3⟩
 have hm0H:H.mark<=h7.n:=by rw[mH];exact hm10
 have hd9':=hd9;clear kH oqX oqX' oqY o9Y e10X kH10 eX;refine go ?_;refine VC 0 rfl rfl ?_;have o9Y:WH h8 (inC (zB 0 H)) p9 [zR (.slice (some ⟨gf,0,none⟩) a.frs.length 5) ((a.frs.length-1)*5),.pointer (some ⟨gq,0,none⟩)]:=o9H;have oqY:WH h7 (inC (zB 0 H)) (.pointer (some ⟨gq,0,none⟩)) [.slice w1 w2 w3,.slice (some ⟨gf,0,none⟩) a.frs.length 5,.slice i1 i2 i3,I a.used,.slice v1 v2 v3,I a.steps,I a.heaps,.int .u8 a.state,I a.trap,I a.exit]:=oH;have oqA:WH h7 (zB 0 H) (.pointer (some ⟨gq,0,none⟩)) [.slice w1 w2 w3,.slice (some ⟨gf,0,none⟩) a.frs.length 5,.slice i1 i2 i3,I a.used,.slice v1 v2 v3,I a.steps,I a.heaps,.int .u8 a.state,I a.trap,I a.exit]:=oH;have hsub:((a.frs.length:Int)-1)=((a.frs.length-1:Nat):Int):=by omega
 refine Wc ?_;rw[hsub];refine Vh (i:=a.frs.length-1) (r:= .slice (some ⟨gf,0,none⟩) (a.frs.length-1) 5) (zJb (Nat.sub_le _ _)) ?_;refine nQ ?_;refine Wc ?_;refine V6 (hB:=h7) (j:=1) (cs:=[.slice (some ⟨gf,0,none⟩) (a.frs.length-1) 5]) (hl:=by simp) oqA hm0H ?_;intro J nJ kJ oJ wJ mJ wrJ;have oJ:WH h7 J (.pointer (some ⟨gq,0,none⟩)) [.slice w1 w2 w3,.slice (some ⟨gf,0,none⟩) (a.frs.length-1) 5,.slice i1 i2 i3,I a.used,.slice v1 v2 v3,I a.steps,I a.heaps,.int .u8 a.state,I a.trap,I a.exit]:=oJ;have kJH:∀ k,k≠gq->J.get k=H.get k:=fun k hne=>kJ k (fun e=>hne (by cases e;rfl));have hnJ:H.n<=J.n:=by rw[nJ];exact QE _
 have e7J:WK h7 J:=⟨QN e7H.n hnJ,fun k hk=>(kJH k (by omega)).trans (e7H.get k hk),fun w=>wJ (e7H.wf w),mJ.trans e7H.mark,fun hmk=>wrJ.trans (e7H.wr hmk)⟩;have MJ:OM h7.n J (.slice (some ⟨gf,0,none⟩) a.frs.length 5) (.slice i1 i2 i3) xs' a:=⟨Zx MH.f (fun _ _ _ _ r=>r) (fun g hg=>kJH g (fun e=>by cases hg;exact dq1 e.symm)) hnJ,MH.lx,MH.rel,fun i hi=>Zx (MH.rg i hi) (fun _ _ _ _ r=>r) (fun g hg=>kJH g (fun e=>dq3 i hi gq rfl (by rw[<-e];exact hg))) hnJ,MH.off,MH.offF,
  let⟨hb,hb1,oi⟩:=MH.i;⟨hb,hb1,zBJ oi (fun g hg=>kJH g (fun e=>dq2 gq rfl (by rw[<-e];exact hg))) hnJ⟩,MH.offI,QN MH.bn hnJ,MH.nm,MH.lf,MH.li,MH.lr⟩
 have o9J:WH h8 J p9 [zR (.slice (some ⟨gf,0,none⟩) a.frs.length 5) ((a.frs.length-1)*5),.pointer (some ⟨gq,0,none⟩)]:=by
  obtain⟨g,g1,g2,rfl,g3⟩:=o9H;exact⟨g,g1,by omega,rfl,(kJH g (fun e=>hd9' gq rfl (by rw[e];rfl))).trans g3⟩
 have o3J:=o3s.ext e7J;have o4J:=o4s.ext e7J;have e3J:WK h3 J:=e37.trans e7J;have hxl:=MJ.lx;have hfin:∀ {K:WF} {a':Wa} {xs2:List Br},OM h7.n K (.slice (some ⟨gf,0,none⟩) a.frs.length 5) (.slice i1 i2 i3) xs2 a'->a'.frs.length=a.frs.length->FM h.n K (mC (.slice w1 w2 w3) (.slice (some ⟨gf,0,none⟩) (a.frs.length-1) 5) (.slice i1 i2 i3) (.slice v1 v2 v3) {a' with frs:=a'.frs.take (a.frs.length-1)}) {a' with frs:=a'.frs.take (a.frs.length-1)}:=fun {K a' xs2} o hl=>
  ⟨⟨_,_,_,_,rfl,⟨nbw,nb'.2⟩,fun h' q1 q2=>by
    have o':=(o.base e07.n).upd q1 q2;exact⟨zFS o'.fr (by omega),let⟨_,_,h2⟩:=o'.i;h2.sl⟩⟩,QN e07.n o.bn,o.nm,by have:=o.lf;simp;omega,o.li,fun i hi=>by
   have hi2:i<a.frs.length-1/\i<a'.frs.length:=by simp at hi;omega
   have:=o.lr i hi2.2;simp only[QL]at this |-;rw[List.getElem?_take_of_lt hi2.1];exact this⟩
 by_cases hone:1<a.frs.length
 ·have hin:=hinto hone;rw[show Zh a v=({a with frs:=YU a v},0)from by unfold Zh;rw[QC (by rw[hr];decide),QC (by rw[hv];decide),QG hone]];have fpre:Ww 5 B6 J (.slice (some ⟨gf,0,none⟩) (a.frs.length-1) 5) (xs'.take (a.frs.length-1)):=zFS MJ.f.sl (by omega);have hpl:(xs'.take (a.frs.length-1)).length=a.frs.length-1:=by rw[Ql];omega
  have hx2:(xs'.take (a.frs.length-1)).getD (a.frs.length-2) default=xs'.getD (a.frs.length-2) default:=by
   simp only[QL];rw[List.getElem?_take_of_lt (by omega)]
  obtain⟨cs2,hcs2,pc2,hs2⟩:=zg fpre (i:=a.frs.length-2) (by omega);rw[hx2]at hcs2;obtain⟨rfl,_⟩:=hcs2;have ow:=MJ.rg (a.frs.length-2) (by omega);have dqi:=dq3 (a.frs.length-2) (by omega);have hlr2:=MJ.lr (a.frs.length-2) (by omega);have hset:=fun(h':WF) (o':WZ 4 W6 h7.n h' (xs'.getD (a.frs.length-2) default).v ((a.frs.getD (a.frs.length-2) default).regs.set (zJ a).into.toNat v)) (u:UpB (xs'.getD (a.frs.length-2) default).v J h')=>MJ.setR (i:=a.frs.length-2) (l:=(a.frs.getD (a.frs.length-2) default).regs.set (zJ a).into.toNat v) (by omega) (by rw[GL];exact hlr2) o' u;replace hset:=Wu.mk hset;have hw9:zET h8 (xs'.getD (a.frs.length-2) default).v:=(M'.rg (a.frs.length-2) (by omega)).within;obtain⟨z1,z2,z3,hz⟩:=zc ow.sl;rw[hz]at pc2 dqi hset ow hw9;have hd9r:Wp (.slice z1 z2 z3) p9:=(VI (h:=h8) hp9 hw9).symm;generalize hRL:(a.frs.getD (a.frs.length-2) default).regs=RL at *;refine go ?_;refine VC 0 rfl rfl ?_;have o9Y:WH h8 (inC (zB 0 J)) p9 [zR (.slice (some ⟨gf,0,none⟩) a.frs.length 5) ((a.frs.length-1)*5),.pointer (some ⟨gq,0,none⟩)]:=o9J;have o3Y:WH h1 (inC (zB 0 J)) p3 [.int .u8 v.kind,I v.n,I v.block,I v.pos]:=o3J;have oqY:WH h7 (inC (zB 0 J)) (.pointer (some ⟨gq,0,none⟩)) [.slice w1 w2 w3,.slice (some ⟨gf,0,none⟩) (a.frs.length-1) 5,.slice i1 i2 i3,I a.used,.slice v1 v2 v3,I a.steps,I a.heaps,.int .u8 a.state,I a.trap,I a.exit]:=oJ;have fpY:Ww 5 B6 (inC (zB 0 J)) (.slice (some ⟨gf,0,none⟩) (a.frs.length-1) 5) (xs'.take (a.frs.length-1)):=fpre;have pcY:Wh (inC (zB 0 J)) (.slice (some ⟨gf,0,none⟩) (a.frs.length-1) 5) ((a.frs.length-2)*5) _:=(pc2 _ (WK.refl _)).2;have kY:W9 (inC (zB 0 J)) (.slice z1 z2 z3) RL:=ow.sl;have owY:WZ 4 W6 h7.n (zB 0 J) (.slice z1 z2 z3) RL:=ow;have hsub2:((a.frs.length:Int)-2).toNat=a.frs.length-2:=by omega
  rw[<-hsub2]at pcY;have hti:(zJ a).into=(a.frs.getD (a.frs.length-1) default).into:=rfl;refine Wc ?_;refine XJ (hB:=h7) (hS:=J) (i:=(a.frs.getD (a.frs.length-1) default).into.toNat) (off:=0) (cs:=[.int .u8 v.kind,I v.n,I v.block,I v.pos]) (ho:=by simp) v owY e7J (by rw[e7J.mark,e07.mark];exact QN hm e07.n) rfl (QE _) (by omega) (fun old hx hr ho=> ?_) ?_ (hx:=by show WQ _ _ (zR _ ((a.frs.getD (a.frs.length-1) default).into.toNat*4));exact zX)
  ·unfold W6 at hr |-;subst hr;rfl
  intro L e11 o11 n11 k11;have u11:UpB (.slice z1 z2 z3) J L:=zGY (by omega) k11;have ML:=hset.out L o11 u11;have o9L:=o9J.upB u11 hd9r;have oqL:WH h7 L (.pointer (some ⟨gq,0,none⟩)) [.slice w1 w2 w3,.slice (some ⟨gf,0,none⟩) (a.frs.length-1) 5,.slice i1 i2 i3,I a.used,.slice v1 v2 v3,I a.steps,I a.heaps,.int .u8 a.state,I a.trap,I a.exit]:=oJ.upB u11 dqi.symm;refine go ?_;refine VF (cs:=[.slice w1 w2 w3,.slice (some ⟨gf,0,none⟩) (a.frs.length-1) 5,.slice i1 i2 i3,I a.used,.slice v1 v2 v3,I a.steps,I a.heaps,.int .u8 a.state,I a.trap,I a.exit]) (o4s.ext e11) ((e3.trans e37).trans e11) ?_;intro h12 e12 o12 u12;refine go ?_;refine rt ?_ (VL WM o12 rfl (Wz.cons WM Wz.nil));have M12:=OM.upd ML (fun k q1 q2=>u12.2 k q2 fun e=>by
   have:=hp4 k (by rw[e];rfl);have:=e37.n;omega) u12.1
  have:=hfin M12 (by simp);refine⟨⟨_,rfl,?_⟩,(e1.trans e2).trans e12⟩;unfold YU;rw[hRL];exact this
 ·have hl1:a.frs.length=1:=by omega
  rw[show Zh a v=({a with frs:=[],state:=2,exit:=v.n},0)from by unfold Zh;rw[QC (by rw[hr];decide),QC (by rw[hv];decide),QC hone]];have hqJ:J.get gq=some (.row [.slice w1 w2 w3,.slice (some ⟨gf,0,none⟩) (a.frs.length-1) 5,.slice i1 i2 i3,I a.used,.slice v1 v2 v3,I a.steps,I a.heaps,.int .u8 a.state,I a.trap,I a.exit] true 0):=by
   obtain⟨q,_,_,q3,q4⟩:=oJ;cases q3;exact q4
  obtain⟨g9,hg9a,hg9b,rfl,hg9c⟩:=id o9J;obtain⟨g3,hg3a,hg3b,rfl,hg3c⟩:=id o3J;have b9:¬g9=gq:=fun e=>hd9 gq rfl (by rw[e];rfl);have b3:¬g3=gq:=fun e=>by
   have:=o3s.within g3 rfl;omega
  have hgqJ:=oJ.within gq rfl;refine go ?_;refine VX (fun k=>k=gq) 0 rfl rfl ?_;have o9Y:WH h8 (inC (zB 0 J)) (.pointer (some ⟨g9,0,none⟩)) [zR (.slice (some ⟨gf,0,none⟩) a.frs.length 5) ((a.frs.length-1)*5),.pointer (some ⟨gq,0,none⟩)]:=o9J;have o3Y:WH h1 (inC (zB 0 J)) (.pointer (some ⟨g3,0,none⟩)) [.int .u8 v.kind,I v.n,I v.block,I v.pos]:=o3J;have oqY:WH h7 (inC (zB 0 J)) (.pointer (some ⟨gq,0,none⟩)) [.slice w1 w2 w3,.slice (some ⟨gf,0,none⟩) (a.frs.length-1) 5,.slice i1 i2 i3,I a.used,.slice v1 v2 v3,I a.steps,I a.heaps,.int .u8 a.state,I a.trap,I a.exit]:=oJ;refine goV ?_;refine Xk (X:=zB 0 J) (q:=gq) (off:=7) (cs:=[.int .u8 2]) hqJ (by show J.mark<=gq;rw[e7J.mark];have:=e07.mark;have:=e07.n;omega) (.inr rfl) ?_ (by simp) (hx:=by show WQ _ _ (zw (.pointer (some ⟨gq,0,none⟩)) 7);exact zX);intro L nL kL gL wL;have oqZ:WH h7 (inC L) (.pointer (some ⟨gq,0,none⟩)) [.slice w1 w2 w3,.slice (some ⟨gf,0,none⟩) (a.frs.length-1) 5,.slice i1 i2 i3,I a.used,.slice v1 v2 v3,I a.steps,I a.heaps,.int .u8 2,I a.trap,I a.exit]:=⟨gq,hgq7,by show gq<L.n;rw[nL];exact hgqJ,rfl,gL⟩;refine goV ?_;refine XG (X:=L) (q:=gq) (off:=9) (cs:=[I v.n]) gL (by show J.mark<=gq;rw[e7J.mark];have:=e07.mark;have:=e07.n;omega) (.inl rfl) ?_ (by simp[zO]) (hx:=by show WQ _ _ (zw (.pointer (some ⟨gq,0,none⟩)) 9);exact zX);intro N nN kN gN wN mN wrN;have kNJ:∀ k,k≠gq->N.get k=J.get k:=fun k hne=>(kN k hne).trans (kL k hne);have hnN:J.n<=N.n:=by rw[nN,nL];exact QE _
  have e7N:WK h7 N:=⟨QN e7J.n hnN,fun k hk=>(kNJ k (by omega)).trans (e7J.get k hk),fun w=>wN (wL (e7J.wf w)),mN.trans e7J.mark,fun hmk=>wrN.trans (e7J.wr hmk)⟩;have MN:OM h7.n N (.slice (some ⟨gf,0,none⟩) a.frs.length 5) (.slice i1 i2 i3) xs' {a with state:=2,exit:=v.n}:=⟨Zx MJ.f (fun _ _ _ _ r=>r) (fun g hg=>kNJ g (fun e=>by cases hg;exact dq1 e.symm)) hnN,MJ.lx,MJ.rel,fun i hi=>Zx (MJ.rg i hi) (fun _ _ _ _ r=>r) (fun g hg=>kNJ g (fun e=>dq3 i hi gq rfl (by rw[<-e];exact hg))) hnN,MJ.off,MJ.offF,
   let⟨hb,hb1,oi⟩:=MJ.i;⟨hb,hb1,zBJ oi (fun g hg=>kNJ g (fun e=>dq2 gq rfl (by rw[<-e];exact hg))) hnN⟩,MJ.offI,QN MJ.bn hnN,MJ.nm,MJ.lf,MJ.li,MJ.lr⟩
  have o9N:WH h8 N (.pointer (some ⟨g9,0,none⟩)) [zR (.slice (some ⟨gf,0,none⟩) a.frs.length 5) ((a.frs.length-1)*5),.pointer (some ⟨gq,0,none⟩)]:=⟨g9,hg9a,QK hg9b hnN,rfl,(kNJ g9 b9).trans hg9c⟩;have oqN:WH h7 N (.pointer (some ⟨gq,0,none⟩)) [.slice w1 w2 w3,.slice (some ⟨gf,0,none⟩) (a.frs.length-1) 5,.slice i1 i2 i3,I a.used,.slice v1 v2 v3,I a.steps,I a.heaps,.int .u8 2,I a.trap,I v.n]:=⟨gq,hgq7,by rw[nN,nL];exact hgqJ,rfl,gN⟩;refine go ?_;refine VF (cs:=[.slice w1 w2 w3,.slice (some ⟨gf,0,none⟩) (a.frs.length-1) 5,.slice i1 i2 i3,I a.used,.slice v1 v2 v3,I a.steps,I a.heaps,.int .u8 2,I a.trap,I v.n]) (o4s.ext e7N) ((e3.trans e37).trans e7N) ?_;intro h12 e12 o12 u12;refine go ?_;refine rt ?_ (VL WM o12 rfl (Wz.cons WM Wz.nil));have M12:=OM.upd MN (fun k q1 q2=>u12.2 k q2 fun e=>by
   have:=hp4 k (by rw[e];rfl);have:=e37.n;omega) u12.1
  have hf:=hfin M12 rfl;refine⟨⟨_,rfl,?_⟩,(e1.trans e2).trans e12⟩;rw[show({a with state:=2,exit:=v.n}:Wa).frs.take (a.frs.length-1)=[]from by rw[hl1];rfl]at hf;exact hf
end Go.Proofs.YtmilpkdhbdgjfaaGreatDoor
set_option maxRecDepth 100000
namespace Go.Proofs.YtmilpkdhbdgjfaaGreatDoor
open Go.Am
theorem zCd{α:Type}{c i:Nat}{R:WF->List Value->α->Prop}{h:WF}{v:Value}{l:List α}(s:Ww c R h v l)(hl:0<l.length)(hi:i<=l.length):∃ r,yU c v none (some i) none=some r/\Ww c R h r (l.take i):=by
 obtain⟨cells,⟨h1,⟨h2,_⟩|⟨g,off,row,rfl,h3,h4,h5⟩⟩,hR⟩:=s
 ·omega
 have hmul:i*c<=l.length*c:=Qr _ hi;have hlen:(l.take i).length=i:=by rw[Ql];omega
 refine⟨.slice (some ⟨g,off+0*c,none⟩) (i-0) c,?_,cells.take (i*c),⟨by rw[Ql,hlen];omega,.inr ⟨g,off,row,by rw[hlen];simp,h3,?_,h5⟩⟩,fun j a ha=> ?_⟩
 ·have b1:Nat.ble 0 i=true:=QF (QU _);have b2:Nat.ble i l.length=true:=QF hi;simp only[yU,Ge,Q1,b1,b2,Qf,Qn,cond_true,GP]
 ·rw[hlen];obtain⟨c1,c2⟩:=zEP h4;rw[yt (by omega),c2,G3,GD hmul]
 ·have hj:j<i:=by have:=(QM.1 ha).1;omega
  have hja:l[j]?=some a:=by rw[Q4,QG hj]at ha;exact ha
  have:=hR j a hja;have h6:j*c+c<=i*c:=by rw[<-GX];exact Qr _ hj
  rw[List.drop_take,G3,GD (by omega)];exact this
theorem zKg{α:Type}{c:Nat}{R:WF->List Value->α->Prop}{h:WF}{v:Value}(s:Ww c R h v ([]:List α)):∃ r,yU c v none (some 0) none=some r/\Ww c R h r ([]:List α):=by
 rcases Bv.of s with rfl|⟨⟨g,off,sp⟩,k,rfl⟩
 ·exact⟨_,rfl,Bv.sl (.inl rfl)⟩
 ·cases sp with
  |none=>
   cases hk:Nat.beq k c with
   |true=>exact⟨.slice (some ⟨g,off+0*c,none⟩) 0 c,by simp[yU,hk,show Nat.ble 0 0=true from rfl],Bv.sl (.inr ⟨_,_,rfl⟩)⟩
   |false=>exact⟨.slice (some ⟨g,off,none⟩) 0 k,by simp[yU,hk],Bv.sl (.inr ⟨_,_,rfl⟩)⟩
  |some q=>exact⟨.slice (some ⟨g,off,some q⟩) 0 k,by simp[yU],Bv.sl (.inr ⟨_,_,rfl⟩)⟩
def Z8(x:Wo):Bool:=decide (x.op=22)
def ZW(l:List Wo):List Wo:=l.takeWhile Z8
theorem zJ6:∀ {l:List Wo} {k:Nat},k<=l.length->(∀ j,j<k->Z8 (l.getD j default)=true)->(k<l.length->Z8 (l.getD k default)=false)->l.take k=ZW l
 |[],k,hk,_,_=>by simp at hk;subst hk;rfl
 |x::l,0,_,_,h2=>by
  have:Z8 x=false:=h2 (by simp);show[]=(x::l).takeWhile Z8;rw[List.takeWhile_cons,this];rfl
 |x::l,k+1,hk,h1,h2=>by
  have hx:Z8 x=true:=h1 0 (by omega);have ih:=zJ6 (l:=l) (k:=k) (by simpa using hk) (fun j hj=>h1 (j+1) (by omega)) (fun hl=>h2 (by simpa using hl));show x::l.take k=(x::l).takeWhile Z8;rw[List.takeWhile_cons,hx,QG rfl,ih];rfl
theorem zK8(h:WF)(v:Value)(l:List Int)(n:Int)(s:Wd h v l)(hl:(l.length:Int)<=9223372036854775807):
  WC Tryz.prog tb 40 [v,I n] h fun r h'=>(∃ k:Int,r=I k/\(k= -1/\n∉l\/(0<=k/\k<(l.length:Int))/\l.getD k.toNat 0=n/\∀ j,j<k.toNat->l.getD j 0≠n))/\h=h':=by
 obtain⟨v1,v2,v3,rfl⟩:=Wt.shape s;refine en ?_;refine VE (fun i=>l.length-i) (fun i t h1=>h=h1/\zC t 8=I i/\i<=l.length/\∀ j,j<i->l.getD j 0≠n) 0 ?_ ?_
 ·exact⟨rfl,WM,QU _,fun j hj=>absurd hj (Qw _)⟩
 rintro i t _ hsame ⟨rfl,s8,hi,hm⟩;refine go ?_;refine VD (fun hb=> ?_) (fun hb=> ?_)<;>simp only[DB]at hb
 ·have hi':i<l.length:=by omega
  refine go ?_;refine VD (fun hc=> ?_) (fun hc=> ?_)<;>simp only[DB]at hc
  ·refine gr ?_;exact⟨⟨i,rfl,.inr ⟨⟨by omega,by omega⟩,by first|exact hc|exact hc.symm,fun j hj=>hm j (by omega)⟩⟩,rfl⟩
  ·refine go ?_;refine zA (i+1) (by omega) ⟨rfl,BF,by omega,fun j hj=> ?_⟩;by_cases e:j=i
   ·subst e;first|exact hc|exact fun q=>hc q.symm
   ·exact hm j (by omega)
 ·refine gr ?_;refine⟨⟨-1,rfl,.inl ⟨rfl,fun hn=> ?_⟩⟩,rfl⟩;obtain⟨j,hj,e⟩:=List.getElem_of_mem hn;exact hm j (by omega) (by simp[List.getD,QB hj,e])
theorem zN0(h:WF)(cs:List Value)(x:Wo)(r:BT h cs x):WC Tryz.prog tb 80 [.agg cs.toArray] h fun q h'=>q=.bool (!Z8 x)/\WK h h':=by
 obtain⟨va,vf,rfl,_⟩:=r;refine en ?_;refine VG ?_;intro p h1 e1 o1;replace o1:WH h h1 p [.int .u8 x.op,I x.ty,I x.a,I x.b,I x.n,va,vf]:=o1;refine gr ?_;exact⟨rfl,e1⟩
theorem zL4(h:WF)(v:Value)(l:List Wo)(s:BD h v l)(hl:(l.length:Int)<=9223372036854775807):
  WC Tryz.prog tb 79 [v,.func (.func 80) #[] #[]] h fun r h'=>(∃ n:Int,r=I n/\(n= -1/\(∀ j,j<l.length->Z8 (l.getD j default)=true)\/(0<=n/\n<(l.length:Int))/\Z8 (l.getD n.toNat default)=false/\∀ j,j<n.toNat->Z8 (l.getD j default)=true))/\WK h h':=by
 refine en ?_;refine VE (fun i=>l.length-i) (fun i t h1=>WK h h1/\zC t 8=I i/\i<=l.length/\∀ j,j<i->Z8 (l.getD j default)=true) 0 ?_ ?_
 ·exact⟨WK.refl h,WM,QU _,fun j hj=>absurd hj (Qw _)⟩
 rintro i t h1 hsame ⟨e1,s8,hi,hm⟩;have s1:=BD.ext s e1;refine go ?_;refine VD (fun hb=> ?_) (fun hb=> ?_)<;>simp only[DB]at hb
 ·have hi':i<l.length:=by omega
  obtain⟨cs,hcs,pc,hs⟩:=yo s1 hi';have hcs0:=hcs;obtain⟨va,vf,rfl,hR⟩:=hcs;refine go ?_;refine VY (WV.func (zN0 h1 _ _ hcs0)) ?_;rintro _ h2 ⟨rfl,e2⟩;cases hp:Z8 (l.getD i default)with
  |false=>
   refine gr ?_;exact⟨⟨i,rfl,.inr ⟨⟨by omega,by omega⟩,hp,fun j hj=>hm j (by omega)⟩⟩,e1.trans e2⟩
  |true=>
   refine go ?_;refine zA (i+1) (by omega) ⟨e1.trans e2,BF,by omega,fun j hj=> ?_⟩;by_cases e:j=i
   ·subst e;exact hp
   ·exact hm j (by omega)
 ·refine gr ?_;exact⟨⟨-1,rfl,.inl ⟨rfl,fun j hj=>hm j (by omega)⟩⟩,e1⟩
theorem zON(h:WF)(vi:Value)(B:Wl)(s:BD h vi B.ins)(hl:B.ins.length<=1000):
  WC Tryz.prog tb 39 [.agg #[vi,.int .u8 B.fin.kind,I B.fin.a,I B.fin.to,I B.fin.els]] h fun r h'=>(∀ h0,BD h0 vi B.ins->BD h0 r (ZW B.ins))/\WK h h':=by
 obtain⟨v1,v2,v3,rfl⟩:=zN s;refine en ?_;refine VG ?_;intro p h1 e1 o1;replace o1:WH h h1 p [.slice v1 v2 v3,.int .u8 B.fin.kind,I B.fin.a,I B.fin.to,I B.fin.els]:=o1;have s1:=BD.ext s e1;refine go ?_;refine VA (zL4 h1 _ B.ins s1 (by omega)) ?_;rintro _ h2 ⟨⟨n,rfl,hn⟩,e2⟩;have o2:=o1.ext e2;have s2:=BD.ext s1 e2;have e02:=e1.trans e2;have key:∀ k:Nat,k<=B.ins.length->(∀ j,j<k->Z8 (B.ins.getD j default)=true)->(k<B.ins.length->Z8 (B.ins.getD k default)=false)->∃ r,yU 7 (.slice v1 v2 v3) none (some k) none=some r/\∀ h0,BD h0 (.slice v1 v2 v3) B.ins->BD h0 r (ZW B.ins):=fun k h1 h2' h3=>by
  rw[<-zJ6 h1 h2' h3];have one:∀ h0,BD h0 (.slice v1 v2 v3) B.ins->∃ r,yU 7 (.slice v1 v2 v3) none (some k) none=some r/\BD h0 r (B.ins.take k):=fun h0 s0=>by
   by_cases hpos:0<B.ins.length
   ·exact zCd s0 hpos h1
   ·have hz:B.ins=[]:=GH (by omega);rw[hz]at h1 s0 |-;have h1:k=0:=by simpa using h1
    subst h1;exact zKg s0
  obtain⟨r,hr,_⟩:=one h2 s2;refine⟨r,hr,fun h0 s0=> ?_⟩;obtain⟨r',hr',sr⟩:=one h0 s0;rw[hr]at hr';cases hr';exact sr
 rcases hn with⟨rfl,hall⟩|⟨hn,hnp,hall⟩
 ·obtain⟨r,hr,sr⟩:=key B.ins.length (QE _) hall (fun q=>absurd q (Nat.lt_irrefl _));refine go ?_;refine Vh hr ?_;refine gr ?_;exact⟨sr,e02⟩
 ·obtain⟨k,rfl⟩:∃ k:Nat,n=k:=⟨n.toNat,by omega⟩;rw[Q7]at hnp hall;obtain⟨r,hr,sr⟩:=key k (by omega) hall (fun _=>hnp);refine go ?_;refine Vh hr ?_;refine gr ?_;exact⟨sr,e02⟩
end Go.Proofs.YtmilpkdhbdgjfaaGreatDoor
set_option maxRecDepth 100000
namespace Go.Am
section
variable {P:Program}{tab:Wv}{t:WI Value}{ds:List Deferred}{rd:Option Nat}{h:WF}{Q:WR->WF->Prop}{l:List WG}{d:Nat}{x y:Operand}
theorem XK{len c i:Nat}{p:Value}{cs:List Value}{h0:WF}(o:WH h0 h p cs)(hi:i<len)(k:WO P tab l ⟨t.set d (zw p (i*c)),ds,rd⟩ h Q)(hx:WQ t x p:=by exact zX)(hy:WQ t y (I (i:Int)):=by exact zX):WO P tab (⟨some d,none,.idxArr len c x y⟩::l) ⟨t,ds,rd⟩ h Q:=
 WO.op _ _ rfl (by unfold WQ at hx hy;exact Vf (P:=P) (ih:=Ex.bot) (c:=c) hx (by rw[hy];rfl) o hi) k
theorem Xi{len c n g:Nat}{row:List Value}(hg:h.get g=some (.row row true 0))(hn:n<=len)(hl:len*c<=row.length)(k:WO P tab l ⟨t.set d (.slice (some ⟨g,0,none⟩) n c),ds,rd⟩ h Q)(hx:WQ t x (.pointer (some ⟨g,0,none⟩)):=by exact zX)(hy:WQ t y (I (n:Int)):=by exact zX):WO P tab (⟨some d,none,.sliceArr len c x none (some y) none⟩::l) ⟨t,ds,rd⟩ h Q:=
 WO.op _ _ rfl (by
  have hx:ev t x=_:=hx;have hy:ev t y=_:=hy;have b1:Nat.ble 0 n=true:=QF (QU _);have b2:Nat.ble n len=true:=QF hn;have b3:Nat.ble (0+len*c) row.length=true:=QF (by omega);have e:BH (I (n:Int))=some n:=rfl;simp only[WN,hx,Yv,hy,e,QH,zv,hg,Ge,Q1,b1,b2,b3,Qf,Qn,cond_true,G7,G9,Nat.sub_zero]) k
theorem UO{m N0 g c k n q off:Nat}{cl:Bool}{K:WP->WR->WF->Prop}{hS X:WF}{row ys:List Value}{w:Value}(hq:X.get q=some (.row row true 0))(hm:m<=q)(s:Wt c (Am.inC X) w k ys)(hc:0<c)(h0:0<k)(hk:k<=n)(hl:off+ys.length<=row.length)(h1:zH ys=true)
  (kk:∀ H,H.n=X.n->(∀ j,j≠q->H.get j=X.get j)->H.get q=some (.row (zO row off ys) true 0)->(Wf X->Wf H)->H.mark=hS.mark->H.wr=hS.wr->K .normal ⟨t.set d (I k),ds,rd⟩ H)
  (hx:WQ t x (.slice (some ⟨q,off,none⟩) n c):=by exact zX) (hy:WQ t y w:=by exact zX):We P tab m N0 [(⟨some d,none,.copy c x y⟩,[])] g cl ⟨t,ds,rd⟩ (Am.inC X) (B5 K hS):=by
 have hx:ev t x=_:=hx;have hy:ev t y=_:=hy;have hs:=ZI s;have hlen:ys.length / c=k:=by rw[s.1];exact Nat.mul_div_cancel _ hc
 have hmin:min (ys.length / c) n=k:=by rw[hlen];exact GD hk
 have htk:ys.take (k*c)=ys:=Qo (by rw[s.1];exact QE _);have hb:Nat.beq k 0=false:=by cases hb:Nat.beq k 0 with
  |false=>rfl
  |true=>exact absurd (QI hb) (by omega)
 have hq':(Am.inC X).get q=some (.row row true 0):=hq;refine We.q rfl ?_;refine WO.op (I k) ((Am.inC X).set q (.row (zO row off ys) true 0)) rfl ?_ (WO.nil (zPT (zDo hm rfl) (QE _) (kk _ rfl (fun j hj=> ?_) ?_ (fun w j hj=> ?_) rfl rfl)))
 ·simp only[WN,hx,hy,hs,hmin,htk,hb,QR,GP,Qf,Qn,cond_true,zBL hq' hl h1,QH]
 ·exact(zT _ _ _ _).trans (QC hj)
 ·exact(zT _ _ _ _).trans (QG rfl)
 ·have hj:X.n<=j:=hj;by_cases e:j=q
  ·subst e;have:=w.lt hq;omega
  ·exact(zT _ _ _ _).trans ((QC e).trans (w j hj))
end
end Go.Am
namespace Go.Proofs.YtmilpkdhbdgjfaaGreatDoor
open Go.Am
def zBP:List Int->Int->Nat
 |[],_=>0
 |x::l,n=>if x=n then 0 else zBP l n+1
theorem zJx:∀ {l:List Int} {n:Int} {k:Nat},k<l.length->l.getD k 0=n->(∀ j,j<k->l.getD j 0≠n)->zBP l n=k
 |[],_,k,hk,_,_=>absurd hk (Qw _)
 |x::l,n,0,_,h,_=>by unfold zBP;rw[QG (by simpa using h)]
 |x::l,n,k+1,hk,h,h2=>by
  unfold zBP;rw[QC (by have:=h2 0 (Nat.succ_pos _);simpa using this),zJx (l:=l) (k:=k) (by simpa using hk) (by simpa using h) (fun j hj=>by have:=h2 (j+1) (by omega);simpa using this)]
def yd(fr:BQ)(x:Wo):Wi:=fr.regs.getD (x.args.getD (zBP x.frm fr.block) 0).toNat default
def B3(l:List Wi)(k:Nat)(ys:List Wi):List Wi:=l.take k++ys++l.drop (k+ys.length)
def Zw(T:List WJ)(F:List Wj)(f b:Int):Int:=((zAR T F f).length:Int)+zz ((zp F f).take b.toNat)
def Bm(F:List Wj)(a:Wa)(b:Int):List Wo:=ZW ((zp F (zJ a).fn).getD b.toNat default).ins
def ZR(T:List WJ)(F:List Wj)(a:Wa)(b:Int):Wa×Int:=
 if ZN a=false then(zM,160)
 else if b<0\/((zp F (zJ a).fn).length:Int)<=b then(zM,2)
 else if((Bm F a b).all fun x=>decide ((zJ a).block∈x.frm))=false then(zM,2)
 else if((Bm F a b).all fun x=>decide (yd (zJ a) x≠v0))=false then(zM,6)
 else(putF a {zJ a with regs:=B3 (zJ a).regs (Zw T F (zJ a).fn b).toNat ((Bm F a b).map (yd (zJ a))),block:=b,pos:=((Bm F a b).length:Int)},0)
abbrev vc(v:Wi):List Value:=[.int .u8 v.kind,I v.n,I v.block,I v.pos]
def Bn(l:List Wi):List Value:=l.flatMap vc
def YA(l:List Wi):List Value:=Bn l++zS [.int .u8 0,I 0,I 0,I 0] (128-l.length)
theorem Zo:∀ l:List Wi,(Bn l).length=l.length*4
 |[]=>rfl
 |v::l=>by
  show(vc v++Bn l).length=_;rw[QT,Zo l];show 4+l.length*4=(l.length+1)*4;omega
theorem zJz:∀ l:List Wi,zH (Bn l)=true
 |[]=>rfl
 |v::l=>zJz l
theorem zCl{l:List Wi}(h:l.length<=128):(YA l).length=512:=by
 unfold YA;rw[QT,Zo,zGH];show _+_*4=_;omega
theorem zLj{l:List Wi}{v:Wi}(h:l.length<128):zO (YA l) (l.length*4) (vc v)=YA (l++[v]):=by
 obtain⟨m,hm⟩:∃ m,128-l.length=m+1:=⟨127-l.length,by omega⟩;unfold zO YA;rw[show Bn (l++[v])=Bn l++vc v by unfold Bn;simp,show 128-(l++[v]).length=m by simp;omega,hm];rw[<-Zo,List.take_left,show(Bn l).length+(vc v).length=(Bn l).length+4 from rfl,<-Gb,List.drop_left];rfl
theorem zIn:∀ {l:List Wi} {i:Nat} {v:Wi},l[i]?=some v->∀ z,((Bn l++z).drop (i*4)).take 4=vc v
 |[],_,_,h,_=>by simp at h
 |w::l,0,v,h,z=>by simp at h;subst h;rfl
 |w::l,i+1,v,h,z=>by
  have h:l[i]?=some v:=by simpa using h
  have:=zIn h z;rw[GX,Nat.add_comm,<-Gb];exact this
theorem zPy{h:WF}{g n:Nat}{l:List Wi}(hg:h.get g=some (.row (YA l) true 0))(hn:g<h.n)(e:n=l.length):Wt 4 h (.slice (some ⟨g,0,none⟩) n 4) n (Bn l):=by
 subst e;refine⟨Zo l,.inr ⟨g,0,YA l,rfl,by unfold zv;rw[hg],?_,hn⟩⟩;rw[yt (by unfold YA;rw[QT,Zo];omega),Qx,<-Zo];unfold YA;rw[List.take_left]
theorem zMN{b q:Nat}{h h':WF}{l ys:List Wi}{k:Nat}{row:List Value}(o:WZ 4 W6 b h (.slice (some ⟨q,0,none⟩) l.length 4) l)(hq:h.get q=some (.row row true 0))(hk:k+ys.length<=l.length)(hn:h'.n=h.n)(hw:h'.get q=some (.row (zO row (k*4) (Bn ys)) true 0)):WZ 4 W6 b h' (.slice (some ⟨q,0,none⟩) l.length 4) (B3 l k ys):=by
 rcases o with⟨e,_⟩|⟨g,cells,D,g1,g2,e,g3,g4,_,_,g7⟩
 ·cases e
 cases e;rw[hq]at g3;cases g3;have hlen:(B3 l k ys).length=l.length:=by unfold B3;simp;omega
 have hrl:row=Bn l:=by
  refine Gx fun j=> ?_;have hrow:row.length=l.length*4:=g4;by_cases hj:j<l.length*4
  ·have hi:j / 4<l.length:=by omega
   have h1:=(g7 (j / 4) l[j / 4] (QB hi)).self;have h2:=zIn (QB hi) [];rw[G5]at h2;have h3:(row.drop (j / 4*4)).take 4=((Bn l).drop (j / 4*4)).take 4:=by rw[h2];exact h1
   have h4:=congrArg (fun z:List Value=>z[j % 4]?) h3;simp only[List.getElem?_take_of_lt (show j % 4<4 by omega),Q8]at h4;rwa [show j / 4*4+j % 4=j by omega]at h4
  ·rw[GW (by omega),GW (by rw[Zo];omega)]
 subst hrl;have hput:zO (Bn l) (k*4) (Bn ys)=Bn (B3 l k ys):=by
  have hA:l=l.take k++l.drop k:=(GG k l).symm;have hB:l.drop k=(l.drop k).take ys.length++l.drop (k+ys.length):=by rw[<-Gb];exact(GG _ _).symm
  have hv:∀ A B:List Wi,Bn (A++B)=Bn A++Bn B:=fun A B=>by unfold Bn;simp
  have l1:(Bn (l.take k)).length=k*4:=by rw[Zo,Ql,GD (by omega)]
  have l2:(Bn ((l.drop k).take ys.length)).length=ys.length*4:=by rw[Zo,Ql,Gk,GD (by omega)]
  unfold zO B3;rw[hv,hv];conv=>lhs;rw[hA,hB,hv,hv]
  rw[Zo,<-l1,List.take_left,show(Bn (l.take k)).length+ys.length*4=(Bn (l.take k)).length+ys.length*4 from rfl,<-Gb,List.drop_left,<-l2,List.drop_left]
 rw[hput]at hw;refine .inr ⟨q,Bn (B3 l k ys),fun _=>False,g1,by omega,by rw[hlen],hw,Zo _,id,fun _ h=>h.elim,fun i x hx _ _ _=> ?_⟩;have:=zIn hx [];rw[G5]at this;exact this
theorem zNB{a:Wa}(l:List Wi)(k:Nat):B3 l k []=l:=by unfold B3;simp
theorem zMg{a:Wa}{i:Nat}(hi:i<a.frs.length):{a with frs:=a.frs.set i {a.frs.getD i default with regs:=(a.frs.getD i default).regs}}=a:=by
 have:a.frs.set i (a.frs.getD i default)=a.frs:=by
  rw[QL,QB hi];exact List.set_getElem_self hi
 show {a with frs:=a.frs.set i (a.frs.getD i default)}=a;rw[this]
theorem U4{b:Nat}{h H:WF}{vf vi:Value}{xs:List Br}{a:Wa}{i:Nat}{x':Br}{fr':BQ}(M:OM b h vf vi xs a)(hi:i<a.frs.length)(oY:WZ 5 B6 b H vf (xs.set i x'))(hk:∀ k,k<h.n->blk vf≠some k->H.get k=h.get k)(hn:h.n<=H.n)
  (hv:x'.v=(xs.getD i default).v) (hr:fr'.regs=(a.frs.getD i default).regs) (rel:zGO x' fr'):OM b H vf vi (xs.set i x') {a with frs:=a.frs.set i fr'}:=by
 have hx:i<xs.length:=by rw[M.lx];exact hi
 have hsx:∀ j,(xs.set i x').getD j default=if j=i then x' else xs.getD j default:=fun j=>yb hx;have hsv:∀ j,((xs.set i x').getD j default).v=(xs.getD j default).v:=fun j=>by
  rw[hsx];split
  ·rename_i e;rw[e];exact hv
  ·rfl
 have hsf:∀ j,(a.frs.set i fr').getD j default=if j=i then fr' else a.frs.getD j default:=fun j=>yb hi;have hsr:∀ j,((a.frs.set i fr').getD j default).regs=(a.frs.getD j default).regs:=fun j=>by
  rw[hsf];split
  ·rename_i e;rw[e];exact hr
  ·rfl
 have u:UpB vf h H:=⟨hn,hk⟩;refine⟨oY,by simp[M.lx],fun j hj=> ?_,fun j hj=> ?_,fun j k hj hk=> ?_,fun j hj=> ?_,let⟨hb,h1,h2⟩:=M.i;⟨hb,h1,h2.upB u M.offI.1.symm⟩,⟨M.offI.1,fun j hj=> ?_⟩,QN M.bn hn,M.nm,by simpa using M.lf,M.li,fun j hj=> ?_⟩
 ·rw[hsx,hsf];split
  ·exact rel
  ·exact M.rel j (by simpa using hj)
 ·rw[hsv,hsr];exact(M.rg j (by simpa using hj)).upB (fun _ _ _ _ r=>r) u (M.offF j (by simpa using hj))
 ·rw[hsv,hsv];exact M.off j k hj (by simpa using hk)
 ·rw[hsv];exact M.offF j (by simpa using hj)
 ·rw[hsv];exact M.offI.2 j (by simpa using hj)
 ·rw[hsr];exact M.lr j (by simpa using hj)
theorem zHD{L:List Wl}{i:Nat}(h:i<L.length):zz (L.take i)+((L.getD i default).ins.length:Int)<=zz L:=by
 have:=zCQ L (i+1);rw[GE,QB h]at this;unfold zz at this |-;simp only[Option.toList_some,GU,Q6,Gl,List.sum_append,List.sum_cons,List.sum_nil]at this;rw[QL,QB h];simpa using this
section
variable {h:WF}{vt vf:Value}{T:List WJ}{F:List Wj}
theorem zKq(E:B4 h vt vf T F)(hp:yl T F=0){f:Int}(hf:0<=f/\f<(F.length:Int))(b k:Int)(hb:0<=b/\b<((zp F f).length:Int))(hk:0<=k/\k<(((zp F f).getD b.toNat default).ins.length:Int)):
  WC Tryz.prog tb 41 [.agg #[vt,vf],I f,I b,I k] h fun r h'=>r=.tuple #[I (Zw T F f b+k),I 0]/\WK h h':=by
 have hF:=E.sm.funcs;have hask:yY T F f=(((T.getD (F.getD f.toNat default).sig.toNat default).parts.length:Int),0):=by
  unfold yY;rw[QC (fun e=>e hp),QG (by unfold za;simp;omega)]
 obtain⟨f0,f1,hp,hask,-,p0,p1,hlen,hmany,hins,hfn⟩:=(zOf (f:=f) E.sm (by rw[hask])).1;have hB:=E.sm.blocks _ (zL (l:=F) (i:=f.toNat) (by omega));have hI:=E.sm.ins _ (zL (l:=F) (i:=f.toNat) (by omega));unfold Zw zAR;unfold zp at hb hk |-;refine en ?_;refine VG ?_;intro p h1 e1 o1;have E1:=E.ext e1;refine go ?_;refine VA (zHT h1 vt vf T F f E1.tt E1.hm E1.sm E1.st E1.sf) ?_;rintro _ h2 ⟨rfl,e2⟩;rw[hask];have o2:=o1.ext e2;have E2:=E1.ext e2;have sf2:=E2.sf;obtain⟨ta,tn,tk,rfl⟩:=zN E.st;obtain⟨ga,gn,gk,rfl⟩:=zN E.sf;obtain⟨cs,⟨vb,rfl,sb,hlb⟩,pc,hs⟩:=yo (i:=f.toNat) sf2 (by omega);obtain⟨ba,bn,bk,rfl⟩:=zN sb;generalize(T.getD (F.getD f.toNat default).sig.toNat default).parts.length=par at *;generalize(F.getD f.toNat default).blocks=L at *;obtain⟨csB,⟨vi,rfl,si,hli⟩,pcB,hsB⟩:=yo (i:=b.toNat) sb (by omega);obtain⟨ia,iN,ik,rfl⟩:=zN si;obtain⟨vs,hvs,sbs⟩:=zCd (i:=b.toNat) sb (by omega) (by omega);refine go ?_;refine VA (yj h2 b L.length) ?_;rintro _ _ ⟨rfl,rfl⟩;rw[show za b L.length=true by unfold za;rw[QX hb.1,QX hb.2];rfl];refine go ?_;refine VA (yj h2 k (L.getD b.toNat default).ins.length) ?_;rintro _ _ ⟨rfl,rfl⟩;rw[show za k (L.getD b.toNat default).ins.length=true by unfold za;rw[QX hk.1,QX hk.2];rfl];refine go ?_;have hbt:(b.toNat:Int)=b:=by omega
 refine Vh (i:=b.toNat) (hy:=by rw[hbt];exact zX) hvs ?_;have hlt:(L.take b.toNat).length<=1000:=by rw[Ql];omega
 have hIt:∀ x∈L.take b.toNat,x.ins.length<=1000:=fun x hx=>hI x (JH hx);obtain⟨va,vn,vk,rfl⟩:=zN sbs;refine go ?_;refine VA (zDh h2 0 _ _ sbs hlt hIt) ?_;rintro _ h3 ⟨rfl,e3⟩;have hmt:=Zu (L.take b.toNat);have hmt2:=zCQ L b.toNat;refine gr ?_;exact⟨rfl,e1.trans (e2.trans e3)⟩
end
end Go.Proofs.YtmilpkdhbdgjfaaGreatDoor
