/- Walks of functions, plain laws; proves no statement. -/
import Derived.Test.YtmilpkdhbdgjfaaGreatDoorJe
set_option linter.all false
set_option maxHeartbeats 2000000
set_option maxRecDepth 100000
namespace Go.Proofs.YtmilpkdhbdgjfaaGreatDoor
open Go.Am
theorem zP2{hB h:WF}{cells:List Value}{A:Nat->List Int}(hl:cells.length=16)(hall:∀ j,j<16->Wb hB h (cells.getD j undef) (A j)):zH cells=true:=by
 unfold zH;rw[QV];intro x hx;obtain⟨j,hj,rfl⟩:=JI.1 hx;have e:cells.getD j undef=cells[j]:=by simp[List.getD,QB hj]
 have:=hall j (by omega);rw[e]at this;rcases this with⟨h,_⟩|⟨_,_,_,h,_⟩<;>rw[h]
theorem zDE(l:List Int):Yb (.agg (l.map I).toArray)=true:=by
 show(l.map I).all yS=true;rw[QV];intro x hx;obtain⟨n,_,rfl⟩:=GQ.1 hx;rfl
theorem zQI(h:WF)(vt vf:Value)(T:List WJ)(F:List Wj)(f:Int)(tt:By h)(hm:h.mark<=h.n)(sm:BP T F)(st:Bc h vt T)(sf:W7 h vf F)(hb:(zF T F f 0).2=0):
  WC Tryz.prog tb 204 [.agg #[vt,vf],I f] h fun r h'=>(∃ p xs,r=p/\WH h h' p (xs.map I)/\Rul (W0 (zF T F f 0).1) xs)/\WK h h':=by
 obtain⟨_,hpos,hLB,hre⟩:=ZQ hb;have hreg:=zBE hre;obtain⟨hlen,hin⟩:=Zd hb;have hE:=zHO hb;obtain⟨law1,law2,⟨l0,law3⟩,law4,law5,law6,law7⟩:=zBI hb;have hnd:=zCz hb;have hpar:=zE4 hb;have hrpo:∀ {pos:Int->Int},(∀ i,i<(zb T F f).1.length->pos ((zb T F f).1.getD i 0)=i)->Rpo (W0 (zF T F f 0).1) pos:=fun hp=>zLn hb hp;have hmem:∀ c,Wr (W0 (zF T F f 0).1) 0 c->∃ i,i<(zb T F f).1.length/\(zb T F f).1.getD i 0=c:=fun c w=>zAt (law4 c ((Yj hb).2 w));have hway:∀ i,i<(zb T F f).1.length->Wr (W0 (zF T F f 0).1) 0 ((zb T F f).1.getD i 0):=fun i=>by
  induction i using Nat.strongRecOn with
  |_ i ih=>
   intro hi;by_cases e:(zb T F f).1.getD i 0=0
   ·rw[e];exact .here
   ·obtain⟨j,hj,hm⟩:=hpar i hi e;exact .step (ih j hj (by omega)) hm
 have h00:(zb T F f).1.getD 0 0=0:=by rw[law3];rfl
 have hO1:0<(zb T F f).1.length:=by rw[law3];simp
 have hbnd:∀ c,Wr (W0 (zF T F f 0).1) 0 c->0<=c/\c<((zF T F f 0).1.length:Int):=fun c w=>by
  induction w with
  |here=>exact⟨Qh _,hpos⟩
  |step _ hc ih=>exact hin _ ih _ hc
 obtain⟨K,hK⟩:=zF2 hin (by omega);have oerr:(zb T F f).2=0:=by unfold zb;rw[QC (by rw[hb];exact fun e=>e rfl)]
 clear law1 law3 law4 law5 law7;replace law6:=Wu.mk law6;replace hpar:=Wu.mk hpar;replace hrpo:Wu (∀ {pos:Int->Int},(∀ i,i<(zb T F f).1.length->pos ((zb T F f).1.getD i 0)=i)->Rpo (W0 (zF T F f 0).1) pos):=Wu.mk hrpo;replace hmem:=Wu.mk hmem;replace hway:=Wu.mk hway;replace hbnd:=Wu.mk hbnd;replace hK:=Wu.mk hK;replace hin:=Wu.mk hin;refine en ?_;refine VG ?_;intro p2 h1 e1 o1;have o1:WH h h1 p2 [vt,vf]:=o1;refine go ?_;refine XW ?_;refine go ?_;refine VA (zNT h1 vt vf T F f (tt.ext e1) (yN e1 hm) sm (st.ext e1) (W7.ext sf e1)) ?_;rintro _ h2 ⟨⟨orv,rfl,oor⟩,e2⟩;have e02:=e1.trans e2;have o2:=o1.ext e2;have sf2:=W7.ext sf e02;have hF:=sm.funcs;obtain⟨csF,⟨vb,rfl,sb,hlb⟩,pcF,hsF⟩:=yo (i:=f.toNat) sf2 (by omega);rw[<-hLB]at sb;rw[oerr];refine go ?_;refine VA (zMB h2 (yN e02 hm) vb (zF T F f 0).1 sb hE) ?_;rintro _ h3 ⟨⟨cells,rfl,hcl,hca⟩,e3⟩;have e03:=e02.trans e3;refine go ?_;refine VJ ?_;intro p7 h4 e4 o4;have e04:=e03.trans e4;refine VF (cs:=cells) o4 e4 ?_ (hn:=hcl) (h1:=zP2 hcl hca);intro hb0 e5 o5 u5;have eb:=e03.trans e5;have sor:Wd hb0 orv (zb T F f).1:=oor.sl.ext (e3.trans e5);have spr:Wu (∀ j,j<16->Wd hb0 (cells.getD j undef) (zV (zF T F f 0).1 (j:Int) (zF T F f 0).1.length)):=⟨fun j hj=>(hca j hj).sl.ext e5⟩;have o7:WH h hb0 p7 cells:=o5.since e03;obtain⟨g7,rfl⟩:∃ g7,p7=.pointer (some ⟨g7,0,none⟩):=let⟨g,_,_,e,_⟩:=o7;⟨g,e⟩;have oorN:Wb h hb0 orv (zb T F f).1:=(oor.ext (e3.trans e5)).since e1;clear o4 o5 u5 pcF hsF sb sf2 hca oor;generalize hO:(zb T F f).1=O at *;generalize hnx:W0 (zF T F f 0).1=nx at *;refine go ?_;refine VG ?_;intro p8 h6 e6 o6;obtain⟨g8,hg8,hg8',rfl⟩:∃ g8,hb0.n<=g8/\g8<h6.n/\p8=.pointer (some ⟨g8,0,none⟩):=let⟨g,a,b,c,_⟩:=o6;⟨g,a,b,c⟩;have o8:WH hb0 h6 (.pointer (some ⟨g8,0,none⟩)) ((List.replicate 32 (0:Int)).map I):=o6;clear o6;have hmk:hb0.mark<=hb0.n:=yN eb hm;refine go ?_;refine VE (fun k=>17-k) (fun(k:Nat) t h'=>zC t 33=I (k:Int)/\k<=16/\WK hb0 h'/\∃ xs:List Int,WH hb0 h' (.pointer (some ⟨g8,0,none⟩)) (xs.map I)/\xs.length=32/\Wu (∀ j,j<k->xs.getD j 0= -1/\xs.getD (16+j) 0= -1)) 0 ?_ ?_
 ·exact⟨WM,by omega,e6,_,o8,by simp,⟨fun j hj=>by omega⟩⟩
 rintro k t h7 hsame ⟨s33,hk,e7,xs,o9,hlx,hx⟩;refine go ?_;refine VD (fun hc=> ?_) (fun hc=> ?_)<;>simp only[DB]at hc
 ·have hk':k<16:=by omega
  refine go ?_;refine VC 0 rfl rfl ?_;have oX:WH hb0 (inC (zB 0 h7)) (.pointer (some ⟨g8,0,none⟩)) (xs.map I):=o9;refine Wc ?_;refine UX (j:=k) oX (by rw[e7.mark];exact hmk) (by omega) ?_;intro X1 n1 oX1 u1 w1;have oY1:WH hb0 (inC X1) (.pointer (some ⟨g8,0,none⟩)) ((xs.set k (-1)).map I):=oX1;have hl1:(xs.set k (-1)).length=32:=by rw[GL];exact hlx
  refine Wc ?_;refine UN (j:=16+k) oX1 e7 (by rw[e7.mark];exact hmk) n1 u1 w1 (by rw[GL];omega) ?_;intro h8 e8 o8' u8;refine go ?_;refine zA (k+1) (by omega) ⟨WM,by omega,e8,_,o8',by simp[hlx],⟨fun j hj=> ?_⟩⟩;simp only[ZF (show 16+k<(xs.set k (-1)).length by omega),ZF (show k<xs.length by omega)];by_cases e:j=k
  ·rw[QC (by omega),QG e,QG (by omega)];exact⟨rfl,rfl⟩
  ·rw[QC (by omega),QC e,QC (by omega),QC (by omega)];exact hx.out j (by omega)
 have hkk:k=16:=by omega
 subst hkk;replace hx:Wu (∀ j,j<32->xs.getD j 0= -1):=⟨fun j hj=>by
  by_cases h:j<16
  ·exact(hx.out j h).1
  ·have:=(hx.out (j-16) (by omega)).2;rw[show 16+(j-16)=j by omega]at this;exact this⟩
 refine go ?_;have osl7:Wd h7 orv O:=sor.ext e7;have hmemO:∀ i,i<O.length->O.getD i 0∈O:=fun i hi=>by rw[QL,QB hi];exact List.getElem_mem hi
 have hOb:∀ i,i<O.length->0<=O.getD i 0/\O.getD i 0<16:=fun i hi=>by have:=law6.out _ (hmemO i hi);omega
 replace hmemO:=Wu.mk hmemO;replace hOb:=Wu.mk hOb;refine VE (fun k=>O.length+1-k) (fun(k:Nat) t h'=>zC t 49=I (k:Int)/\k<=O.length/\WK hb0 h'/\∃ xs:List Int,WH hb0 h' (.pointer (some ⟨g8,0,none⟩)) (xs.map I)/\xs.length=32/\Wu ((∀ j,j<16->xs.getD j 0= -1)/\∀ i,i<k->xs.getD (16+(O.getD i 0).toNat) 0=i)) 0 ?_ ?_
 ·exact⟨WM,by omega,e7,_,o9,hlx,⟨fun j hj=>hx.out j (by omega),fun i hi=>by omega⟩⟩
 clear e7 o9 osl7;rintro k t2 h7 hsame2 ⟨s49,hk,e7,xs,o9,hlx,hx⟩;have osl7:Wd h7 orv O:=sor.ext e7;refine go ?_;refine VD (fun hc=> ?_) (fun hc=> ?_)<;>simp only[DB]at hc
 ·have hk':k<O.length:=by omega
  obtain⟨hb1,hb2⟩:=hOb.out k hk';refine go ?_;refine V7 (j:=16+(O.getD k 0).toNat) o9 e7 (by omega) ?_;intro h8 e8 o8' u8;refine go ?_;refine zA (k+1) (by omega) ⟨WM,by omega,e8,_,o8',by simp[hlx],⟨fun j hj=> ?_,fun i hi=> ?_⟩⟩
  ·rw[ZF (by omega),QC (by omega)];exact hx.out.1 j hj
  ·rw[ZF (by omega)];obtain⟨hb3,hb4⟩:=hOb.out i (by omega);by_cases e:i=k
   ·subst e;rw[QG rfl]
   ·rw[QC (fun e2=>e (Yn hnd (by omega) hk' (by omega)))];exact hx.out.2 i (by omega)
 have hkk:k=O.length:=by omega
 subst hkk;refine go ?_;refine V7 (j:=0) o9 e7 (by omega) ?_;clear e7;intro h8 e8 o8' u8;obtain⟨xs0,hxs0⟩:∃ l,l=xs.set 0 (0:Int):=⟨_,rfl⟩;rw[<-hxs0]at o8';have hl0:xs0.length=32:=by rw[hxs0];simp[hlx]
 have hp0:∀ j,j<16->xs0.getD j 0=if j=0 then 0 else -1:=fun j hj=>by
  rw[hxs0,ZF (by omega)];by_cases e:j=0
  ·rw[QG e,QG e]
  ·rw[QC e,QC e];exact hx.out.1 j hj
 have hq0:∀ i,i<O.length->xs0.getD (16+(O.getD i 0).toNat) 0=i:=fun i hi=>by
  rw[hxs0,ZF (by omega),QC (by omega)];exact hx.out.2 i hi
 obtain⟨qs,hqs⟩:∃ l,l=xs0.drop 16:=⟨_,rfl⟩;have r0:Rnd nx qs xs0 0:=by
  have hz:pO xs0 0=0:=(hp0 0 (by omega)).trans (QG rfl);have rp:Rpo nx (fun b=>qO xs0 b):=hrpo.out fun i hi=>hq0 i hi;refine⟨⟨hl0,rp,?_,fun c w=>by have:=hbnd.out c w;omega⟩,hqs.symm,?_,?_,?_⟩
  ·have hm1:∀ b,Wr nx 0 b->b≠0->pO xs0 b= -1:=fun b w hb=>by
    have:=hbnd.out b w;exact(hp0 b.toNat (by omega)).trans (QC (by omega))
   exact⟨hz,fun b w hb hp=>absurd (hm1 b w hb) hp,fun b w hb hp=>absurd (hm1 b w hb) hp⟩
  ·intro c x hx;cases hx with
   |here h=>exact zH9 (nx:=nx) (p:=fun b=>pO xs0 b) (k:=0) hz x (.here h)
  ·intro c h1 h2 h3;exact(hp0 c.toNat (by omega)).trans (QC (fun e=>h3 (by rw[show c=0 by omega];exact .here)))
  ·intro h;omega
 obtain⟨vt',hrt,stl⟩:=zNN oorN hO1;have hqO:∀ {l:List Int},l.drop 16=qs->∀ i,i<O.length->qO l (O.getD i 0)=i:=fun e i hi=>by
  rw[zJr,e,hqs,<-zJr];exact hq0 i hi
 replace hqO:Wu (∀ {l:List Int},l.drop 16=qs->∀ i,i<O.length->qO l (O.getD i 0)=i):=Wu.mk hqO;clear hp0 hq0 hqs hxs0 hx;refine go ?_;refine VE (fun p=>max K 1+1-p.1) (fun(p:Nat×List Int) t h'=>WK hb0 h'/\WH hb0 h' (.pointer (some ⟨g8,0,none⟩)) (p.2.map I)/\p.1<=max K 1/\Wu (Rnd nx qs p.2 p.1)) (0,xs0) ?_ ?_
 ·exact⟨e8,o8',QU _,⟨r0⟩⟩
 clear e8 o8' u8 r0 o9 osl7;rintro⟨k,xs⟩ t3 h9 hsame3 ⟨e9,o9,hkK,⟨r⟩⟩;simp only at o9 hkK r;have hlx:=r.dm.len;replace r:=Wu.mk r;refine go ?_;refine Vp (j:=0) (n:=16) o9 (by omega) ?_;refine go ?_;refine VJ ?_;intro p12 h10 e10 o10;refine go ?_;refine VF (cs:=((xs.drop 0).take 16).map I) o10 e10 ?_ (hn:=by simp;omega) (h1:=zB9 _);intro h11 e11 o11 u11;have o11:WH hb0 h11 p12 (((xs.drop 0).take 16).map I):=o11.since e9;obtain⟨g12,hg12,rfl⟩:∃ g12,h9.n<=g12/\p12=.pointer (some ⟨g12,0,none⟩):=let⟨g,a,b,c,_⟩:=o10;⟨g,a,c⟩;have h98:g8<h9.n:=by obtain⟨q,q1,q2,q3,_⟩:=o9;cases q3;exact q2
 have hne:Value.pointer (some ⟨g8,0,none⟩)≠ .pointer (some ⟨g12,0,none⟩):=fun e=>by cases e;omega
 have e11':=e9.trans e11;have o9:=o9.ext e11;have stl11:Wd h11 vt' (O.drop 1):=stl.ext e11';refine go ?_;refine Vi (i:=1) hrt ?_ (hy:=rfl);refine go ?_;have hdl:(O.drop 1).length=O.length-1:=by simp
 refine VE (fun p=>O.length-p.1) (fun(p:Nat×List Int) t h'=>zC t 72=I (p.1:Int)/\p.1+1<=O.length/\WK hb0 h'/\WH hb0 h' (.pointer (some ⟨g8,0,none⟩)) (p.2.map I)/\WH hb0 h' (.pointer (some ⟨g12,0,none⟩)) (((xs.drop 0).take 16).map I)/\Wu (Md nx O qs xs p.2 k (p.1+1))) (0,xs) ?_ ?_
 ·exact⟨WM,by omega,e11',o9,o11,⟨Xx r.out h00⟩⟩
 clear e11' o9 o11 stl11;rintro⟨m,ys⟩ t4 h12 hsame4 ⟨s72,hm72,e12,o12,ow12,g⟩;simp only at s72 hm72 o12 g;have hly:=g.out.dm.len;have stl12:Wd h12 vt' (O.drop 1):=stl.ext e12;refine go ?_;refine VD (fun hc=> ?_) (fun hc=> ?_)<;>simp only[DB]at hc
 ·have hm':m+1<O.length:=by omega
  have hmd:m<(O.drop 1).length:=by omega
  have hdg:(O.drop 1).getD m 0=O.getD (m+1) 0:=by simp[List.getD,Nat.add_comm]
  obtain⟨hb1,hb2⟩:=hOb.out (m+1) hm';have hwb:=hway.out (m+1) hm';obtain⟨ja,hja,hjb⟩:=hpar.out (m+1) hm' (fun e=>by have:=Yn hnd hm' hO1 (e.trans h00.symm);omega);have hbne:O.getD (m+1) 0≠0:=fun e=>by have:=Yn hnd hm' hO1 (e.trans h00.symm);omega
  refine go ?_;rw[hdg];generalize hbO:O.getD (m+1) 0=b at *;have o7b:WH h h12 (.pointer (some ⟨g7,0,none⟩)) cells:=o7.ext e12;have hb16:b.toNat<16:=by omega
  obtain⟨A,hA⟩:∃ A,zV (zF T F f 0).1 b (zF T F f 0).1.length=A:=⟨_,rfl⟩;have sA:Wd h12 (cells.getD b.toNat undef) A:=by
   have:=(spr.out b.toNat hb16).ext e12;rw[show((b.toNat:Nat):Int)=b by omega,hA]at this;exact this
  have hA16:A.length<=16:=by rw[<-hA];have:=zAk (zF T F f 0).1 b (zF T F f 0).1.length;omega
  have hAin:Wu (∀ j,j<A.length->(0<=A.getD j 0/\A.getD j 0<16)/\b∈nx (A.getD j 0)):=⟨fun j hj=>by
   have:=zMQ hA hj;rw[hnx]at this;exact⟨by omega,this.2⟩⟩
  refine go ?_;refine XH (i:=b.toNat) o7b (by omega) ?_;refine go ?_;have dmy:Wu (Dm nx ys):=⟨g.out.dm⟩;have huy:Wu (∀ a,0<=a->a<16->pO ys a≠ -1->Wr nx 0 a):=⟨fun a h1 h2 h3=>Classical.byContradiction fun h4=>h3 (g.out.un a h1 h2 h4)⟩;refine VE (fun p=>A.length-p.1) (fun(p:Nat×Int) t h'=>h12=h'/\zC t 80=I (p.1:Int)/\p.1<=A.length/\zC t 15=I p.2/\Wu (Bst nx ys b A p.1 p.2)) (0,-1) ?_ ?_
  ·exact⟨rfl,WM,by omega,WM,⟨.inl ⟨rfl,fun i hi=>by omega⟩⟩⟩
  rintro⟨j,v⟩ t5 _ hsame5 ⟨rfl,s80,hj,s15,bst⟩;simp only at s80 hj s15 bst;refine go ?_;refine VD (fun hd=> ?_) (fun hd=> ?_)<;>simp only[DB]at hd
  ·have hj':j<A.length:=by omega
   obtain⟨⟨ha1,ha2⟩,hab⟩:=hAin.out j hj';refine go ?_;generalize haA:A.getD j 0=a at *;refine VD (fun hq=> ?_) (fun hq=> ?_)<;>simp only[DB]at hq
   ·refine go ?_;refine zA (j+1,v) (by show A.length-(j+1)<A.length-j;omega) ⟨rfl,WM,by show j+1<=_;omega,WM,⟨bst.out.skip (by rw[haA];exact hq)⟩⟩
   have wa:=huy.out a ha1 ha2 hq;refine go ?_;refine VD (fun hv=> ?_) (fun hv=> ?_)<;>simp only[DB]at hv
   ·have hv:v= -1:=hv;subst hv;refine go ?_;refine zA (j+1,a) (by show A.length-(j+1)<A.length-j;omega) ⟨rfl,WM,by show j+1<=_;omega,WM,⟨?_⟩⟩;have:=bst.out.first (by rw[haA];exact wa) (by rw[haA];omega) (by rw[haA];exact hab) (by rw[haA];exact hq)
    rw[haA]at this;exact this
   have hv:v≠ -1:=hv;have wv:Wr nx 0 v/\pO ys v≠ -1:=by
    rcases bst.out with⟨e,_⟩|⟨_,e1,e2,_⟩
    ·exact absurd e hv
    ·exact⟨e1,e2⟩
   refine go ?_;refine VA (zOd hb0 h12 (.pointer (some ⟨g8,0,none⟩)) nx ys v a o12 dmy wv.1 wa wv.2 hq) ?_;rintro _ _ ⟨⟨mm,rfl,hmt⟩,rfl⟩;refine go ?_;have hmm:=dmy.out.bnd mm hmt.way;refine zA (j+1,mm) (by show A.length-(j+1)<A.length-j;omega) ⟨rfl,WM,by show j+1<=_;omega,WM,⟨?_⟩⟩;exact bst.out.meet hv (by omega) (by rw[haA];exact hab) (by rw[haA];exact hmt)
  have hjj:j=A.length:=by omega
  subst hjj;have bt:Best nx (fun b=>qO ys b) (fun b=>pO ys b) b v:=by
   have wp:=hway.out ja (by omega);refine bst.out.best dmy.out (fun a wa hab=> ?_) wp hjb (g.out.pre ja hja).2 ?_
   ·refine zAt ?_;rw[<-hA];exact zDG.2 ⟨hbnd.out a wa,by rw[hnx];exact hab⟩
   ·rw[hqO.out g.out.qs ja (by omega),<-hbO,hqO.out g.out.qs (m+1) hm'];omega
  refine go ?_;refine V7 (j:=b.toNat) o12 e12 (by omega) ?_;intro h13 e13 o13 u13;have ow13:=zMJ ow12 u13 hne;refine go ?_;refine zA (m+1,ys.set b.toNat v) (by show O.length-(m+1)<O.length-m;omega) ⟨WM,by show m+1+1<=_;omega,e13,o13,ow13,⟨?_⟩⟩;have:=g.out.step (v:=v) hnd hm' (by omega) (by rw[hbO];exact hbne) (by rw[hbO];exact hwb) (by rw[hbO];exact bt) hlx;rw[hbO]at this;exact this
 have hmm:m+1=O.length:=by omega
 have g:Wu (Md nx O qs xs ys k O.length):=by rw[<-hmm];exact g
 clear stl12 hm72 hc;refine go ?_;refine Vp (j:=0) (n:=16) ow12 (by simp;omega) ?_ (hx:=by show WQ _ _ (.pointer (some ⟨g12,0,none⟩));exact zX);refine go ?_;refine Vp (j:=0) (n:=16) o12 (by omega) ?_;refine Vl (zOh (n:=16) (xs:=(((xs.drop 0).take 16).drop 0).take 16) (ys:=(ys.drop 0).take 16) (by kernel_rfl) (by simp;omega) (by simp;omega)) ?_ (hc:=by rw[zDE,zDE];rfl);have hde:decide (((((xs.drop 0).take 16).drop 0).take 16)=((ys.drop 0).take 16))=decide (xs=ys):=decide_eq_decide.2 ⟨fun e=>by
  simp only[Qx,G3,Nat.min_self]at e;exact zLQ e (r.out.qs.trans g.out.qs.symm),fun e=>by rw[e];simp[G3]⟩
 rw[hde];have rd:=g.out.done hmem.out;refine go ?_;refine VD (fun hd=> ?_) (fun hd=> ?_)<;>simp only[DB]at hd
 ·have hd:xs=ys:=hd;subst hd;refine go ?_;refine zG7 ?_;refine rt ?_;exact⟨⟨_,xs,rfl,(o12.since eb),zPn g.out hmem.out h00 fun b w=>by obtain⟨i,hi,e⟩:=hmem.out b w;rw[<-e,hqO.out g.out.qs i hi];omega⟩,eb.trans e12⟩
 have hkk:k<max K 1:=by
  refine Nat.lt_of_not_le fun hle=>hd ?_;exact(zJa r.out g.out hmem.out h00 hbnd.out hK.out (by omega) (by omega) hlx hnd hway.out).symm
 refine go ?_;exact zA (k+1,ys) (by show max K 1+1-(k+1)<max K 1+1-k;omega) ⟨e12,o12,by show k+1<=_;omega,⟨rd⟩⟩
end Go.Proofs.YtmilpkdhbdgjfaaGreatDoor
set_option maxRecDepth 100000
namespace Go.Proofs.YtmilpkdhbdgjfaaGreatDoor
open Go.Am
def nxF(T:List WJ)(F:List Wj)(f:Int):Int->List Int:=W0 (zF T F f 0).1
def Yx(T:List WJ)(F:List Wj)(f b:Int):Int:=
 if(zF T F f 0).2≠0 then(zF T F f 0).2 else if b<0\/((zF T F f 0).1.length:Int)<=b then 2 else if b∈(yO T F f).1 then 0 else 6
theorem zOv{T:List WJ}{F:List Wj}{f b:Int}(h:Yx T F f b=0):(zF T F f 0).2=0/\Wr (nxF T F f) 0 b:=by
 unfold Yx at h;split at h
 ·rename_i hb;exact absurd h hb
 ·rename_i hb;have hb:(zF T F f 0).2=0:=by simpa using hb
  split at h
  ·cases h
  ·split at h
   ·rename_i hm;exact⟨hb,(Yj hb).1 hm⟩
   ·cases h
structure B4(h:WF)(vt vf:Value)(T:List WJ)(F:List Wj):Prop where
 tt:By h
 hm:h.mark<=h.n
 sm:BP T F
 st:Bc h vt T
 sf:W7 h vf F
theorem B4.ext{h h':WF}{vt vf:Value}{T:List WJ}{F:List Wj}(E:B4 h vt vf T F)(e:WK h h'):B4 h' vt vf T F:=
 ⟨E.tt.ext e,yN e E.hm,E.sm,E.st.ext e,W7.ext E.sf e⟩
theorem zLE(h:WF)(vt vf:Value)(T:List WJ)(F:List Wj)(f b:Int)(E:B4 h vt vf T F):
  WC Tryz.prog tb 171 [.agg #[vt,vf],I f,I b] h fun r h'=>(∃ p,r=.tuple #[p,I (Yx T F f b)]/\(Yx T F f b=0->∃ xs,WH h h' p (xs.map I)/\Rul (nxF T F f) xs))/\WK h h':=by
 refine en ?_;refine VG ?_;intro p h1 e1 o1;have E1:=E.ext e1;refine go ?_;refine VA (zHo h1 vt vf T F f E1.tt E1.hm E1.sm E1.st E1.sf) ?_;rintro _ h2 ⟨⟨rev,rfl,ore⟩,e2⟩;have e02:=e1.trans e2;have E2:=E1.ext e2;have o2:=o1.ext e2;have sre:=ore.sl;rw[zFL];by_cases hb:(zF T F f 0).2=0;case neg=>
  have hb':(zF T F f 0).2≠0:=hb;have ha:Yx T F f b=(zF T F f 0).2:=by unfold Yx;rw[QG hb]
  refine gr ?_;rw[ha];exact⟨⟨_,rfl,fun h=>absurd h hb⟩,e02⟩
 obtain⟨_,hpos,hLB,hre⟩:=ZQ hb;have hreg:=zBE hre;obtain⟨hlen,hin⟩:=Zd hb;rw[hb];have hF:=E.sm.funcs;have sf2:=E2.sf;refine go ?_;by_cases hb0:b<0
 ·have ha:Yx T F f b=2:=by unfold Yx;rw[QC (by rw[hb];exact fun e=>e rfl),QG (.inl hb0)]
  refine gr ?_;rw[ha];exact⟨⟨_,rfl,fun h=>by cases h⟩,e02⟩
 obtain⟨csF,⟨vb,rfl,sb,hlb⟩,pcF,hsF⟩:=yo (i:=f.toNat) sf2 (by omega);rw[<-hLB]at sb;by_cases hb1:((zF T F f 0).1.length:Int)<=b
 ·have ha:Yx T F f b=2:=by unfold Yx;rw[QC (by rw[hb];exact fun e=>e rfl),QG (.inr hb1)]
  refine gr ?_;rw[ha];exact⟨⟨_,rfl,fun h=>by cases h⟩,e02⟩
 have hml:((yO T F f).1.length:Int)<=9223372036854775807:=by
  obtain⟨l1,l2,_⟩:=zBI hb;omega
 refine go ?_;refine VA (Y5 h2 rev (yO T F f).1 b sre hml) ?_;rintro _ _ ⟨rfl,rfl⟩;by_cases hbr:b∈(yO T F f).1;case neg=>
  have ha:Yx T F f b=6:=by unfold Yx;rw[QC (by rw[hb];exact fun e=>e rfl),QC (by omega),QC hbr]
  refine gr ?_;rw[ha];exact⟨⟨_,rfl,fun h=>by cases h⟩,e02⟩
 have ha:Yx T F f b=0:=by unfold Yx;rw[QC (by rw[hb];exact fun e=>e rfl),QC (by omega),QG hbr]
 refine go ?_;refine VA (zQI h2 vt vf T F f E2.tt E2.hm E2.sm E2.st E2.sf hb) ?_;rintro _ h3 ⟨⟨q,xs,rfl,oq,hR⟩,e3⟩;refine gr ?_;rw[ha];exact⟨⟨_,rfl,fun _=>⟨xs,oq.since e02,hR⟩⟩,e02.trans e3⟩
noncomputable def upL(xs:List Int)(b:Int):Int:=if b=0 then -1 else pO xs b
noncomputable def zHR(nx:Int->List Int)(c:Int):Nat:=open Classical in (List.range 16).countP fun(j:Nat)=>decide (BM nx (j:Int) c)
theorem zOO(nx:Int->List Int)(c:Int):zHR nx c<=16:=by
 classical
 unfold zHR;exact QN List.countP_le_length (by simp)
theorem zLv{nx:Int->List Int}{c:Int}(h:0<=c/\c<16):1<=zHR nx c:=by
 classical
 unfold zHR;refine List.countP_pos_iff.2 ⟨c.toNat,GT.2 (by omega),?_⟩;show decide (BM nx ((c.toNat:Nat):Int) c)=true;rw[Gj,show((c.toNat:Nat):Int)=c by omega];exact BM.self nx c
theorem zOU{nx:Int->List Int}{c n:Int}(h:0<=c/\c<16)(hs:∀ a,BM nx a n->BM nx a c)(hn:¬BM nx c n):zHR nx n<zHR nx c:=by
 classical
 unfold zHR;have hc:((c.toNat:Nat):Int)=c:=by omega
 refine zEY (p:=fun(j:Nat)=>decide (BM nx (j:Int) c)) (q:=fun(j:Nat)=>decide (BM nx (j:Int) n)) (i:=c.toNat) (QX (by rw[hc];exact BM.self nx c)) (QW (by rw[hc];exact hn)) (fun j _ hj=> ?_) (GT.2 (by omega));exact QX (hs _ (Gv hj))
theorem Rul.step{nx:Int->List Int}{xs:List Int}{c:Int}(r:Rul nx xs)(w:Wr nx 0 c)(hc:c≠0):Wr nx 0 (pO xs c)/\(∀ a,BM nx a c↔a=c\/BM nx a (pO xs c))/\¬BM nx c (pO xs c):=by
 obtain⟨u1,u2,u3⟩:=r.dm.rl.up c w hc (r.all c w);refine⟨u1,fun a=> ?_,fun h=> ?_⟩
 ·rw[<-r.dom a c w,<-r.dom a _ u1];constructor
  ·intro h;cases h with
   |here=>exact .inl rfl
   |up _ _ h=>exact .inr h
  ·rintro(rfl|h)
   ·exact .here
   ·exact .up hc (r.all c w) h
 ·have h2:=r.dm.rl.le ((r.dom _ _ u1).2 h) u1;have h3:=h2.2.1;have h3:qO xs c<=qO xs (pO xs c):=h3;have u3:qO xs (pO xs c)<qO xs c:=u3;omega
def Chn(nx:Int->List Int)(a b:Int)(i:Nat)(c:Int)(met:Bool):Prop:=
 (c= -1/\(BM nx a b↔met=true))\/(Wr nx 0 c/\(0<=c/\c<16)/\zHR nx c+i<=16/\(BM nx a b↔met=true\/BM nx a c))
theorem Chn.last{nx:Int->List Int}{a b:Int}{i:Nat}{met:Bool}(h:Chn nx a b i 0 met):Chn nx a b (i+1) (-1) (met||decide (0=a)):=by
 rcases h with⟨h,_⟩|⟨_,_,_,h⟩
 ·cases h
 ·refine .inl ⟨rfl,h.trans ?_⟩;rw[GM,Gj];refine⟨fun h=>h.imp id fun h=> ?_,fun h=>h.imp id fun h=> ?_⟩
  ·exact Classical.byContradiction fun e=>h ⟨0,.here e⟩
  ·rw[<-h];exact BM.self _ _
theorem Chn.next{nx:Int->List Int}{xs:List Int}{a b c:Int}{i:Nat}{met:Bool}(r:Rul nx xs)(hc:0<c)(h:Chn nx a b i c met):Chn nx a b (i+1) (pO xs c) (met||decide (c=a))/\pO xs c≠c/\0<=pO xs c:=by
 rcases h with⟨h,_⟩|⟨w,bd,hn,h⟩
 ·omega
 ·obtain⟨u1,u2,u3⟩:=r.step w (by omega);have hb:=r.dm.bnd _ u1;refine⟨.inr ⟨u1,hb,?_,h.trans ?_⟩,fun e=> ?_,hb.1⟩
  ·have:=zOU bd (fun a ha=>(u2 a).2 (.inr ha)) u3;omega
  ·rw[u2 a,GM,Gj];refine⟨?_,?_⟩
   ·rintro(h|rfl|h)
    ·exact .inl (.inl h)
    ·exact .inl (.inr rfl)
    ·exact .inr h
   ·rintro((h|h)|h)
    ·exact .inl h
    ·exact .inr (.inl h.symm)
    ·exact .inr (.inr h)
  ·exact u3 (by rw[e];exact BM.self _ _)
theorem Chn.way{nx:Int->List Int}{a b c:Int}{i:Nat}{met:Bool}(h:Chn nx a b i c met)(hc:0<=c):Wr nx 0 c/\c<16/\i<=15:=by
 rcases h with⟨h,_⟩|⟨w,bd,hn,h⟩
 ·omega
 ·have:=zLv (nx:=nx) bd;exact⟨w,bd.2,by omega⟩
end Go.Proofs.YtmilpkdhbdgjfaaGreatDoor
set_option maxRecDepth 100000
namespace Go.Proofs.YtmilpkdhbdgjfaaGreatDoor
open Go.Am
noncomputable def YB(xs:List Int)(n:Nat):List Int:=(List.range n).map fun(i:Nat)=>upL xs (i:Int)
theorem zKt(xs:List Int)(n:Nat):(YB xs n).length=n:=by unfold YB;simp
theorem zO0(h:WF)(vt vf:Value)(T:List WJ)(F:List Wj)(f:Int)(E:B4 h vt vf T F):
  WC Tryz.prog tb 132 [.agg #[vt,vf],I f] h fun r h'=>(∃ v l,r=.tuple #[v,I (Yx T F f 0)]/\Wb h h' v l/\l.length<=16/\(Yx T F f 0=0->∃ xs,Rul (nxF T F f) xs/\l=YB xs (F.getD f.toNat default).blocks.length)/\(Yx T F f 0≠0->l=[]))/\WK h h':=by
 have hF:=E.sm.funcs;refine en ?_;refine VG ?_;intro p h1 e1 o1;have E1:=E.ext e1;refine go ?_;refine VA (zLE h1 vt vf T F f 0 E1) ?_;rintro _ h2 ⟨⟨q,rfl,hq⟩,e2⟩;have o1:=o1.ext e2;have e02:=e1.trans e2;have E2:=E1.ext e2;have sf2:=E2.sf;by_cases ha:Yx T F f 0=0;case neg=>
  have ha':Yx T F f 0≠0:=ha;refine gr ?_;exact⟨⟨_,[],rfl,.inl ⟨rfl,rfl⟩,by simp,fun h=>absurd h ha,fun _=>rfl⟩,e02⟩
 obtain⟨xs,oq,hR⟩:=hq ha;have hlx:=hR.dm.len;obtain⟨g,rfl⟩:∃ g,q=.pointer (some ⟨g,0,none⟩):=let⟨g,_,_,e,_⟩:=oq;⟨g,e⟩;obtain⟨hz,_⟩:=zOv ha;obtain⟨h1z,h2z,hzb,h4z⟩:=ZQ hz;have hin:=zBE h4z;obtain⟨hlen,hnx⟩:=Zd hz;rw[hzb]at hlen h2z;rw[ha];replace hR:=Wu.mk hR;obtain⟨ta,tn,tk,rfl⟩:=zN E.st;obtain⟨ga,gn,gk,rfl⟩:=zN sf2;obtain⟨csF,⟨vb,rfl,sb,hlb⟩,pcF,hsF⟩:=yo (i:=f.toNat) sf2 (by omega);obtain⟨_,_,_,rfl⟩:=zN sb;generalize(F.getD f.toNat default).blocks=L at *;refine go ?_;refine VE (fun i=>L.length-i) (fun i t h3=>WK h2 h3/\zC t 24=I i/\i<=L.length/\∃ w,zC t 4=w/\Wb h2 h3 w ((List.range i).map fun(j:Nat)=>pO xs (j:Int))) 0 ?_ ?_
 ·exact⟨WK.refl _,WM,QU _,_,WM,.inl ⟨rfl,rfl⟩⟩
 rintro i t h3 hsame ⟨e3,s24,hi,w,s4,ow⟩;have oq3:=oq.ext e3;refine go ?_;refine VD (fun hc=> ?_) (fun hc=> ?_)<;>simp only[DB]at hc
 ·have hi':i<L.length:=by omega
  refine go ?_;refine WO.bl [xs.getD i 0] ?_;intro v7 h7 e7 o7;refine go ?_;refine Vb (ow.ext e7) o7.sl (e3.trans e7) (by simp;omega) ?_;intro v8 h8 e8 o8;refine go ?_;refine zA (i+1) (by omega) ⟨e8,BF,by omega,v8,WM,?_⟩;rw[List.range_succ,GU];exact o8
 ·have hii:i=L.length:=by omega
  subst hii;have hpos:0<L.length:=by omega
  obtain⟨m,hm⟩:∃ m,m=(List.range L.length).map fun(j:Nat)=>pO xs (j:Int):=⟨_,rfl⟩;have hml:m.length=L.length:=by rw[hm];simp
  rw[<-hm]at ow;rcases ow with⟨_,h0⟩|ow
  ·rw[h0]at hml;simp at hml;omega
  have sw:=ow.sl;refine go ?_;refine XU (i:=0) (a:= -1) zX zX ow e3 (by omega) ?_;intro h4 e4 o4 _;refine gr ?_;refine⟨⟨_,_,rfl,.inr (o4.since e02),by rw[GL];omega,fun _=>⟨xs,hR.out,?_⟩,fun h=>absurd rfl h⟩,e02.trans e4⟩;rw[hm];refine List.ext_getElem (by simp[YB]) fun j hj1 hj2=> ?_;simp only[YB,List.getElem_map,List.getElem_range,List.getElem_set];by_cases hj:0=j
  ·subst hj;simp[upL]
  ·rw[QC hj];unfold upL;rw[QC (by omega)]
def PlT(T:List WJ)(k:Int):Prop:=0<=k/\k<(T.length:Int)/\((T.getD k.toNat default).kind=1\/(T.getD k.toNat default).kind=2\/(T.getD k.toNat default).kind=3)
def zHE(T:List WJ)(x:WJ):Prop:=(∀ p∈x.parts,PlT T p)/\PlT T x.elem/\x.parts.length<=4/\x.many=0
def zK7(T:List WJ)(x:WJ)(k:Nat):Prop:=
 (x.kind=1/\x.elem=0/\x.many=0/\x.parts.length=0)\/
 (x.kind=2/\0<=x.elem/\x.elem<(T.length:Int)/\x.many=0/\x.parts.length=0)\/
 (x.kind=3/\zHE T x)\/
 (x.kind=4/\x.elem=0/\x.many=0/\1<=x.parts.length/\x.parts.length<=8/\∀ p∈x.parts,0<=p/\p<(k:Int))\/
 (x.kind=5/\0<=x.elem/\x.elem<(k:Int)/\1<=x.many/\x.many<=16/\x.parts.length=0)
def zBQ(T:List WJ)(k:Nat):Prop:=zK7 T (T.getD k default) k
def ofF(T:List WJ):Nat->Int->List Int
 |0,k=>[k]
 |n+1,k=>let x:=T.getD k.toNat default
  if x.kind=4 then(x.parts.map (ofF T n)).flatten else if x.kind=5 then(List.replicate x.many.toNat (ofF T n x.elem)).flatten else[k]
def ofL(T:List WJ)(k:Nat):List Int:=ofF T (k+1) k
def zO8(T:List WJ)(k:Nat):Prop:=∀ j,j<k->zBQ T j/\(ofL T j).length<=32
theorem zHg{T:List WJ}:∀ (n m:Nat) (k:Nat),k<n->k<m->(∀ j,j<=k->zBQ T j)->ofF T n k=ofF T m k:=by
 intro n;induction n with
 |zero=>intro m k h;omega
 |succ n ih=>
  intro m k h1 h2 hM;obtain⟨m,rfl⟩:∃ q,m=q+1:=⟨m-1,by omega⟩;have hk:=hM k (QE _);unfold ofF;simp only[Q7];split
  ·rename_i h4;congr 1;refine Gz fun p hp=> ?_;unfold zBQ zK7 at hk;have hp':0<=p/\p<(k:Int):=by
    rcases hk with h|h|h|h|h
    ·omega
    ·omega
    ·omega
    ·exact h.2.2.2.2.2 p hp
    ·omega
   obtain⟨q,rfl⟩:∃ q:Nat,p=q:=⟨p.toNat,by omega⟩;exact ih m q (by omega) (by omega) fun j hj=>hM j (by omega)
  ·split
   ·rename_i h4 h5;unfold zBQ zK7 at hk;have hp':0<=(T.getD k default).elem/\(T.getD k default).elem<(k:Int):=by omega
    obtain⟨q,hq⟩:∃ q:Nat,(T.getD k default).elem=q:=⟨(T.getD k default).elem.toNat,by omega⟩;rw[hq,ih m q (by omega) (by omega) fun j hj=>hM j (by omega)]
   ·rfl
theorem zJA{T:List WJ}{k:Nat}(hM:∀ j,j<=k->zBQ T j):ofL T k=let x:=T.getD k default
  if x.kind=4 then(x.parts.map fun p=>ofL T p.toNat).flatten else if x.kind=5 then(List.replicate x.many.toNat (ofL T x.elem.toNat)).flatten else[(k:Int)]:=by
 have hk:=hM k (QE _);unfold zBQ zK7 at hk;unfold ofL;rw[ofF];simp only[Q7];split
 ·rename_i h4;congr 1;refine Gz fun p hp=> ?_;have hp':0<=p/\p<(k:Int):=by
   rcases hk with h|h|h|h|h
   ·omega
   ·omega
   ·omega
   ·exact h.2.2.2.2.2 p hp
   ·omega
  obtain⟨q,rfl⟩:∃ q:Nat,p=q:=⟨p.toNat,by omega⟩;exact zHg _ _ q (by omega) (by omega) fun j hj=>hM j (by omega)
 ·split
  ·rename_i h4 h5;have hp':0<=(T.getD k default).elem/\(T.getD k default).elem<(k:Int):=by omega
   obtain⟨q,hq⟩:∃ q:Nat,(T.getD k default).elem=q:=⟨(T.getD k default).elem.toNat,by omega⟩;rw[hq,Q7,zHg k (q+1) q (by omega) (by omega) fun j hj=>hM j (by omega)]
  ·rfl
theorem zAa{m:Int}{l:List Int}:yu m l=true↔∀ p∈l,0<=p/\p<m:=by
 unfold yu;rw[QV];simp
theorem zGx{x:WJ}:Z7 x=true↔x.kind=1\/x.kind=2\/x.kind=3:=by
 unfold Z7;simp;omega
theorem zMh(l:List Int)(f:Int->List Int):((l.map f).flatten.length:Int)=(l.map fun p=>((f p).length:Int)).sum:=by
 induction l with
 |nil=>rfl
 |cons a l ih=>simp only[Q6,Gn,QT,List.sum_cons,Int.natCast_add,ih]
theorem zPF(n:Nat)(l:List Int):(List.replicate n l).flatten.length=n*l.length:=by
 induction n with
 |zero=>simp
 |succ n ih=>rw[List.replicate_succ,Gn,QT,ih,GX];omega
theorem zHc{T:List WJ}{k:Nat}{s:List Int}(hk:k<T.length)(hl:zO8 T k)(hs:s.length=k)(hv:∀ j,j<k->s.getD j 0=((ofL T j).length:Int)):
  ((ZX T (T.getD k default) k s).2=true↔zBQ T k/\(ofL T k).length<=32)/\((ZX T (T.getD k default) k s).2=true->(ZX T (T.getD k default) k s).1=((ofL T k).length:Int)):=by
 have hun:zBQ T k->ofL T k=_:=fun h=>zJA fun j hj=>by
  by_cases e:j=k
  ·subst e;exact h
  ·exact(hl j (by omega)).1
 generalize hx:T.getD k default=x at *;have hM:zBQ T k↔zK7 T x k:=by unfold zBQ;rw[hx]
 unfold zK7 at hM;have plain1:x.kind=1->(yK x=true↔x.elem=0/\x.many=0/\x.parts.length=0):=fun h=>by unfold yK;simp[h,and_assoc]
 have plain2:x.kind=2->(yK x=true↔x.many=0/\x.parts.length=0):=fun h=>by unfold yK;simp[h]
 have plain3:x.kind=3->(yK x=true↔x.many=0):=fun h=>by unfold yK;simp[h]
 have plain4:x.kind=4->(yK x=true↔x.elem=0/\x.many=0):=fun h=>by unfold yK;simp[h]
 have plain5:x.kind=5->(yK x=true↔x.parts.length=0):=fun h=>by unfold yK;simp[h]
 by_cases h1:x.kind=1
 ·have e:ZX T x k s=(1,yK x):=by unfold ZX;rw[QG h1]
  rw[e,plain1 h1];refine⟨⟨fun h=> ?_,fun h=> ?_⟩,fun h=> ?_⟩
  ·have:=hM.2 (.inl ⟨h1,h⟩);refine⟨this,?_⟩;rw[hun this];simp[h1]
  ·have:=hM.1 h.1;omega
  ·have:=hM.2 (.inl ⟨h1,h⟩);rw[hun this];simp[h1]
 by_cases h2:x.kind=2
 ·have e:ZX T x k s=(1,yK x&&yu T.length [x.elem]):=by unfold ZX;rw[QC h1,QG h2]
  have e2:(yK x&&yu T.length [x.elem])=true↔(x.many=0/\x.parts.length=0)/\0<=x.elem/\x.elem<(T.length:Int):=by
   rw[QJ,plain2 h2,zAa];simp
  rw[e,e2];have key:(x.many=0/\x.parts.length=0)/\0<=x.elem/\x.elem<(T.length:Int)->zBQ T k:=fun h=>hM.2 (.inr (.inl ⟨h2,h.2.1,h.2.2,h.1.1,h.1.2⟩));refine⟨⟨fun h=>⟨key h,?_⟩,fun h=> ?_⟩,fun h=> ?_⟩
  ·rw[hun (key h)];simp[h2]
  ·have:=hM.1 h.1;omega
  ·rw[hun (key h)];simp[h2]
 by_cases h3:x.kind=3
 ·rw[zGu h3];have e2:(yK x&&decide (x.parts.length<=4)&&yu T.length (x.elem::x.parts)&&(x.elem::x.parts).all fun n=>Z7 (T.getD n.toNat default))=true↔zHE T x:=by
   unfold zHE PlT;simp only[QJ,plain3 h3,QY,zAa,QV,zGx,GI];constructor
   ·rintro⟨⟨⟨a,b⟩,c⟩,d⟩;exact⟨fun p hp=>⟨(c p (.inr hp)).1,(c p (.inr hp)).2,d p (.inr hp)⟩,⟨(c _ (.inl rfl)).1,(c _ (.inl rfl)).2,d _ (.inl rfl)⟩,b,a⟩
   ·rintro⟨a,b,c,d⟩;refine⟨⟨⟨d,c⟩,?_⟩,?_⟩
    ·rintro p (rfl|hp)
     ·exact⟨b.1,b.2.1⟩
     ·exact⟨(a p hp).1,(a p hp).2.1⟩
    ·rintro p (rfl|hp)
     ·exact b.2.2
     ·exact(a p hp).2.2
  simp only[e2];have key:zHE T x->zBQ T k:=fun h=>hM.2 (.inr (.inr (.inl ⟨h3,h⟩)));refine⟨⟨fun h=>⟨key h,?_⟩,fun h=> ?_⟩,fun h=> ?_⟩
  ·rw[hun (key h)];simp[h3]
  ·rcases hM.1 h.1 with h|h|h|h|h
   ·omega
   ·omega
   ·exact h.2
   ·omega
   ·omega
  ·rw[hun (key h)];simp[h3]
 by_cases h4:x.kind=4
 ·rw[zPM h4];have e2:(yK x&&yu k x.parts)=true↔(x.elem=0/\x.many=0)/\∀ p∈x.parts,0<=p/\p<(k:Int):=by
   rw[QJ,plain4 h4,zAa]
  by_cases hp:(yK x&&yu k x.parts)=true
  ·rw[QG hp];have hp2:=e2.1 hp;have hsum:(x.parts.map fun n=>s.getD n.toNat 0).sum=(x.parts.map fun p=>((ofL T p.toNat).length:Int)).sum:=by
    congr 1;refine Gz fun p hpp=> ?_;have:=hp2.2 p hpp;exact hv p.toNat (by omega)
   have key:1<=x.parts.length/\x.parts.length<=8->zBQ T k:=fun h=>hM.2 (.inr (.inr (.inr (.inl ⟨h4,hp2.1.1,hp2.1.2,h.1,h.2,hp2.2⟩))));have hlen:zBQ T k->((ofL T k).length:Int)=(x.parts.map fun p=>((ofL T p.toNat).length:Int)).sum:=fun h=>by
    rw[hun h];simp only[h4,Q9];rw[zMh]
   simp only[QJ,QY];refine⟨⟨fun h=> ?_,fun h=> ?_⟩,fun h=> ?_⟩
   ·have hk2:=key (by omega);have:=hlen hk2;exact⟨hk2,by omega⟩
   ·have:=hlen h.1;have h5:=hM.1 h.1;omega
   ·rw[hsum,hlen (key (by omega))]
  ·rw[QC hp];simp only[Qs,JF,false_implies,and_true];intro h;refine hp (e2.2 ?_);rcases hM.1 h.1 with h|h|h|h|h
   ·omega
   ·omega
   ·omega
   ·exact⟨⟨h.2.1,h.2.2.1⟩,h.2.2.2.2.2⟩
   ·omega
 by_cases h5:x.kind=5
 ·rw[zNl h5];have e2:(yK x&&yu k [x.elem]&&decide (1<=x.many)&&decide (x.many<=16))=true↔x.parts.length=0/\(0<=x.elem/\x.elem<(k:Int))/\1<=x.many/\x.many<=16:=by
   simp only[QJ,plain5 h5,zAa,QY];simp[and_assoc]
  by_cases hp:(yK x&&yu k [x.elem]&&decide (1<=x.many)&&decide (x.many<=16))=true
  ·rw[QG hp];have hp2:=e2.1 hp;have key:zBQ T k:=hM.2 (.inr (.inr (.inr (.inr ⟨h5,hp2.2.1.1,hp2.2.1.2,hp2.2.2.1,hp2.2.2.2,hp2.1⟩))));have hs1:=hv x.elem.toNat (by omega);have hlen:((ofL T k).length:Int)=x.many*s.getD x.elem.toNat 0:=by
    rw[hun key];simp only[h5,Q9];rw[QC (by omega),zPF,hs1,Int.natCast_mul,Int.toNat_of_nonneg (by omega)]
   simp only[QY];rw[<-hlen];exact⟨⟨fun h=>⟨key,by omega⟩,fun h=>by omega⟩,fun _=>rfl⟩
  ·rw[QC hp];simp only[Qs,JF,false_implies,and_true];intro h;refine hp (e2.2 ?_);have:=hM.1 h.1;omega
 ·have e:ZX T x k s=(1,false):=by unfold ZX;rw[QC h1,QC h2,QC h3,QC h4,QC h5]
  rw[e];simp only[Qs,JF,false_implies,and_true];intro h;have:=hM.1 h.1;omega
theorem zJU{T:List WJ}:∀ k,k<=T.length->(∀ s,Zp T k=some s->zO8 T k/\s.length=k/\∀ j,j<k->s.getD j 0=((ofL T j).length:Int))/\(zO8 T k->∃ s,Zp T k=some s):=by
 intro k;induction k with
 |zero=>exact fun _=>⟨fun s hs=>by cases hs;exact⟨fun j hj=>absurd hj (Qw _),rfl,fun j hj=>absurd hj (Qw _)⟩,fun _=>⟨[],rfl⟩⟩
 |succ k ih=>
  intro hk;obtain⟨i1,i2⟩:=ih (by omega);refine⟨fun s hs=> ?_,fun hl=> ?_⟩
  ·unfold Zp at hs;split at hs
   ·cases hs
   ·rename_i s0 h0;obtain⟨a,b,c⟩:=i1 s0 h0;obtain⟨m1,m2⟩:=zHc (T:=T) (k:=k) (by omega) a b c;split at hs
    ·rename_i hm;cases hs;have h1:=m1.1 hm;have h2:=m2 hm;refine⟨fun j hj=> ?_,by simp[b],fun j hj=> ?_⟩
     ·by_cases e:j=k
      ·subst e;exact h1
      ·exact a j (by omega)
     ·by_cases e:j=k
      ·subst e;rw[<-h2];simp[List.getD,<-b]
      ·rw[<-c j (by omega)];simp[List.getD,Qc (show j<s0.length by omega)]
    ·cases hs
  ·obtain⟨s0,h0⟩:=i2 fun j hj=>hl j (by omega);obtain⟨a,b,c⟩:=i1 s0 h0;obtain⟨m1,m2⟩:=zHc (T:=T) (k:=k) (by omega) a b c;unfold Zp;rw[h0];simp only;rw[QG (m1.2 (hl k (by omega)))];exact⟨_,rfl⟩
theorem zIm{T:List WJ}:Za T=if 16<T.length then 4 else(open Classical in if zO8 T T.length then 0 else 30):=by
 classical
 unfold Za;split
 ·rfl
 ·obtain⟨i1,i2⟩:=zJU T.length (QE _);split
  ·rename_i s hs;rw[QG (i1 s hs).1]
  ·rename_i hs;rw[QC];intro h;obtain⟨s,h2⟩:=i2 h;rw[h2]at hs;cases hs
def zJD(op:Int):Prop:=(4<=op/\op<=10)\/op=15\/op=17
def zHV(op:Int):Prop:=zJD op\/op=13\/op=14\/op=16\/op=19\/op=21
def zGw(op:Int):Prop:=op=18\/op=19\/op=22
def zPV(op:Int):Prop:=1<=op/\op<=22/\op≠13/\op≠17/\op≠21
theorem zDY{op:Int}(h:0<=op):((zt op).2.1=true↔zJD op)/\((zt op).1=true↔zHV op)/\((zt op).2.2.2.1=true↔zGw op)/\((zt op).2.2.2.2.2=true↔zPV op)/\((zt op).2.2.2.2.1=true↔op=22)/\((zt op).2.2.1=true↔op=1\/op=3\/op=14\/op=18)/\(zt op=(false,false,false,false,false,false)↔op<1\/22<op):=by
 obtain⟨n,rfl⟩:=Int.eq_ofNat_of_zero_le h;by_cases hn:n<23
 ·clear h;unfold zHV zGw zPV zJD;have hz:(List.range 23).all (fun(n:Nat)=>decide (zt (n:Int)=(false,false,false,false,false,false)) == decide ((n:Int)<1\/22<(n:Int)))=true:=by decide+kernel
  have hz:=QV.1 hz n (GT.2 hn);rw[beq_iff_eq,decide_eq_decide]at hz;refine⟨?_,?_,?_,?_,?_,?_,hz⟩<;>(clear hz;revert n;decide+kernel)
 ·have e:zt (n:Int)=(false,false,false,false,false,false):=by
   unfold zt;rw[List.getD,GW (by simp only[hasT,JA,Gh];omega)];rfl
  rw[e];unfold zHV zGw zPV zJD;simp only[Qs,JF,true_iff];omega
def ZG(x:Wo):List Int:=(if(zt x.op).1 then[x.a]else[])++((if(zt x.op).2.1 then[x.b]else[])++(if(zt x.op).2.2.2.1 then x.args else[]))
def zLG(x:Wo)(funcs:Int):Prop:=if x.op=1 then True else if x.op=3\/x.op=18 then 0<=x.n/\x.n<funcs else if x.op=14 then 0<=x.n/\x.n<8 else x.n=0
def B0(l:List Int)(m:Int):Prop:=∀ p∈l,0<=p/\p<m
structure MayI(x:Wo)(s:B9):Prop where
 op:1<=x.op/\x.op<=22
 uses:B0 (ZG x) s.regs
 num:zLG x s.funcs
 a:(zt x.op).1=true\/x.a=0
 b:(zt x.op).2.1=true\/x.b=0
 g:(zt x.op).2.2.2.1=true\/(x.args.length:Int)<=0
 ans:if(zt x.op).2.2.2.2.2 then 0<=x.ty/\x.ty<s.types else x.ty=0
 frm:if(zt x.op).2.2.2.2.1 then(x.frm.length:Int)=x.args.length/\1<=(x.frm.length:Int)/\(x.frm.length:Int)<=16/\B0 x.frm s.blocks else(x.frm.length:Int)=0/\(x.args.length:Int)<=4
theorem zDm{l:List Int}{m:Int}:zEq l m=true↔B0 l m:=by
 unfold zEq za B0;simp[QV]
theorem zEi{l k:List Int}{m:Int}:B0 (l++k) m↔B0 l m/\B0 k m:=by
 unfold B0;constructor
 ·exact fun h=>⟨fun p hp=>h p (Qy.2 (.inl hp)),fun p hp=>h p (Qy.2 (.inr hp))⟩
 ·exact fun h p hp=>(Qy.1 hp).elim (h.1 p) (h.2 p)
theorem zJE{c:Bool}{l:List Int}{m:Int}:B0 (if c then l else[]) m↔(c=true->B0 l m):=by
 cases c
 ·simp[B0]
 ·simp
theorem zDb{a m:Int}:B0 [a] m↔za a m=true:=by unfold B0 za;simp
theorem zHy{x:Wo}{s:B9}(ho:0<=x.op):zLG x s.funcs↔Y3 x s=true/\((zt x.op).2.2.1=true\/x.n=0):=by
 obtain⟨_,_,_,_,_,hn,_⟩:=zDY ho;rw[hn];unfold zLG Y3;by_cases h1:x.op=1
 ·simp[h1]
 by_cases h3:x.op=3\/x.op=18
 ·rw[QC h1,QG h3,QG h3,QJ,Gj,Gj];omega
 by_cases h14:x.op=14
 ·rw[QC h1,QC h3,QG h14,QC h3,QG h14,QJ,Gj,Gj];omega
 ·rw[QC h1,QC h3,QC h14,QC h3,QC h14];simp;omega
theorem zEN{x:Wo}{s:B9}(ho:0<=x.op):zCY x s=true↔MayI x s:=by
 obtain⟨_,_,_,_,hf,_,hz⟩:=zDY ho;have hnum:=zHy (x:=x) (s:=s) ho;have key:MayI x s↔(1<=x.op/\x.op<=22)/\B0 (ZG x) s.regs/\zLG x s.funcs/\((zt x.op).1=true\/x.a=0)/\((zt x.op).2.1=true\/x.b=0)/\((zt x.op).2.2.2.1=true\/(x.args.length:Int)<=0)/\(if(zt x.op).2.2.2.2.2 then 0<=x.ty/\x.ty<s.types else x.ty=0)/\
   (if(zt x.op).2.2.2.2.1 then(x.frm.length:Int)=x.args.length/\1<=(x.frm.length:Int)/\(x.frm.length:Int)<=16/\B0 x.frm s.blocks else(x.frm.length:Int)=0/\(x.args.length:Int)<=4):=
  ⟨fun⟨a,b,c,d,e,f,g,h⟩=>⟨a,b,c,d,e,f,g,h⟩,fun⟨a,b,c,d,e,f,g,h⟩=>⟨a,b,c,d,e,f,g,h⟩⟩
 rw[key,hnum];unfold zCY zOp zJj zKC ZG;simp only;have hz':(decide (zt x.op=(false,false,false,false,false,false))=false)↔(1<=x.op/\x.op<=22):=by
  rw[JD,hz];omega
 have hl0:B0 x.args s.regs\/¬(x.args.length:Int)<=0:=by
  by_cases h:(x.args.length:Int)<=0
  ·left;have:x.args=[]:=GH (by omega);rw[this];exact fun p hp=>by cases hp
  ·exact .inr h
 rw[zEi,zEi,zJE,zJE,zJE,zDb,zDb];have hty:(za x.ty s.types=true)↔0<=x.ty/\x.ty<s.types:=by unfold za;simp
 rw[<-hz',<-hty,<-zDm,<-zDm];rw[<-zDm]at hl0;generalize decide (zt x.op=(false,false,false,false,false,false))=Z at *;generalize zt x.op=q at *;obtain⟨A,B,N,G,R,S⟩:=q;simp only;generalize za x.a s.regs=ba at *;generalize za x.b s.regs=bb at *;generalize zEq x.args s.regs=bg at *;generalize Y3 x s=bn at *;generalize za x.ty s.types=bt at *;generalize zEq x.frm s.blocks=bf at *;clear hz hf hnum key hz' hty;generalize x.args.length=la at *;generalize x.frm.length=lf at *;generalize x.a=a at *;generalize x.b=b at *;generalize x.n=n at *;generalize x.ty=ty at *;cases Z<;>simp only[Qq,Qj,QS,Qd,Qs,JF,false_and,not_false_eq_true,Bool.true_eq_false,Qa,QS,true_and];cases R
 ·cases A<;>cases B<;>cases N<;>cases G<;>cases S<;>simp<;>(constructor<;>intro h<;>simp_all<;>omega)
 ·cases A<;>cases B<;>cases N<;>cases G<;>cases S<;>simp<;>(constructor<;>intro h<;>simp_all<;>omega)
theorem zM3{x:B2}{s:B9}:zAs x s=true↔(x.kind=1/\x.a=0/\x.els=0/\B0 [x.to] s.blocks)\/(x.kind=2/\B0 [x.a] s.regs/\B0 [x.to,x.els] s.blocks)\/(x.kind=3/\x.to=0/\x.els=0/\B0 [x.a] s.regs):=by
 have h2:B0 [x.to,x.els] s.blocks↔za x.to s.blocks=true/\za x.els s.blocks=true:=by unfold B0 za;simp
 rw[h2,zDb,zDb];unfold zAs;by_cases k1:x.kind=1
 ·simp[k1,and_assoc]
 by_cases k2:x.kind=2
 ·simp[k2,and_assoc]
 by_cases k3:x.kind=3
 ·simp[k3,and_assoc]
 ·simp[k1,k2,k3]
def yp(x:B2):List Int:=if x.kind=2\/x.kind=3 then[x.a]else[]
theorem zCQ(L:List Wl)(i:Nat):zz (L.take i)<=zz L:=by
 have h1:zz L=zz (L.take i)+zz (L.drop i):=by
  conv=>lhs;rw[<-GG i L]
  unfold zz;rw[GU,List.sum_append]
 have:=Zu (L.drop i);omega
structure FnOk(T:List WJ)(F:List Wj)(f:Int)(L:List Wl)(par:Int):Prop where
 f0:0<=f
 f1:f<(F.length:Int)
 prog:yl T F=0
 ask:yY T F f=(par,0)
 isL:L=(F.getD f.toNat default).blocks
 par0:0<=par
 parl:par<=100
 len:1<=L.length/\L.length<=16
 many:zz L<=128
 ins:∀ b∈L,(b.ins.length:Int)<=128
 fn:Bs T F.length (F.getD f.toNat default)=true
def zNL(par:Int)(L:List Wl):Int:=par+zz L
structure InsU(x:Wo)(N n:Int):Prop where
 op:1<=x.op/\x.op<=22
 uses:∀ r∈ZG x,0<=r/\r<N
 args:x.args.length<=20
 frm:x.frm.length<=20
 phi:x.op=22->x.frm.length=x.args.length/\(∀ r∈x.args,0<=r/\r<N)/\(∀ b∈x.frm,0<=b/\b<n)
 none:x.op≠22->x.frm.length=0
structure BlkU(b:Wl)(N n:Int):Prop where
 ins:∀ x∈b.ins,InsU x N n
 ends:∀ r∈yp b.fin,0<=r/\r<N
 next:∀ k∈YS b.fin,0<=k/\k<n
theorem zL9{x:Wo}{s:B9}(h:zCY x s=true):1<=x.op/\x.op<=22:=by
 by_cases h0:0<=x.op
 ·exact((zEN h0).1 h).op
 ·exfalso;have he:zt x.op=(false,false,false,false,false,false):=by
   unfold zt;rw[show x.op.toNat=0 by omega];rfl
  unfold zCY zOp at h;rw[he]at h;simp at h
theorem zQV{x:Wo}{s:B9}(h:zCY x s=true):InsU x s.regs s.blocks:=by
 have ho:=zL9 h;have m:=(zEN (by omega)).1 h;have ha:=zDY (op:=x.op) (by omega);have h22:(zt x.op).2.2.2.2.1=true↔x.op=22:=ha.2.2.2.2.1;have hg:(zt x.op).2.2.2.1=true↔zGw x.op:=ha.2.2.1;have hf:=m.frm;have hgl:=m.g;have hargs:(x.args.length:Int)<=16:=by
  split at hf
  ·omega
  ·omega
 have hfrm:(x.frm.length:Int)<=16:=by
  split at hf
  ·omega
  ·omega
 refine⟨ho,m.uses,by omega,by omega,fun e=> ?_,fun e=> ?_⟩
 ·rw[QG (h22.2 e)]at hf;refine⟨by omega,fun r hr=>m.uses r ?_,hf.2.2.2⟩;unfold ZG;rw[show(zt x.op).2.2.2.1=true from hg.2 (by unfold zGw;omega),QG rfl];exact Qy.2 (.inr (Qy.2 (.inr hr)))
 ·rw[QC (fun q=>e (h22.1 q))]at hf;omega
theorem zQk{b:Wl}{s:B9}(h:zCP b s=false):BlkU b s.regs s.blocks:=by
 unfold zCP at h;rw[Bool.or_eq_false_iff]at h;obtain⟨h1,h2⟩:=h;have h2:zAs b.fin s=true:=by simpa using h2
 have he:=zM3.1 h2;refine⟨fun x hx=>zQV ?_,fun r hr=> ?_,fun k hk=> ?_⟩
 ·cases hi:zCY x s with
  |true=>rfl
  |false=>exact absurd h1 (by rw[G4.2 ⟨x,hx,by rw[hi];rfl⟩];simp)
 ·unfold yp at hr;split at hr
  ·rw[Qe]at hr;subst hr;rcases he with⟨e,_⟩|⟨e,q,_⟩|⟨e,_,_,q⟩
   ·omega
   ·exact q _ (by simp)
   ·exact q _ (by simp)
  ·cases hr
 ·unfold YS at hk;rcases he with⟨e,_,_,q⟩|⟨e,_,q⟩|⟨e,_⟩
  ·rw[QG e]at hk;exact q k hk
  ·rw[QC (by omega),QG e]at hk;split at hk
   ·exact q k (by rw[Qe]at hk;subst hk;simp)
   ·exact q k hk
  ·rw[QC (by omega),QC (by omega)]at hk;cases hk
theorem zQJ{T:List WJ}{nf:Int}{f:Wj}(h:Bs T nf f=true):∀ b∈f.blocks,BlkU b (zNL ((T.getD f.sig.toNat default).parts.length:Int) f.blocks) f.blocks.length:=by
 intro b hb;unfold Bs at h;split at h
 ·cases h
 ·have h:(f.blocks.any fun b=>zCP b (szL T nf f))=false:=by simpa using h
  have:=zQk (b:=b) (s:=szL T nf f) (by
   cases q:zCP b (szL T nf f)with
   |false=>rfl
   |true=>rw[G4.2 ⟨b,hb,q⟩]at h;cases h)
  exact this
theorem zLu{T:List WJ}{n:Int}{f:Wj}(h:Bs T n f=true):1<=f.blocks.length/\f.blocks.length<=16/\zz f.blocks<=128:=by
 unfold Bs at h;split at h
 ·cases h
 ·rename_i hb;unfold zB5 at hb;simp only[GM,Gp,Gj,not_or,Bool.not_eq_false]at hb;obtain⟨⟨⟨_,_⟩,h3⟩,h4⟩:=hb;unfold za at h3;simp at h3;omega
theorem zIe{l:List Wl}{b:Wl}(h:b∈l):(b.ins.length:Int)<=zz l:=by
 induction l with
 |nil=>cases h
 |cons c l ih=>
  have hc:zz (c::l)=(c.ins.length:Int)+zz l:=by unfold zz;simp
  have hp:=Zu l;rw[hc];rcases GI.1 h with rfl|h
  ·omega
  ·have:=ih h;omega
theorem zO3{T:List WJ}{F:List Wj}{f:Int}(h:(yY T F f).2=0):0<=f/\f<(F.length:Int)/\yl T F=0/\yY T F f=(((T.getD (F.getD f.toNat default).sig.toNat default).parts.length:Int),0):=by
 unfold yY at h |-;split at h
 ·rename_i hp;exact absurd h hp
 ·rename_i hp;rw[QC hp];split at h
  ·rename_i hb;rw[QG hb];unfold za at hb;simp at hb;exact⟨hb.1,hb.2,by omega,rfl⟩
  ·cases h
theorem zOf{T:List WJ}{F:List Wj}{f:Int}(sm:BP T F)(h:(yY T F f).2=0):FnOk T F f (F.getD f.toNat default).blocks ((T.getD (F.getD f.toNat default).sig.toNat default).parts.length:Int)/\
  ∀ b∈(F.getD f.toNat default).blocks,BlkU b (zNL ((T.getD (F.getD f.toNat default).sig.toNat default).parts.length:Int) (F.getD f.toNat default).blocks) (F.getD f.toNat default).blocks.length:=by
 obtain⟨h0,h1,hp,ha⟩:=zO3 h;have hmem:=zL (l:=F) (i:=f.toNat) (by omega);have hfn:=(Z3 hp).2.2.2 _ hmem;have hl:=zLu hfn;refine⟨⟨h0,h1,hp,ha,rfl,by omega,?_,⟨hl.1,hl.2.1⟩,hl.2.2,fun b hb=>by have:=zIe hb;omega,hfn⟩,zQJ hfn⟩;by_cases q:(F.getD f.toNat default).sig.toNat<T.length
 ·have:=sm.parts _ (zL (l:=T) q);omega
 ·rw[QL,GW (by omega)];simp;decide
end Go.Proofs.YtmilpkdhbdgjfaaGreatDoor
set_option maxRecDepth 100000
namespace Go.Proofs.YtmilpkdhbdgjfaaGreatDoor
open Go.Am
theorem zLr(h:WF)(x:Wo)(cs:List Value)(hcs:BT h cs x)(tt:By h)(hx:x.args.length<=20):
  WC Tryz.prog tb 142 [.agg cs.toArray] h fun r h'=>Wb h h' r (ZG x)/\WK h h':=by
 obtain⟨va,vfr,rfl,sa,sfr,hla,hlf,ho,ho2⟩:=hcs;obtain⟨aa,an,ak,rfl⟩:=Wt.shape sa;obtain⟨fa,fn,fk,rfl⟩:=Wt.shape sfr;refine en ?_;refine VG ?_;intro p h1 e1 o1;refine go ?_;refine VA (zNi h1 x.op (tt.ext e1) ho ho2) ?_;rintro _ h2 ⟨rfl,e2⟩;refine go ?_;refine VJ ?_;intro p3 h3 e3 o3;refine go ?_;refine VF (cs:=YH (zt x.op)) o3 e3 ?_;intro h4 e4 o4 u4;have e14:=e2.trans e4;have o1:=o1.ext e14;have sa4:=Wd.ext sa (e1.trans e14);have o4:=o4.since e2;have o4:=o4.since e1;have e04:=e1.trans e14;clear e1 e2 e3 e4 u4 e14 o3;unfold ZG;generalize zt x.op=q at *;obtain⟨qa,qb,qn,qg,qf,qt⟩:=q;simp only;refine go ?_;refine VK (fun t h'=>WK h4 h'/\∃ w,zC t 2=w/\Wb h4 h' w (if qa then[x.a]else[])) ?_ ?_
 ·cases qa with
  |true=>
   refine go ?_;refine WO.bl [x.a] ?_;intro v h2 e2 o2;refine go ?_;refine Vb (v:= .slice none 0 0) (xs:=[]) (h0:=h4) (.inl ⟨rfl,rfl⟩) o2.sl e2 (by simp) ?_;intro v3 h3 e3 o3;refine go ?_;exact zD ⟨e3,v3,WM,o3⟩
  |false=>
   refine go ?_;exact zD ⟨WK.refl _,_,WM,.inl ⟨rfl,rfl⟩⟩
 rintro t2 h2 hs2 ⟨e2,w2,q2,ow2⟩;have o2:=o1.ext e2;have o42:=o4.ext e2;have l2:(if qa then[x.a]else[]).length<=1:=by split<;>simp
 generalize(if qa then[x.a]else[])=lA at *;refine go ?_;refine VK (fun t h'=>WK h4 h'/\∃ w,zC t 2=w/\Wb h4 h' w (lA++if qb then[x.b]else[])) ?_ ?_
 ·cases qb with
  |true=>
   refine go ?_;refine WO.bl [x.b] ?_;intro v h3 e3 o3;refine go ?_;refine Vb (Wb.ext ow2 e3) o3.sl (e2.trans e3) (by simp only[QZ];omega) ?_;intro v4 h5 e5 o5;refine go ?_;exact zD ⟨e5,v4,WM,o5⟩
  |false=>
   refine go ?_;exact zD ⟨e2,_,WM,by simpa using ow2⟩
 rintro t3 h3 hs3 ⟨e3,w3,q3,ow3⟩;have o3:=o1.ext e3;have o43:=o4.ext e3;have sa3:=Wd.ext sa4 e3;have l3:(lA++if qb then[x.b]else[]).length<=2:=by rw[QT];split<;>simp<;>omega
 rw[<-Q3];generalize(lA++if qb then[x.b]else[])=lB at *;refine go ?_;cases qg with
 |true=>
  refine go ?_;refine Vb ow3 sa3 e3 (by omega) ?_;intro v5 h5 e5 o5;refine gr ?_;exact⟨o5.since e04,e04.trans e5⟩
 |false=>
  refine gr ?_;subst q3;rw[QC (by simp),G5];exact⟨ow3.since e04,e04.trans e3⟩
theorem zHB(h:WF)(x:B2):WC Tryz.prog tb 148 [.agg #[.int .u8 x.kind,I x.a,I x.to,I x.els]] h fun r h'=>Wb h h' r (yp x)/\WK h h':=by
 refine en ?_;refine VG ?_;intro p h1 e1 o1;unfold yp;by_cases c2:x.kind=2
 ·rw[QG (.inl c2)];refine go ?_;refine WO.bl [x.a] ?_;intro v h2 e2 o2;refine gr ?_;exact⟨.inr (o2.since e1),e1.trans e2⟩
 by_cases c3:x.kind=3
 ·rw[QG (.inr c3)];refine go ?_;refine WO.bl [x.a] ?_;intro v h2 e2 o2;refine gr ?_;exact⟨.inr (o2.since e1),e1.trans e2⟩
 rw[QC (by simp[c2,c3])];refine gr ?_;exact⟨.inl ⟨rfl,rfl⟩,e1⟩
end Go.Proofs.YtmilpkdhbdgjfaaGreatDoor
set_option maxRecDepth 100000
namespace Go.Proofs.YtmilpkdhbdgjfaaGreatDoor
open Go.Am
theorem zMC(h:WF)(v:Value)(l:List Int)(s:Wd h v l)(hl:l.length<=1000000):WC Tryz.prog tb 131 [v] h fun r h'=>Wb h h' r l/\WK h h':=by
 refine en ?_;obtain⟨a,n,k,rfl⟩:=Wt.shape s;cases a with
 |none=>
  have hn:l=[]:=by
   rcases s.2 with⟨h0,_⟩|⟨g,off,row,hv,_⟩
   ·exact GS.1 h0
   ·cases hv
  subst hn;refine go ?_;refine VD (fun hb=> ?_) (fun hb=> ?_)
  ·refine gr ?_;exact⟨.inl ⟨rfl,rfl⟩,WK.refl _⟩
  ·exact absurd hb (by simp)
 |some a=>
  refine go ?_;refine VD (fun hb=> ?_) (fun hb=> ?_)
  ·exact absurd hb (by simp)
  ·refine go ?_;refine WO.bl [] ?_;intro v1 h1 e1 o1;have s1:=Wd.ext s e1;refine go ?_;refine Vb (.inr o1) s1 e1 (by simp only[Gh];omega) ?_;intro v2 h2 e2 o2;refine gr ?_;exact⟨o2,e2⟩
end Go.Proofs.YtmilpkdhbdgjfaaGreatDoor
