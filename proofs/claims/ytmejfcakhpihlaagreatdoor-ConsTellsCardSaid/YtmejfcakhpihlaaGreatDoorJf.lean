/- Walks of functions, plain laws; proves no statement. -/
import Derived.Test.YtmejfcakhpihlaaGreatDoorJe
set_option linter.all false
set_option maxHeartbeats 2000000
set_option maxRecDepth 100000
namespace Go.Proofs.YtmejfcakhpihlaaGreatDoor
open Go.Am
theorem zQG{hB h:WA}{cells:List Value}{A:Nat->List Int}(hl:cells.length=16)(aF:∀ j,j<16->WL hB h (cells.getD j undef) (A j)):zL cells=true:=by
 unfold zL;rw[QX];intro x hx;obtain⟨j,hj,rfl⟩:=JI.1 hx;have e:cells.getD j undef=cells[j]:=by simp[List.getD,QB hj]
 have:=aF j (by omega);rw[e]at this;rcases this with⟨h,_⟩|⟨_,_,_,h,_⟩<;>rw[h]
theorem zD5(l:List Int):Yy (.agg (l.map I).toArray)=true:=by
 show(l.map I).all yx=true;rw[QX];intro x hx;obtain⟨n,_,rfl⟩:=Qw.1 hx;rfl
theorem zQf(h:WA)(vt vf:Value)(T:List WE)(F:List Wa)(f:Int)(tt:Br h)(hm:h.mark<=h.n)(sm:BC T F)(st:Wu h vt T)(sf:Wo h vf F)(hb:(zG T F f 0).2=0):
  WC Tryz.prog tb 192 [.agg #[vt,vf],I f] h fun r h'=>(∃ p xs,r=p/\WB h h' p (xs.map I)/\Rul (Wr (zG T F f 0).1) xs)/\Ext h h':=by
 obtain⟨_,cC,FK,iM⟩:=ZO hb;have j8:=zBs iM;obtain⟨hlen,ah⟩:=Ze hb;have hE:=zIM hb;obtain⟨xY,FJ,⟨l0,j7⟩,pL,xZ,pM,x7⟩:=zAt hb;have hnd:=zDq hb;have ew:=zFs hb;have tx:∀ {pos:Int->Int},(∀ i,i<(ze T F f).1.length->pos ((ze T F f).1.getD i 0)=i)->Rpo (Wr (zG T F f 0).1) pos:=fun hp=>zLn hb hp;have aw:∀ c,Wl (Wr (zG T F f 0).1) 0 c->∃ i,i<(ze T F f).1.length/\(ze T F f).1.getD i 0=c:=fun c w=>Zw (pL c ((Z2 hb).2 w));have bA:∀ i,i<(ze T F f).1.length->Wl (Wr (zG T F f 0).1) 0 ((ze T F f).1.getD i 0):=fun i=>by
  induction i using Nat.strongRecOn with
  |_ i ih=>
   intro hi;by_cases e:(ze T F f).1.getD i 0=0
   ·rw[e];exact .here
   ·obtain⟨j,hj,hm⟩:=ew i hi e;exact .step (ih j hj (by omega)) hm
 have kP:(ze T F f).1.getD 0 0=0:=by rw[j7];rfl
 have FL:0<(ze T F f).1.length:=by rw[j7];simp
 have j9:∀ c,Wl (Wr (zG T F f 0).1) 0 c->0<=c/\c<((zG T F f 0).1.length:Int):=fun c w=>by
  induction w with
  |here=>exact⟨Ql _,cC⟩
  |step _ hc ih=>exact ah _ ih _ hc
 obtain⟨K,hK⟩:=zG9 ah (by omega);have FM:(ze T F f).2=0:=by unfold ze;rw[QC (by rw[hb];exact fun e=>e rfl)]
 clear xY j7 pL xZ x7;replace pM:=WK.mk pM;replace ew:=WK.mk ew;replace tx:WK (∀ {pos:Int->Int},(∀ i,i<(ze T F f).1.length->pos ((ze T F f).1.getD i 0)=i)->Rpo (Wr (zG T F f 0).1) pos):=WK.mk tx;replace aw:=WK.mk aw;replace bA:=WK.mk bA;replace j9:=WK.mk j9;replace hK:=WK.mk hK;replace ah:=WK.mk ah;refine en ?_;refine VF ?_;intro p2 h1 e1 o1;have o1:WB h h1 p2 [vt,vf]:=o1;refine go ?_;refine V2 ?_;refine go ?_;refine VA (zOI h1 vt vf T F f (tt.ext e1) (zp e1 hm) sm (st.ext e1) (Wo.ext sf e1)) ?_;rintro _ h2 ⟨⟨C4,rfl,FN⟩,e2⟩;have bj:=e1.trans e2;have o2:=o1.ext e2;have cW:=Wo.ext sf bj;have hF:=sm.funcs;obtain⟨iX,⟨vb,rfl,sb,cD⟩,fb,iB⟩:=zq (i:=f.toNat) cW (by omega);rw[<-FK]at sb;rw[FM];refine go ?_;refine VA (zNK h2 (zp bj hm) vb (zG T F f 0).1 sb hE) ?_;rintro _ h3 ⟨⟨cells,rfl,a7,pP⟩,e3⟩;have aN:=bj.trans e3;refine go ?_;refine WO.al ?_;intro p7 h4 e4 o4;have bz:=aN.trans e4;refine VH (cs:=cells) o4 e4 ?_ (hn:=a7) (h1:=zQG a7 pP);intro aQ e5 o5 u5;have eb:=aN.trans e5;have KM:WQ aQ C4 (ze T F f).1:=FN.sl.ext (e3.trans e5);have Kr:WK (∀ j,j<16->WQ aQ (cells.getD j undef) (zW (zG T F f 0).1 (j:Int) (zG T F f 0).1.length)):=⟨fun j hj=>(pP j hj).sl.ext e5⟩;have o7:WB h aQ p7 cells:=o5.since aN;obtain⟨g7,rfl⟩:∃ g7,p7=.pointer (some ⟨g7,0,none⟩):=let⟨g,_,_,e,_⟩:=o7;⟨g,e⟩;have FP:WL h aQ C4 (ze T F f).1:=(FN.ext (e3.trans e5)).since e1;clear o4 o5 u5 fb iB sb cW pP FN;generalize hO:(ze T F f).1=O at *;generalize fe:Wr (zG T F f 0).1=nx at *;refine go ?_;refine VF ?_;intro p8 h6 e6 o6;obtain⟨g8,hg8,Ox,rfl⟩:∃ g8,aQ.n<=g8/\g8<h6.n/\p8=.pointer (some ⟨g8,0,none⟩):=let⟨g,a,b,c,_⟩:=o6;⟨g,a,b,c⟩;have o8:WB aQ h6 (.pointer (some ⟨g8,0,none⟩)) ((List.replicate 32 (0:Int)).map I):=o6;clear o6;have cT:aQ.mark<=aQ.n:=zp eb hm;refine go ?_;refine VD (fun k=>17-k) (fun(k:Nat) t h'=>zC t 33=I (k:Int)/\k<=16/\Ext aQ h'/\∃ xs:List Int,WB aQ h' (.pointer (some ⟨g8,0,none⟩)) (xs.map I)/\xs.length=32/\WK (∀ j,j<k->xs.getD j 0= -1/\xs.getD (16+j) 0= -1)) 0 ?_ ?_
 ·exact⟨WH,by omega,e6,_,o8,by simp,⟨fun j hj=>by omega⟩⟩
 rintro k t h7 ab ⟨s33,hk,e7,xs,o9,nS,hx⟩;refine go ?_;refine VE (fun hc=> ?_) (fun hc=> ?_)<;>simp only[DB]at hc
 ·have bK:k<16:=by omega
  refine go ?_;refine VC 0 rfl rfl ?_;have oX:WB aQ (inC (zB 0 h7)) (.pointer (some ⟨g8,0,none⟩)) (xs.map I):=o9;refine WJ ?_;refine UT (j:=k) oX (by rw[e7.mark];exact cT) (by omega) ?_;intro X1 n1 jU u1 w1;have oY1:WB aQ (inC X1) (.pointer (some ⟨g8,0,none⟩)) ((xs.set k (-1)).map I):=jU;have eD:(xs.set k (-1)).length=32:=by rw[Gh];exact nS
  refine WJ ?_;refine Ua (j:=16+k) jU e7 (by rw[e7.mark];exact cT) n1 u1 w1 (by rw[Gh];omega) ?_;intro h8 e8 tz u8;refine go ?_;refine zA (k+1) (by omega) ⟨WH,by omega,e8,_,tz,by simp[nS],⟨fun j hj=> ?_⟩⟩;simp only[ZZ (show 16+k<(xs.set k (-1)).length by omega),ZZ (show k<xs.length by omega)];by_cases e:j=k
  ·rw[QC (by omega),QF e,QF (by omega)];exact⟨rfl,rfl⟩
  ·rw[QC (by omega),QC e,QC (by omega),QC (by omega)];exact hx.out j (by omega)
 have jC:k=16:=by omega
 subst jC;replace hx:WK (∀ j,j<32->xs.getD j 0= -1):=⟨fun j hj=>by
  by_cases h:j<16
  ·exact(hx.out j h).1
  ·have:=(hx.out (j-16) (by omega)).2;rw[show 16+(j-16)=j by omega]at this;exact this⟩
 refine go ?_;have tA:WQ h7 C4 O:=KM.ext e7;have mA:∀ i,i<O.length->O.getD i 0∈O:=fun i hi=>by rw[QG,QB hi];exact List.getElem_mem hi
 have x8:∀ i,i<O.length->0<=O.getD i 0/\O.getD i 0<16:=fun i hi=>by have:=pM.out _ (mA i hi);omega
 replace mA:=WK.mk mA;replace x8:=WK.mk x8;refine VD (fun k=>O.length+1-k) (fun(k:Nat) t h'=>zC t 49=I (k:Int)/\k<=O.length/\Ext aQ h'/\∃ xs:List Int,WB aQ h' (.pointer (some ⟨g8,0,none⟩)) (xs.map I)/\xs.length=32/\WK ((∀ j,j<16->xs.getD j 0= -1)/\∀ i,i<k->xs.getD (16+(O.getD i 0).toNat) 0=i)) 0 ?_ ?_
 ·exact⟨WH,by omega,e7,_,o9,nS,⟨fun j hj=>hx.out j (by omega),fun i hi=>by omega⟩⟩
 clear e7 o9 tA;rintro k t2 h7 aZ ⟨s49,hk,e7,xs,o9,nS,hx⟩;have tA:WQ h7 C4 O:=KM.ext e7;refine go ?_;refine VE (fun hc=> ?_) (fun hc=> ?_)<;>simp only[DB]at hc
 ·have bK:k<O.length:=by omega
  obtain⟨cZ,aI⟩:=x8.out k bK;refine go ?_;refine V6 (j:=16+(O.getD k 0).toNat) o9 e7 (by omega) ?_;intro h8 e8 tz u8;refine go ?_;refine zA (k+1) (by omega) ⟨WH,by omega,e8,_,tz,by simp[nS],⟨fun j hj=> ?_,fun i hi=> ?_⟩⟩
  ·rw[ZZ (by omega),QC (by omega)];exact hx.out.1 j hj
  ·rw[ZZ (by omega)];obtain⟨iz,kN⟩:=x8.out i (by omega);by_cases e:i=k
   ·subst e;rw[QF rfl]
   ·rw[QC (fun e2=>e (zAM hnd (by omega) bK (by omega)))];exact hx.out.2 i (by omega)
 have jC:k=O.length:=by omega
 subst jC;refine go ?_;refine V6 (j:=0) o9 e7 (by omega) ?_;clear e7;intro h8 e8 tz u8;obtain⟨ec,mB⟩:∃ l,l=xs.set 0 (0:Int):=⟨_,rfl⟩;rw[<-mB]at tz;have fP:ec.length=32:=by rw[mB];simp[nS]
 have iC:∀ j,j<16->ec.getD j 0=if j=0 then 0 else -1:=fun j hj=>by
  rw[mB,ZZ (by omega)];by_cases e:j=0
  ·rw[QF e,QF e]
  ·rw[QC e,QC e];exact hx.out.1 j hj
 have FQ:∀ i,i<O.length->ec.getD (16+(O.getD i 0).toNat) 0=i:=fun i hi=>by
  rw[mB,ZZ (by omega),QC (by omega)];exact hx.out.2 i hi
 obtain⟨qs,FT⟩:∃ l,l=ec.drop 16:=⟨_,rfl⟩;have r0:Rnd nx qs ec 0:=by
  have hz:pO ec 0=0:=(iC 0 (by omega)).trans (QF rfl);have rp:Rpo nx (fun b=>qO ec b):=tx.out fun i hi=>FQ i hi;refine⟨⟨fP,rp,?_,fun c w=>by have:=j9.out c w;omega⟩,FT.symm,?_,?_,?_⟩
  ·have cH:∀ b,Wl nx 0 b->b≠0->pO ec b= -1:=fun b w hb=>by
    have:=j9.out b w;exact(iC b.toNat (by omega)).trans (QC (by omega))
   exact⟨hz,fun b w hb hp=>absurd (cH b w hb) hp,fun b w hb hp=>absurd (cH b w hb) hp⟩
  ·intro c x hx;cases hx with
   |here h=>exact zIG (nx:=nx) (p:=fun b=>pO ec b) (k:=0) hz x (.here h)
  ·intro c h1 h2 h3;exact(iC c.toNat (by omega)).trans (QC (fun e=>h3 (by rw[show c=0 by omega];exact .here)))
  ·intro h;omega
 obtain⟨x9,kB,KN⟩:=zMn FP FL;have Aa:∀ {l:List Int},l.drop 16=qs->∀ i,i<O.length->qO l (O.getD i 0)=i:=fun e i hi=>by
  rw[zKN,e,FT,<-zKN];exact FQ i hi
 replace Aa:WK (∀ {l:List Int},l.drop 16=qs->∀ i,i<O.length->qO l (O.getD i 0)=i):=WK.mk Aa;clear iC FQ FT mB hx;refine go ?_;refine VD (fun p=>max K 1+1-p.1) (fun(p:Nat×List Int) t h'=>Ext aQ h'/\WB aQ h' (.pointer (some ⟨g8,0,none⟩)) (p.2.map I)/\p.1<=max K 1/\WK (Rnd nx qs p.2 p.1)) (0,ec) ?_ ?_
 ·exact⟨e8,tz,QK _,⟨r0⟩⟩
 clear e8 tz u8 r0 o9 tA;rintro⟨k,xs⟩ t3 h9 cN ⟨e9,o9,Oy,⟨r⟩⟩;simp only at o9 Oy r;have nS:=r.dm.len;replace r:=WK.mk r;refine go ?_;refine Vn (j:=0) (n:=16) o9 (by omega) ?_;refine go ?_;refine WO.al ?_;intro pQ gV bJ fg;refine go ?_;refine VH (cs:=((xs.drop 0).take 16).map I) fg bJ ?_ (hn:=by simp;omega) (h1:=zC7 _);intro gH dI jD C5;have jD:WB aQ gH pQ (((xs.drop 0).take 16).map I):=jD.since e9;obtain⟨vZ,Oz,rfl⟩:∃ vZ,h9.n<=vZ/\pQ=.pointer (some ⟨vZ,0,none⟩):=let⟨g,a,b,c,_⟩:=fg;⟨g,a,c⟩;have h98:g8<h9.n:=by obtain⟨q,q1,q2,q3,_⟩:=o9;cases q3;exact q2
 have aq:Value.pointer (some ⟨g8,0,none⟩)≠ .pointer (some ⟨vZ,0,none⟩):=fun e=>by cases e;omega
 have fM:=e9.trans dI;have o9:=o9.ext dI;have Ab:WQ gH x9 (O.drop 1):=KN.ext fM;refine go ?_;refine Vi (i:=1) kB ?_ (hy:=rfl);refine go ?_;have hdl:(O.drop 1).length=O.length-1:=by simp
 refine VD (fun p=>O.length-p.1) (fun(p:Nat×List Int) t h'=>zC t 72=I (p.1:Int)/\p.1+1<=O.length/\Ext aQ h'/\WB aQ h' (.pointer (some ⟨g8,0,none⟩)) (p.2.map I)/\WB aQ h' (.pointer (some ⟨vZ,0,none⟩)) (((xs.drop 0).take 16).map I)/\WK (Md nx O qs xs p.2 k (p.1+1))) (0,xs) ?_ ?_
 ·exact⟨WH,by omega,fM,o9,jD,⟨Xh r.out kP⟩⟩
 clear fM o9 jD Ab;rintro⟨m,ys⟩ t4 dB mC ⟨OA,Ac,az,dH,Ad,g⟩;simp only at OA Ac dH g;have hly:=g.out.dm.len;have Ae:WQ dB x9 (O.drop 1):=KN.ext az;refine go ?_;refine VE (fun hc=> ?_) (fun hc=> ?_)<;>simp only[DB]at hc
 ·have kG:m+1<O.length:=by omega
  have hmd:m<(O.drop 1).length:=by omega
  have OB:(O.drop 1).getD m 0=O.getD (m+1) 0:=by simp[List.getD,Nat.add_comm]
  obtain⟨cZ,aI⟩:=x8.out (m+1) kG;have FU:=bA.out (m+1) kG;obtain⟨ja,c9,OC⟩:=ew.out (m+1) kG (fun e=>by have:=zAM hnd kG FL (e.trans kP.symm);omega);have FV:O.getD (m+1) 0≠0:=fun e=>by have:=zAM hnd kG FL (e.trans kP.symm);omega
  refine go ?_;rw[OB];generalize Af:O.getD (m+1) 0=b at *;have OD:WB h dB (.pointer (some ⟨g7,0,none⟩)) cells:=o7.ext az;have FW:b.toNat<16:=by omega
  obtain⟨A,hA⟩:∃ A,zW (zG T F f 0).1 b (zG T F f 0).1.length=A:=⟨_,rfl⟩;have sA:WQ dB (cells.getD b.toNat undef) A:=by
   have:=(Kr.out b.toNat FW).ext az;rw[show((b.toNat:Nat):Int)=b by omega,hA]at this;exact this
  have OE:A.length<=16:=by rw[<-hA];have:=zAJ (zG T F f 0).1 b (zG T F f 0).1.length;omega
  have FX:WK (∀ j,j<A.length->(0<=A.getD j 0/\A.getD j 0<16)/\b∈nx (A.getD j 0)):=⟨fun j hj=>by
   have:=zOO hA hj;rw[fe]at this;exact⟨by omega,this.2⟩⟩
  refine go ?_;refine XD (i:=b.toNat) OD (by omega) ?_;refine go ?_;have FY:WK (Dm nx ys):=⟨g.out.dm⟩;have OF:WK (∀ a,0<=a->a<16->pO ys a≠ -1->Wl nx 0 a):=⟨fun a h1 h2 h3=>Gi fun h4=>h3 (g.out.un a h1 h2 h4)⟩;refine VD (fun p=>A.length-p.1) (fun(p:Nat×Int) t h'=>dB=h'/\zC t 80=I (p.1:Int)/\p.1<=A.length/\zC t 15=I p.2/\WK (Bst nx ys b A p.1 p.2)) (0,-1) ?_ ?_
  ·exact⟨rfl,WH,by omega,WH,⟨.inl ⟨rfl,fun i hi=>by omega⟩⟩⟩
  rintro⟨j,v⟩ t5 _ tB ⟨rfl,OG,hj,Ag,we⟩;simp only at OG hj Ag we;refine go ?_;refine VE (fun hd=> ?_) (fun hd=> ?_)<;>simp only[DB]at hd
  ·have fD:j<A.length:=by omega
   obtain⟨⟨OH,xj⟩,du⟩:=FX.out j fD;refine go ?_;generalize rb:A.getD j 0=a at *;refine VE (fun hq=> ?_) (fun hq=> ?_)<;>simp only[DB]at hq
   ·refine go ?_;refine zA (j+1,v) (by show A.length-(j+1)<A.length-j;omega) ⟨rfl,WH,by show j+1<=_;omega,WH,⟨we.out.skip (by rw[rb];exact hq)⟩⟩
   have wa:=OF.out a OH xj hq;refine go ?_;refine VE (fun hv=> ?_) (fun hv=> ?_)<;>simp only[DB]at hv
   ·have hv:v= -1:=hv;subst hv;refine go ?_;refine zA (j+1,a) (by show A.length-(j+1)<A.length-j;omega) ⟨rfl,WH,by show j+1<=_;omega,WH,⟨?_⟩⟩;have:=we.out.first (by rw[rb];exact wa) (by rw[rb];omega) (by rw[rb];exact du) (by rw[rb];exact hq)
    rw[rb]at this;exact this
   have hv:v≠ -1:=hv;have wv:Wl nx 0 v/\pO ys v≠ -1:=by
    rcases we.out with⟨e,_⟩|⟨_,e1,e2,_⟩
    ·exact absurd e hv
    ·exact⟨e1,e2⟩
   refine go ?_;refine VA (zO6 aQ dB (.pointer (some ⟨g8,0,none⟩)) nx ys v a dH FY wv.1 wa wv.2 hq) ?_;rintro _ _ ⟨⟨mm,rfl,gW⟩,rfl⟩;refine go ?_;have KO:=FY.out.bnd mm gW.way;refine zA (j+1,mm) (by show A.length-(j+1)<A.length-j;omega) ⟨rfl,WH,by show j+1<=_;omega,WH,⟨?_⟩⟩;exact we.out.meet hv (by omega) (by rw[rb];exact du) (by rw[rb];exact gW)
  have re:j=A.length:=by omega
  subst re;have bt:Best nx (fun b=>qO ys b) (fun b=>pO ys b) b v:=by
   have wp:=bA.out ja (by omega);refine we.out.best FY.out (fun a wa du=> ?_) wp OC (g.out.pre ja c9).2 ?_
   ·refine Zw ?_;rw[<-hA];exact zDh.2 ⟨j9.out a wa,by rw[fe];exact du⟩
   ·rw[Aa.out g.out.qs ja (by omega),<-Af,Aa.out g.out.qs (m+1) kG];omega
  refine go ?_;refine V6 (j:=b.toNat) dH az (by omega) ?_;intro C6 dk wg OI;have FZ:=zN4 Ad OI aq;refine go ?_;refine zA (m+1,ys.set b.toNat v) (by show O.length-(m+1)<O.length-m;omega) ⟨WH,by show m+1+1<=_;omega,dk,wg,FZ,⟨?_⟩⟩;have:=g.out.step (v:=v) hnd kG (by omega) (by rw[Af];exact FV) (by rw[Af];exact FU) (by rw[Af];exact bt) nS;rw[Af]at this;exact this
 have KO:m+1=O.length:=by omega
 have g:WK (Md nx O qs xs ys k O.length):=by rw[<-KO];exact g
 clear Ae Ac hc;refine go ?_;refine Vn (j:=0) (n:=16) Ad (by simp;omega) ?_ (hx:=by show WM _ _ (.pointer (some ⟨vZ,0,none⟩));exact zi);refine go ?_;refine Vn (j:=0) (n:=16) dH (by omega) ?_;refine Vt (zOi (n:=16) (xs:=(((xs.drop 0).take 16).drop 0).take 16) (ys:=(ys.drop 0).take 16) (by kernel_rfl) (by simp;omega) (by simp;omega)) ?_ (hc:=by rw[zD5,zD5];rfl);have OJ:decide (((((xs.drop 0).take 16).drop 0).take 16)=((ys.drop 0).take 16))=decide (xs=ys):=decide_eq_decide.2 ⟨fun e=>by
  simp only[Q2,List.take_take,Nat.min_self]at e;exact zKr e (r.out.qs.trans g.out.qs.symm),fun e=>by rw[e];simp[List.take_take]⟩
 rw[OJ];have rd:=g.out.done aw.out;refine go ?_;refine VE (fun hd=> ?_) (fun hd=> ?_)<;>simp only[DB]at hd
 ·have hd:xs=ys:=hd;subst hd;refine go ?_;refine zH4 ?_;refine rt ?_;exact⟨⟨_,xs,rfl,(dH.since eb),zQD g.out aw.out kP fun b w=>by obtain⟨i,hi,e⟩:=aw.out b w;rw[<-e,Aa.out g.out.qs i hi];omega⟩,eb.trans az⟩
 have jC:k<max K 1:=by
  refine Nat.lt_of_not_le fun hle=>hd ?_;exact(zJJ r.out g.out aw.out kP j9.out hK.out (by omega) (by omega) nS hnd bA.out).symm
 refine go ?_;exact zA (k+1,ys) (by show max K 1+1-(k+1)<max K 1+1-k;omega) ⟨az,dH,by show k+1<=_;omega,⟨rd⟩⟩
end Go.Proofs.YtmejfcakhpihlaaGreatDoor
set_option maxRecDepth 100000
namespace Go.Proofs.YtmejfcakhpihlaaGreatDoor
open Go.Am
def nxF(T:List WE)(F:List Wa)(f:Int):Int->List Int:=Wr (zG T F f 0).1
def YX(T:List WE)(F:List Wa)(f b:Int):Int:=
 if(zG T F f 0).2≠0 then(zG T F f 0).2 else if b<0\/((zG T F f 0).1.length:Int)<=b then 2 else if b∈(yX T F f).1 then 0 else 6
theorem zJ5{T:List WE}{F:List Wa}{f b:Int}(h:YX T F f b=0):(zG T F f 0).2=0/\Wl (nxF T F f) 0 b:=by
 unfold YX at h;split at h
 ·rename_i hb;exact absurd h hb
 ·rename_i hb;have hb:(zG T F f 0).2=0:=by simpa using hb
  split at h
  ·cases h
  ·split at h
   ·rename_i hm;exact⟨hb,(Z2 hb).1 hm⟩
   ·cases h
theorem zQo{T:List WE}{F:List Wa}{f b:Int}(hb:(zG T F f 0).2=0)(w:Wl (nxF T F f) 0 b):0<=b/\b<((zG T F f 0).1.length:Int):=by
 obtain⟨_,cC,_,_⟩:=ZO hb;obtain⟨hlen,ah⟩:=Ze hb;induction w with
 |here=>exact⟨Ql _,cC⟩
 |step _ hc ih=>exact ah _ ih _ hc
structure Env(h:WA)(vt vf:Value)(T:List WE)(F:List Wa):Prop where
 tt:Br h
 hm:h.mark<=h.n
 sm:BC T F
 st:Wu h vt T
 sf:Wo h vf F
theorem Env.ext{h h':WA}{vt vf:Value}{T:List WE}{F:List Wa}(E:Env h vt vf T F)(e:Ext h h'):Env h' vt vf T F:=
 ⟨E.tt.ext e,zp e E.hm,E.sm,E.st.ext e,Wo.ext E.sf e⟩
theorem zKq(h:WA)(vt vf:Value)(T:List WE)(F:List Wa)(f b:Int)(E:Env h vt vf T F):
  WC Tryz.prog tb 134 [.agg #[vt,vf],I f,I b] h fun r h'=>(∃ p,r=.tuple #[p,I (YX T F f b)]/\(YX T F f b=0->∃ xs,WB h h' p (xs.map I)/\Rul (nxF T F f) xs))/\Ext h h':=by
 refine en ?_;refine VF ?_;intro p h1 e1 o1;have E1:=E.ext e1;refine go ?_;refine VA (zIP h1 vt vf T F f E1.tt E1.hm E1.sm E1.st E1.sf) ?_;rintro _ h2 ⟨⟨rev,rfl,OK⟩,e2⟩;have bj:=e1.trans e2;have E2:=E1.ext e2;have o2:=o1.ext e2;have OL:=OK.sl;rw[zGP];by_cases hb:(zG T F f 0).2=0;case neg=>
  have cY:(zG T F f 0).2≠0:=hb;have ha:YX T F f b=(zG T F f 0).2:=by unfold YX;rw[QF hb]
  refine gr ?_;rw[ha];exact⟨⟨_,rfl,fun h=>absurd h hb⟩,bj⟩
 obtain⟨_,cC,FK,iM⟩:=ZO hb;have j8:=zBs iM;obtain⟨hlen,ah⟩:=Ze hb;rw[hb];have hF:=E.sm.funcs;have cW:=E2.sf;refine go ?_;by_cases aQ:b<0
 ·have ha:YX T F f b=2:=by unfold YX;rw[QC (by rw[hb];exact fun e=>e rfl),QF (.inl aQ)]
  refine gr ?_;rw[ha];exact⟨⟨_,rfl,fun h=>by cases h⟩,bj⟩
 obtain⟨iX,⟨vb,rfl,sb,cD⟩,fb,iB⟩:=zq (i:=f.toNat) cW (by omega);rw[<-FK]at sb;by_cases cZ:((zG T F f 0).1.length:Int)<=b
 ·have ha:YX T F f b=2:=by unfold YX;rw[QC (by rw[hb];exact fun e=>e rfl),QF (.inr cZ)]
  refine gr ?_;rw[ha];exact⟨⟨_,rfl,fun h=>by cases h⟩,bj⟩
 have td:((yX T F f).1.length:Int)<=9223372036854775807:=by
  obtain⟨l1,l2,_⟩:=zAt hb;omega
 refine go ?_;refine VA (zAW h2 rev (yX T F f).1 b OL td) ?_;rintro _ _ ⟨rfl,rfl⟩;by_cases nF:b∈(yX T F f).1;case neg=>
  have ha:YX T F f b=6:=by unfold YX;rw[QC (by rw[hb];exact fun e=>e rfl),QC (by omega),QC nF]
  refine gr ?_;rw[ha];exact⟨⟨_,rfl,fun h=>by cases h⟩,bj⟩
 have ha:YX T F f b=0:=by unfold YX;rw[QC (by rw[hb];exact fun e=>e rfl),QC (by omega),QF nF]
 refine go ?_;refine VA (zQf h2 vt vf T F f E2.tt E2.hm E2.sm E2.st E2.sf hb) ?_;rintro _ h3 ⟨⟨q,xs,rfl,oq,hR⟩,e3⟩;refine gr ?_;rw[ha];exact⟨⟨_,rfl,fun _=>⟨xs,oq.since bj,hR⟩⟩,bj.trans e3⟩
noncomputable def upL(xs:List Int)(b:Int):Int:=if b=0 then -1 else pO xs b
noncomputable def zIX(nx:Int->List Int)(c:Int):Nat:=open Classical in (List.range 16).countP fun(j:Nat)=>decide (BH nx (j:Int) c)
theorem zOu(nx:Int->List Int)(c:Int):zIX nx c<=16:=by
 classical
 unfold zIX;exact QP List.countP_le_length (by simp)
theorem zNh{nx:Int->List Int}{c:Int}(h:0<=c/\c<16):1<=zIX nx c:=by
 classical
 unfold zIX;refine List.countP_pos_iff.2 ⟨c.toNat,GV.2 (by omega),?_⟩;show decide (BH nx ((c.toNat:Nat):Int) c)=true;rw[Ge,show((c.toNat:Nat):Int)=c by omega];exact BH.self nx c
theorem zPb{nx:Int->List Int}{c n:Int}(h:0<=c/\c<16)(hs:∀ a,BH nx a n->BH nx a c)(hn:¬BH nx c n):zIX nx n<zIX nx c:=by
 classical
 unfold zIX;have hc:((c.toNat:Nat):Int)=c:=by omega
 refine zFU (p:=fun(j:Nat)=>decide (BH nx (j:Int) c)) (q:=fun(j:Nat)=>decide (BH nx (j:Int) n)) (i:=c.toNat) (Qc (by rw[hc];exact BH.self nx c)) (QY (by rw[hc];exact hn)) (fun j _ hj=> ?_) (GV.2 (by omega));exact Qc (hs _ (of_decide_eq_true hj))
theorem Rul.step{nx:Int->List Int}{xs:List Int}{c:Int}(r:Rul nx xs)(w:Wl nx 0 c)(hc:c≠0):Wl nx 0 (pO xs c)/\(∀ a,BH nx a c↔a=c\/BH nx a (pO xs c))/\¬BH nx c (pO xs c):=by
 obtain⟨u1,u2,u3⟩:=r.dm.rl.up c w hc (r.all c w);refine⟨u1,fun a=> ?_,fun h=> ?_⟩
 ·rw[<-r.dom a c w,<-r.dom a _ u1];constructor
  ·intro h;cases h with
   |here=>exact .inl rfl
   |up _ _ h=>exact .inr h
  ·rintro(rfl|h)
   ·exact .here
   ·exact .up hc (r.all c w) h
 ·have h2:=r.dm.rl.le ((r.dom _ _ u1).2 h) u1;have h3:=h2.2.1;have h3:qO xs c<=qO xs (pO xs c):=h3;have u3:qO xs (pO xs c)<qO xs c:=u3;omega
def Chn(nx:Int->List Int)(a b:Int)(i:Nat)(c:Int)(met:Bool):Prop:=
 (c= -1/\(BH nx a b↔met=true))\/(Wl nx 0 c/\(0<=c/\c<16)/\zIX nx c+i<=16/\(BH nx a b↔met=true\/BH nx a c))
theorem Chn.last{nx:Int->List Int}{a b:Int}{i:Nat}{met:Bool}(h:Chn nx a b i 0 met):Chn nx a b (i+1) (-1) (met||decide (0=a)):=by
 rcases h with⟨h,_⟩|⟨_,_,_,h⟩
 ·cases h
 ·refine .inl ⟨rfl,h.trans ?_⟩;rw[GN,Ge];refine⟨fun h=>h.imp id fun h=> ?_,fun h=>h.imp id fun h=> ?_⟩
  ·exact Gi fun e=>h ⟨0,.here e⟩
  ·rw[<-h];exact BH.self _ _
theorem Chn.next{nx:Int->List Int}{xs:List Int}{a b c:Int}{i:Nat}{met:Bool}(r:Rul nx xs)(hc:0<c)(h:Chn nx a b i c met):Chn nx a b (i+1) (pO xs c) (met||decide (c=a))/\pO xs c≠c/\0<=pO xs c:=by
 rcases h with⟨h,_⟩|⟨w,bd,hn,h⟩
 ·omega
 ·obtain⟨u1,u2,u3⟩:=r.step w (by omega);have hb:=r.dm.bnd _ u1;refine⟨.inr ⟨u1,hb,?_,h.trans ?_⟩,fun e=> ?_,hb.1⟩
  ·have:=zPb bd (fun a ha=>(u2 a).2 (.inr ha)) u3;omega
  ·rw[u2 a,GN,Ge];refine⟨?_,?_⟩
   ·rintro(h|rfl|h)
    ·exact .inl (.inl h)
    ·exact .inl (.inr rfl)
    ·exact .inr h
   ·rintro((h|h)|h)
    ·exact .inl h
    ·exact .inr (.inl h.symm)
    ·exact .inr (.inr h)
  ·exact u3 (by rw[e];exact BH.self _ _)
theorem Chn.way{nx:Int->List Int}{a b c:Int}{i:Nat}{met:Bool}(h:Chn nx a b i c met)(hc:0<=c):Wl nx 0 c/\c<16/\i<=15:=by
 rcases h with⟨h,_⟩|⟨w,bd,hn,h⟩
 ·omega
 ·have:=zNh (nx:=nx) bd;exact⟨w,bd.2,by omega⟩
end Go.Proofs.YtmejfcakhpihlaaGreatDoor
set_option maxRecDepth 100000
namespace Go.Proofs.YtmejfcakhpihlaaGreatDoor
open Go.Am
def yF:List Wc->Int->Int×Int
 |[],a=>(0,a)
 |b::l,a=>if(b.ins.length:Int)<=a then((yF l (a-b.ins.length)).1+1,(yF l (a-b.ins.length)).2)else(0,a)
def ZH(T:List WE)(F:List Wa)(f r:Int):Int×Int×Int:=
 if(yL T F f).2≠0 then(0,0,(yL T F f).2)
 else if r<0\/(yL T F f).1+zJ (F.getD f.toNat default).blocks<=r then(0,0,2)
 else if r<(yL T F f).1 then(-1,r,0)
 else((yF (F.getD f.toNat default).blocks (r-(yL T F f).1)).1,(yF (F.getD f.toNat default).blocks (r-(yL T F f).1)).2,0)
theorem Zj(b:Wc)(l:List Wc):zJ (b::l)=(b.ins.length:Int)+zJ l:=by unfold zJ;simp
theorem zB1{l:List Wc}:∀ {a:Int},0<=a->a<zJ l->0<=(yF l a).1/\(yF l a).1<(l.length:Int)/\0<=(yF l a).2/\(yF l a).2<((l.getD (yF l a).1.toNat default).ins.length:Int):=by
 induction l with
 |nil=>intro a h0 h1;simp[zJ]at h1;omega
 |cons b l ih=>
  intro a h0 h1;rw[Zj]at h1;unfold yF;split
  ·rename_i h;obtain⟨i1,i2,i3,i4⟩:=ih (a:=a-b.ins.length) (by omega) (by omega);refine⟨by simp only;omega,by simp only[GF];omega,i3,?_⟩;simp only;rw[show((yF l (a - ↑b.ins.length)).1+1).toNat=(yF l (a - ↑b.ins.length)).1.toNat+1 by omega];simpa [List.getD]using i4
  ·rename_i h;exact⟨Ql _,by simp only[GF];omega,h0,by simpa [List.getD]using(by omega:a<(b.ins.length:Int))⟩
def zPp(T:List WE)(F:List Wa)(f r block at':Int):Prop:=
 (ZH T F f r).1= -1\/((ZH T F f r).1=block/\(ZH T F f r).2.1<at')\/((ZH T F f r).1≠ -1/\(ZH T F f r).1≠block/\BH (nxF T F f) (ZH T F f r).1 block)
theorem zLp{T:List WE}{F:List Wa}{f r:Int}(h:(ZH T F f r).2.2=0):(yL T F f).2=0/\((ZH T F f r).1= -1\/(0<=(ZH T F f r).1/\(ZH T F f r).1<((F.getD f.toNat default).blocks.length:Int)/\0<=(ZH T F f r).2.1/\(ZH T F f r).2.1<(((F.getD f.toNat default).blocks.getD (ZH T F f r).1.toNat default).ins.length:Int))):=by
 unfold ZH at h |-;split at h
 ·rename_i hh;exact absurd h hh
 ·rename_i hh;rw[QC hh];refine⟨by omega,?_⟩;split at h
  ·cases h
  ·rename_i h2;rw[QC h2];split at h
   ·rename_i h3;rw[QF h3];exact .inl rfl
   ·rename_i h3;rw[QC h3];right;exact zB1 (by omega) (by omega)
end Go.Proofs.YtmejfcakhpihlaaGreatDoor
set_option maxRecDepth 100000
namespace Go.Proofs.YtmejfcakhpihlaaGreatDoor
open Go.Am
noncomputable def YU(xs:List Int)(n:Nat):List Int:=(List.range n).map fun(i:Nat)=>upL xs (i:Int)
theorem zKt(xs:List Int)(n:Nat):(YU xs n).length=n:=by unfold YU;simp
theorem zOc(h:WA)(vt vf:Value)(T:List WE)(F:List Wa)(f:Int)(E:Env h vt vf T F):
  WC Tryz.prog tb 82 [.agg #[vt,vf],I f] h fun r h'=>(∃ v l,r=.tuple #[v,I (YX T F f 0)]/\WL h h' v l/\l.length<=16/\(YX T F f 0=0->∃ xs,Rul (nxF T F f) xs/\l=YU xs (F.getD f.toNat default).blocks.length)/\(YX T F f 0≠0->l=[]))/\Ext h h':=by
 have hF:=E.sm.funcs;refine en ?_;refine VF ?_;intro p h1 e1 o1;have E1:=E.ext e1;refine go ?_;refine VA (zKq h1 vt vf T F f 0 E1) ?_;rintro _ h2 ⟨⟨q,rfl,hq⟩,e2⟩;have o1:=o1.ext e2;have bj:=e1.trans e2;have E2:=E1.ext e2;have cW:=E2.sf;by_cases ha:YX T F f 0=0;case neg=>
  have KI:YX T F f 0≠0:=ha;refine gr ?_;exact⟨⟨_,[],rfl,.inl ⟨rfl,rfl⟩,by simp,fun h=>absurd h ha,fun _=>rfl⟩,bj⟩
 obtain⟨xs,oq,hR⟩:=hq ha;have nS:=hR.dm.len;obtain⟨g,rfl⟩:∃ g,q=.pointer (some ⟨g,0,none⟩):=let⟨g,_,_,e,_⟩:=oq;⟨g,e⟩;obtain⟨hz,_⟩:=zJ5 ha;obtain⟨OM,F3,C7,KP⟩:=ZO hz;have ah:=zBs KP;obtain⟨hlen,fe⟩:=Ze hz;rw[C7]at hlen F3;rw[ha];replace hR:=WK.mk hR;obtain⟨ta,tn,tk,rfl⟩:=zD E.st;obtain⟨ga,gn,gk,rfl⟩:=zD cW;obtain⟨iX,⟨vb,rfl,sb,cD⟩,fb,iB⟩:=zq (i:=f.toNat) cW (by omega);obtain⟨_,_,_,rfl⟩:=zD sb;generalize(F.getD f.toNat default).blocks=L at *;refine go ?_;refine VD (fun i=>L.length-i) (fun i t h3=>Ext h2 h3/\zC t 24=I i/\i<=L.length/\∃ w,zC t 4=w/\WL h2 h3 w ((List.range i).map fun(j:Nat)=>pO xs (j:Int))) 0 ?_ ?_
 ·exact⟨Ext.refl _,WH,QK _,_,WH,.inl ⟨rfl,rfl⟩⟩
 rintro i t h3 ab ⟨e3,s24,hi,w,s4,ow⟩;have oq3:=oq.ext e3;refine go ?_;refine VE (fun hc=> ?_) (fun hc=> ?_)<;>simp only[DB]at hc
 ·have ae:i<L.length:=by omega
  refine go ?_;refine WO.bl [xs.getD i 0] ?_;intro v7 h7 e7 o7;refine go ?_;refine VN (ow.ext e7) o7.sl (e3.trans e7) (by simp;omega) ?_;intro v8 h8 e8 o8;refine go ?_;refine zA (i+1) (by omega) ⟨e8,Wn,by omega,v8,WH,?_⟩;rw[G3,Qx];exact o8
 ·have aK:i=L.length:=by omega
  subst aK;have cC:0<L.length:=by omega
  obtain⟨m,hm⟩:∃ m,m=(List.range L.length).map fun(j:Nat)=>pO xs (j:Int):=⟨_,rfl⟩;have td:m.length=L.length:=by rw[hm];simp
  rw[<-hm]at ow;rcases ow with⟨_,h0⟩|ow
  ·rw[h0]at td;simp at td;omega
  have sw:=ow.sl;refine go ?_;refine XS (i:=0) (a:= -1) zi zi ow e3 (by omega) ?_;intro h4 e4 o4 _;refine gr ?_;refine⟨⟨_,_,rfl,.inr (o4.since bj),by rw[Gh];omega,fun _=>⟨xs,hR.out,?_⟩,fun h=>absurd rfl h⟩,bj.trans e4⟩;rw[hm];refine G6 (by simp[YU]) fun j gK gh=> ?_;simp only[YU,List.getElem_map,List.getElem_range,List.getElem_set];by_cases hj:0=j
  ·subst hj;simp[upL]
  ·rw[QC hj];unfold upL;rw[QC (by omega)]
theorem BF:(∀ a:Prop,∀ [Decidable a],(decide a=true)=a)/\(∀ a:Prop,∀ [Decidable a],(decide a=false)=¬a)/\(∀ b:Bool,((!b)=true)=(b=false))/\(∀ b:Bool,((!b)=false)=(b=true))/\
  ((true=true)=True)/\((false=false)=True)/\((true=false)=False)/\((false=true)=False)/\(∀ a:Prop,(True↔a)=a)/\(∀ a:Prop,(False↔a)=¬a)/\(∀ a b:Bool,((a&&b)=true)=(a=true/\b=true))/\(∀ a b:Bool,((a||b)=true)=(a=true\/b=true)):=
 ⟨fun a _=>by simp,fun a _=>by simp,fun b=>by simp,fun b=>by simp,by simp,by simp,by simp,by simp,fun a=>by simp,fun a=>by simp,fun a b=>by simp,fun a b=>by simp⟩
def PlT(T:List WE)(k:Int):Prop:=0<=k/\k<(T.length:Int)/\((T.getD k.toNat default).kind=1\/(T.getD k.toNat default).kind=2\/(T.getD k.toNat default).kind=3)
def zDG(T:List WE)(x:WE):Prop:=(∀ p∈x.parts,PlT T p)/\PlT T x.elem/\x.parts.length<=4/\x.many=0
def zD7(T:List WE)(x:WE)(k:Nat):Prop:=
 (x.kind=1/\x.elem=0/\x.many=0/\x.parts.length=0)\/
 (x.kind=2/\0<=x.elem/\x.elem<(T.length:Int)/\x.many=0/\x.parts.length=0)\/
 (x.kind=3/\zDG T x)\/
 (x.kind=4/\x.elem=0/\x.many=0/\1<=x.parts.length/\x.parts.length<=8/\∀ p∈x.parts,0<=p/\p<(k:Int))\/
 (x.kind=5/\0<=x.elem/\x.elem<(k:Int)/\1<=x.many/\x.many<=16/\x.parts.length=0)
def ZM(T:List WE)(k:Nat):Prop:=zD7 T (T.getD k default) k
def ofF(T:List WE):Nat->Int->List Int
 |0,k=>[k]
 |n+1,k=>let x:=T.getD k.toNat default
  if x.kind=4 then(x.parts.map (ofF T n)).flatten else if x.kind=5 then(List.replicate x.many.toNat (ofF T n x.elem)).flatten else[k]
def BM(T:List WE)(k:Nat):List Int:=ofF T (k+1) k
def zEB(T:List WE)(k:Nat):Prop:=∀ j,j<k->ZM T j/\(BM T j).length<=32
theorem zIR{T:List WE}:∀ (n m:Nat) (k:Nat),k<n->k<m->(∀ j,j<=k->ZM T j)->ofF T n k=ofF T m k:=by
 intro n;induction n with
 |zero=>intro m k h;omega
 |succ n ih=>
  intro m k h1 h2 hM;obtain⟨m,rfl⟩:∃ q,m=q+1:=⟨m-1,by omega⟩;have hk:=hM k (QE _);unfold ofF;simp only[QL];split
  ·rename_i h4;congr 1;refine Gp fun p hp=> ?_;unfold ZM zD7 at hk;have f9:0<=p/\p<(k:Int):=by
    rcases hk with h|h|h|h|h
    ·omega
    ·omega
    ·omega
    ·exact h.2.2.2.2.2 p hp
    ·omega
   obtain⟨q,rfl⟩:∃ q:Nat,p=q:=⟨p.toNat,by omega⟩;exact ih m q (by omega) (by omega) fun j hj=>hM j (by omega)
  ·split
   ·rename_i h4 h5;unfold ZM zD7 at hk;have f9:0<=(T.getD k default).elem/\(T.getD k default).elem<(k:Int):=by omega
    obtain⟨q,hq⟩:∃ q:Nat,(T.getD k default).elem=q:=⟨(T.getD k default).elem.toNat,by omega⟩;rw[hq,ih m q (by omega) (by omega) fun j hj=>hM j (by omega)]
   ·rfl
theorem zAD{T:List WE}{k:Nat}(hM:∀ j,j<=k->ZM T j):BM T k=let x:=T.getD k default
  if x.kind=4 then(x.parts.map fun p=>BM T p.toNat).flatten else if x.kind=5 then(List.replicate x.many.toNat (BM T x.elem.toNat)).flatten else[(k:Int)]:=by
 have hk:=hM k (QE _);unfold ZM zD7 at hk;unfold BM;rw[ofF];simp only[QL];split
 ·rename_i h4;congr 1;refine Gp fun p hp=> ?_;have f9:0<=p/\p<(k:Int):=by
   rcases hk with h|h|h|h|h
   ·omega
   ·omega
   ·omega
   ·exact h.2.2.2.2.2 p hp
   ·omega
  obtain⟨q,rfl⟩:∃ q:Nat,p=q:=⟨p.toNat,by omega⟩;exact zIR _ _ q (by omega) (by omega) fun j hj=>hM j (by omega)
 ·split
  ·rename_i h4 h5;have f9:0<=(T.getD k default).elem/\(T.getD k default).elem<(k:Int):=by omega
   obtain⟨q,hq⟩:∃ q:Nat,(T.getD k default).elem=q:=⟨(T.getD k default).elem.toNat,by omega⟩;rw[hq,QL,zIR k (q+1) q (by omega) (by omega) fun j hj=>hM j (by omega)]
  ·rfl
theorem zAu{m:Int}{l:List Int}:yv m l=true↔∀ p∈l,0<=p/\p<m:=by
 unfold yv;rw[QX];simp
theorem zIV{x:WE}:YL x=true↔x.kind=1\/x.kind=2\/x.kind=3:=by
 unfold YL;simp;omega
theorem zMr(l:List Int)(f:Int->List Int):((l.map f).flatten.length:Int)=(l.map fun p=>((f p).length:Int)).sum:=by
 induction l with
 |nil=>rfl
 |cons a l ih=>simp only[Qm,GW,QM,JE,Int.natCast_add,ih]
theorem zBE(n:Nat)(l:List Int):(List.replicate n l).flatten.length=n*l.length:=by
 induction n with
 |zero=>simp
 |succ n ih=>rw[List.replicate_succ,GW,QM,ih,G8];omega
theorem zIY{T:List WE}{k:Nat}{s:List Int}(hk:k<T.length)(hl:zEB T k)(hs:s.length=k)(hv:∀ j,j<k->s.getD j 0=((BM T j).length:Int)):
  ((Zs T (T.getD k default) k s).2=true↔ZM T k/\(BM T k).length<=32)/\((Zs T (T.getD k default) k s).2=true->(Zs T (T.getD k default) k s).1=((BM T k).length:Int)):=by
 have iP:ZM T k->BM T k=_:=fun h=>zAD fun j hj=>by
  by_cases e:j=k
  ·subst e;exact h
  ·exact(hl j (by omega)).1
 generalize hx:T.getD k default=x at *;have hM:ZM T k↔zD7 T x k:=by unfold ZM;rw[hx]
 unfold zD7 at hM;have tC:x.kind=1->(yd x=true↔x.elem=0/\x.many=0/\x.parts.length=0):=fun h=>by unfold yd;simp[h,and_assoc]
 have tD:x.kind=2->(yd x=true↔x.many=0/\x.parts.length=0):=fun h=>by unfold yd;simp[h]
 have tE:x.kind=3->(yd x=true↔x.many=0):=fun h=>by unfold yd;simp[h]
 have tG:x.kind=4->(yd x=true↔x.elem=0/\x.many=0):=fun h=>by unfold yd;simp[h]
 have tH:x.kind=5->(yd x=true↔x.parts.length=0):=fun h=>by unfold yd;simp[h]
 by_cases h1:x.kind=1
 ·have e:Zs T x k s=(1,yd x):=by unfold Zs;rw[QF h1]
  rw[e,tC h1];refine⟨⟨fun h=> ?_,fun h=> ?_⟩,fun h=> ?_⟩
  ·have:=hM.2 (.inl ⟨h1,h⟩);refine⟨this,?_⟩;rw[iP this];simp[h1]
  ·have:=hM.1 h.1;omega
  ·have:=hM.2 (.inl ⟨h1,h⟩);rw[iP this];simp[h1]
 by_cases h2:x.kind=2
 ·have e:Zs T x k s=(1,yd x&&yv T.length [x.elem]):=by unfold Zs;rw[QC h1,QF h2]
  have e2:(yd x&&yv T.length [x.elem])=true↔(x.many=0/\x.parts.length=0)/\0<=x.elem/\x.elem<(T.length:Int):=by
   rw[QN,tD h2,zAu];simp
  rw[e,e2];have key:(x.many=0/\x.parts.length=0)/\0<=x.elem/\x.elem<(T.length:Int)->ZM T k:=fun h=>hM.2 (.inr (.inl ⟨h2,h.2.1,h.2.2,h.1.1,h.1.2⟩));refine⟨⟨fun h=>⟨key h,?_⟩,fun h=> ?_⟩,fun h=> ?_⟩
  ·rw[iP (key h)];simp[h2]
  ·have:=hM.1 h.1;omega
  ·rw[iP (key h)];simp[h2]
 by_cases h3:x.kind=3
 ·rw[zHq h3];have e2:(yd x&&decide (x.parts.length<=4)&&yv T.length (x.elem::x.parts)&&(x.elem::x.parts).all fun n=>YL (T.getD n.toNat default))=true↔zDG T x:=by
   unfold zDG PlT;simp only[QN,tE h3,Qd,zAu,QX,zIV,GG];constructor
   ·rintro⟨⟨⟨a,b⟩,c⟩,d⟩;exact⟨fun p hp=>⟨(c p (.inr hp)).1,(c p (.inr hp)).2,d p (.inr hp)⟩,⟨(c _ (.inl rfl)).1,(c _ (.inl rfl)).2,d _ (.inl rfl)⟩,b,a⟩
   ·rintro⟨a,b,c,d⟩;refine⟨⟨⟨d,c⟩,?_⟩,?_⟩
    ·rintro p (rfl|hp)
     ·exact⟨b.1,b.2.1⟩
     ·exact⟨(a p hp).1,(a p hp).2.1⟩
    ·rintro p (rfl|hp)
     ·exact b.2.2
     ·exact(a p hp).2.2
  simp only[e2];have key:zDG T x->ZM T k:=fun h=>hM.2 (.inr (.inr (.inl ⟨h3,h⟩)));refine⟨⟨fun h=>⟨key h,?_⟩,fun h=> ?_⟩,fun h=> ?_⟩
  ·rw[iP (key h)];simp[h3]
  ·rcases hM.1 h.1 with h|h|h|h|h
   ·omega
   ·omega
   ·exact h.2
   ·omega
   ·omega
  ·rw[iP (key h)];simp[h3]
 by_cases h4:x.kind=4
 ·rw[zPs h4];have e2:(yd x&&yv k x.parts)=true↔(x.elem=0/\x.many=0)/\∀ p∈x.parts,0<=p/\p<(k:Int):=by
   rw[QN,tG h4,zAu]
  by_cases hp:(yd x&&yv k x.parts)=true
  ·rw[QF hp];have cU:=e2.1 hp;have eh:(x.parts.map fun n=>s.getD n.toNat 0).sum=(x.parts.map fun p=>((BM T p.toNat).length:Int)).sum:=by
    congr 1;refine Gp fun p dv=> ?_;have:=cU.2 p dv;exact hv p.toNat (by omega)
   have key:1<=x.parts.length/\x.parts.length<=8->ZM T k:=fun h=>hM.2 (.inr (.inr (.inr (.inl ⟨h4,cU.1.1,cU.1.2,h.1,h.2,cU.2⟩))));have hlen:ZM T k->((BM T k).length:Int)=(x.parts.map fun p=>((BM T p.toNat).length:Int)).sum:=fun h=>by
    rw[iP h];simp only[h4,Q6];rw[zMr]
   simp only[QN,Qd];refine⟨⟨fun h=> ?_,fun h=> ?_⟩,fun h=> ?_⟩
   ·have aS:=key (by omega);have:=hlen aS;exact⟨aS,by omega⟩
   ·have:=hlen h.1;have h5:=hM.1 h.1;omega
   ·rw[eh,hlen (key (by omega))]
  ·rw[QC hp];simp only[Qa,Gn,false_implies,and_true];intro h;refine hp (e2.2 ?_);rcases hM.1 h.1 with h|h|h|h|h
   ·omega
   ·omega
   ·omega
   ·exact⟨⟨h.2.1,h.2.2.1⟩,h.2.2.2.2.2⟩
   ·omega
 by_cases h5:x.kind=5
 ·rw[zOG h5];have e2:(yd x&&yv k [x.elem]&&decide (1<=x.many)&&decide (x.many<=16))=true↔x.parts.length=0/\(0<=x.elem/\x.elem<(k:Int))/\1<=x.many/\x.many<=16:=by
   simp only[QN,tH h5,zAu,Qd];simp[and_assoc]
  by_cases hp:(yd x&&yv k [x.elem]&&decide (1<=x.many)&&decide (x.many<=16))=true
  ·rw[QF hp];have cU:=e2.1 hp;have key:ZM T k:=hM.2 (.inr (.inr (.inr (.inr ⟨h5,cU.2.1.1,cU.2.1.2,cU.2.2.1,cU.2.2.2,cU.1⟩))));have iA:=hv x.elem.toNat (by omega);have hlen:((BM T k).length:Int)=x.many*s.getD x.elem.toNat 0:=by
    rw[iP key];simp only[h5,Q6];rw[QC (by omega),zBE,iA,Int.natCast_mul,Int.toNat_of_nonneg (by omega)]
   simp only[Qd];rw[<-hlen];exact⟨⟨fun h=>⟨key,by omega⟩,fun h=>by omega⟩,fun _=>rfl⟩
  ·rw[QC hp];simp only[Qa,Gn,false_implies,and_true];intro h;refine hp (e2.2 ?_);have:=hM.1 h.1;omega
 ·have e:Zs T x k s=(1,false):=by unfold Zs;rw[QC h1,QC h2,QC h3,QC h4,QC h5]
  rw[e];simp only[Qa,Gn,false_implies,and_true];intro h;have:=hM.1 h.1;omega
theorem zJg{T:List WE}:∀ k,k<=T.length->(∀ s,YC T k=some s->zEB T k/\s.length=k/\∀ j,j<k->s.getD j 0=((BM T j).length:Int))/\(zEB T k->∃ s,YC T k=some s):=by
 intro k;induction k with
 |zero=>exact fun _=>⟨fun s hs=>by cases hs;exact⟨fun j hj=>absurd hj (Qk _),rfl,fun j hj=>absurd hj (Qk _)⟩,fun _=>⟨[],rfl⟩⟩
 |succ k ih=>
  intro hk;obtain⟨i1,i2⟩:=ih (by omega);refine⟨fun s hs=> ?_,fun hl=> ?_⟩
  ·unfold YC at hs;split at hs
   ·cases hs
   ·rename_i s0 h0;obtain⟨a,b,c⟩:=i1 s0 h0;obtain⟨m1,m2⟩:=zIY (T:=T) (k:=k) (by omega) a b c;split at hs
    ·rename_i hm;cases hs;have h1:=m1.1 hm;have h2:=m2 hm;refine⟨fun j hj=> ?_,by simp[b],fun j hj=> ?_⟩
     ·by_cases e:j=k
      ·subst e;exact h1
      ·exact a j (by omega)
     ·by_cases e:j=k
      ·subst e;rw[<-h2];simp[List.getD,<-b]
      ·rw[<-c j (by omega)];simp[List.getD,Qy (show j<s0.length by omega)]
    ·cases hs
  ·obtain⟨s0,h0⟩:=i2 fun j hj=>hl j (by omega);obtain⟨a,b,c⟩:=i1 s0 h0;obtain⟨m1,m2⟩:=zIY (T:=T) (k:=k) (by omega) a b c;unfold YC;rw[h0];simp only;rw[QF (m1.2 (hl k (by omega)))];exact⟨_,rfl⟩
theorem zAz{T:List WE}:yS T=if 16<T.length then 4 else(open Classical in if zEB T T.length then 0 else 30):=by
 classical
 unfold yS;split
 ·rfl
 ·obtain⟨i1,i2⟩:=zJg T.length (QE _);split
  ·rename_i s hs;rw[QF (i1 s hs).1]
  ·rename_i hs;rw[QC];intro h;obtain⟨s,h2⟩:=i2 h;rw[h2]at hs;cases hs
def zB3(op:Int):Prop:=(4<=op/\op<=10)\/op=15\/op=17
def zB6(op:Int):Prop:=zB3 op\/op=13\/op=14\/op=16\/op=19\/op=21
def zCE(op:Int):Prop:=op=18\/op=19\/op=22
def zMw(op:Int):Prop:=1<=op/\op<=22/\op≠13/\op≠17/\op≠21
theorem Yl{op:Int}(h:0<=op):((zU op).2.1=true↔zB3 op)/\((zU op).1=true↔zB6 op)/\((zU op).2.2.2.1=true↔zCE op)/\((zU op).2.2.2.2.2=true↔zMw op)/\((zU op).2.2.2.2.1=true↔op=22)/\((zU op).2.2.1=true↔op=1\/op=3\/op=14\/op=18)/\(zU op=(false,false,false,false,false,false)↔op<1\/22<op):=by
 obtain⟨n,rfl⟩:=Int.eq_ofNat_of_zero_le h;by_cases hn:n<23
 ·clear h;unfold zB6 zCE zMw zB3;have hz:(List.range 23).all (fun(n:Nat)=>decide (zU (n:Int)=(false,false,false,false,false,false)) == decide ((n:Int)<1\/22<(n:Int)))=true:=by decide+kernel
  have hz:=QX.1 hz n (GV.2 hn);rw[beq_iff_eq,decide_eq_decide]at hz;refine⟨?_,?_,?_,?_,?_,?_,hz⟩<;>(clear hz;revert n;decide+kernel)
 ·have e:zU (n:Int)=(false,false,false,false,false,false):=by
   unfold zU;rw[List.getD,JA (by simp only[hasT,GF,G9];omega)];rfl
  rw[e];unfold zB6 zCE zMw zB3;simp only[Qa,Gn,true_iff];omega
def zt(x:Wj):List Int:=(if(zU x.op).1 then[x.a]else[])++((if(zU x.op).2.1 then[x.b]else[])++(if(zU x.op).2.2.2.1 then x.args else[]))
def zHv(x:Wj)(funcs:Int):Prop:=if x.op=1 then True else if x.op=3\/x.op=18 then 0<=x.n/\x.n<funcs else if x.op=14 then 0<=x.n/\x.n<8 else x.n=0
def Bi(l:List Int)(m:Int):Prop:=∀ p∈l,0<=p/\p<m
structure MayI(x:Wj)(s:By):Prop where
 op:1<=x.op/\x.op<=22
 uses:Bi (zt x) s.aG
 num:zHv x s.funcs
 a:(zU x.op).1=true\/x.a=0
 b:(zU x.op).2.1=true\/x.b=0
 g:(zU x.op).2.2.2.1=true\/(x.args.length:Int)<=0
 ans:if(zU x.op).2.2.2.2.2 then 0<=x.ty/\x.ty<s.types else x.ty=0
 frm:if(zU x.op).2.2.2.2.1 then(x.frm.length:Int)=x.args.length/\1<=(x.frm.length:Int)/\(x.frm.length:Int)<=16/\Bi x.frm s.blocks else(x.frm.length:Int)=0/\(x.args.length:Int)<=4
theorem zE2{l:List Int}{m:Int}:zFb l m=true↔Bi l m:=by
 unfold zFb zd Bi;simp[QX]
theorem zE1{l k:List Int}{m:Int}:Bi (l++k) m↔Bi l m/\Bi k m:=by
 unfold Bi;constructor
 ·exact fun h=>⟨fun p hp=>h p (Qs.2 (.inl hp)),fun p hp=>h p (Qs.2 (.inr hp))⟩
 ·exact fun h p hp=>(Qs.1 hp).elim (h.1 p) (h.2 p)
theorem zJp{c:Bool}{l:List Int}{m:Int}:Bi (if c then l else[]) m↔(c=true->Bi l m):=by
 cases c
 ·simp[Bi]
 ·simp
theorem zEF{a m:Int}:Bi [a] m↔zd a m=true:=by unfold Bi zd;simp
theorem zHk{x:Wj}{s:By}(ho:0<=x.op):zHv x s.funcs↔zAN x s=true/\((zU x.op).2.2.1=true\/x.n=0):=by
 obtain⟨_,_,_,_,_,hn,_⟩:=Yl ho;rw[hn];unfold zHv zAN;by_cases h1:x.op=1
 ·simp[h1]
 by_cases h3:x.op=3\/x.op=18
 ·rw[QC h1,QF h3,QF h3,QN,Ge,Ge];omega
 by_cases kV:x.op=14
 ·rw[QC h1,QC h3,QF kV,QC h3,QF kV,QN,Ge,Ge];omega
 ·rw[QC h1,QC h3,QC kV,QC h3,QC kV];simp;omega
theorem zBi{x:Wj}{s:By}(ho:0<=x.op):B2 x s=true↔MayI x s:=by
 obtain⟨_,_,_,_,hf,_,hz⟩:=Yl ho;have gY:=zHk (x:=x) (s:=s) ho;have key:MayI x s↔(1<=x.op/\x.op<=22)/\Bi (zt x) s.aG/\zHv x s.funcs/\((zU x.op).1=true\/x.a=0)/\((zU x.op).2.1=true\/x.b=0)/\((zU x.op).2.2.2.1=true\/(x.args.length:Int)<=0)/\(if(zU x.op).2.2.2.2.2 then 0<=x.ty/\x.ty<s.types else x.ty=0)/\
   (if(zU x.op).2.2.2.2.1 then(x.frm.length:Int)=x.args.length/\1<=(x.frm.length:Int)/\(x.frm.length:Int)<=16/\Bi x.frm s.blocks else(x.frm.length:Int)=0/\(x.args.length:Int)<=4):=
  ⟨fun⟨a,b,c,d,e,f,g,h⟩=>⟨a,b,c,d,e,f,g,h⟩,fun⟨a,b,c,d,e,f,g,h⟩=>⟨a,b,c,d,e,f,g,h⟩⟩
 rw[key,gY];unfold B2 zOt zKU zKK zt;simp only;have iK:(decide (zU x.op=(false,false,false,false,false,false))=false)↔(1<=x.op/\x.op<=22):=by
  rw[Gk,hz];omega
 have fP:Bi x.args s.aG\/¬(x.args.length:Int)<=0:=by
  by_cases h:(x.args.length:Int)<=0
  ·left;have:x.args=[]:=G7 (by omega);rw[this];exact fun p hp=>by cases hp
  ·exact .inr h
 rw[zE1,zE1,zJp,zJp,zJp,zEF,zEF];have bm:(zd x.ty s.types=true)↔0<=x.ty/\x.ty<s.types:=by unfold zd;simp
 rw[<-iK,<-bm,<-zE2,<-zE2];rw[<-zE2]at fP;generalize decide (zU x.op=(false,false,false,false,false,false))=Z at *;generalize zU x.op=q at *;obtain⟨A,B,N,G,R,S⟩:=q;simp only;generalize zd x.a s.aG=ba at *;generalize zd x.b s.aG=bb at *;generalize zFb x.args s.aG=bg at *;generalize zAN x s=bn at *;generalize zd x.ty s.types=bt at *;generalize zFb x.frm s.blocks=bf at *;clear hz hf gY key iK bm;generalize x.args.length=la at *;generalize x.frm.length=lf at *;generalize x.a=a at *;generalize x.b=b at *;generalize x.n=n at *;generalize x.ty=ty at *;cases Z<;>simp only[Q3,Q0,QW,Qf,Qa,Gn,false_and,not_false_eq_true,Bool.true_eq_false,Qh,QW,true_and];cases R
 ·cases A<;>cases B<;>cases N<;>cases G<;>cases S<;>simp<;>(constructor<;>intro h<;>simp_all<;>omega)
 ·cases A<;>cases B<;>cases N<;>cases G<;>cases S<;>simp<;>(constructor<;>intro h<;>simp_all<;>omega)
theorem zHg{x:Bl}{s:By}:B4 x s=true↔(x.kind=1/\x.a=0/\x.aE=0/\Bi [x.to] s.blocks)\/(x.kind=2/\Bi [x.a] s.aG/\Bi [x.to,x.aE] s.blocks)\/(x.kind=3/\x.to=0/\x.aE=0/\Bi [x.a] s.aG):=by
 have h2:Bi [x.to,x.aE] s.blocks↔zd x.to s.blocks=true/\zd x.aE s.blocks=true:=by unfold Bi zd;simp
 rw[h2,zEF,zEF];unfold B4;by_cases k1:x.kind=1
 ·simp[k1,and_assoc]
 by_cases k2:x.kind=2
 ·simp[k2,and_assoc]
 by_cases k3:x.kind=3
 ·simp[k3,and_assoc]
 ·simp[k1,k2,k3]
def yI(x:Bl):List Int:=if x.kind=2\/x.kind=3 then[x.a]else[]
theorem zNn(L:List Wc)(i:Nat):zJ (L.take i)<=zJ L:=by
 have h1:zJ L=zJ (L.take i)+zJ (L.drop i):=by
  conv=>lhs;rw[<-GS i L]
  unfold zJ;rw[Qx,Gq]
 have:=Y2 (L.drop i);omega
def B1(par:Int)(L:List Wc):Int:=par+zJ L
structure InsU(x:Wj)(N n:Int):Prop where
 op:1<=x.op/\x.op<=22
 uses:∀ r∈zt x,0<=r/\r<N
 args:x.args.length<=20
 frm:x.frm.length<=20
 KQ:x.op=22->x.frm.length=x.args.length/\(∀ r∈x.args,0<=r/\r<N)/\(∀ b∈x.frm,0<=b/\b<n)
 none:x.op≠22->x.frm.length=0
structure BlkU(b:Wc)(N n:Int):Prop where
 ins:∀ x∈b.ins,InsU x N n
 ends:∀ r∈yI b.fin,0<=r/\r<N
 next:∀ k∈ZU b.fin,0<=k/\k<n
theorem zIo{x:Wj}{s:By}(h:B2 x s=true):1<=x.op/\x.op<=22:=by
 by_cases h0:0<=x.op
 ·exact((zBi h0).1 h).op
 ·exfalso;have he:zU x.op=(false,false,false,false,false,false):=by
   unfold zU;rw[show x.op.toNat=0 by omega];rfl
  unfold B2 zOt at h;rw[he]at h;simp at h
theorem zQ1{x:Wj}{s:By}(h:B2 x s=true):InsU x s.aG s.blocks:=by
 have ho:=zIo h;have m:=(zBi (by omega)).1 h;have ha:=Yl (op:=x.op) (by omega);have KR:(zU x.op).2.2.2.2.1=true↔x.op=22:=ha.2.2.2.2.1;have hg:(zU x.op).2.2.2.1=true↔zCE x.op:=ha.2.2.1;have hf:=m.frm;have xv:=m.g;have hargs:(x.args.length:Int)<=16:=by
  split at hf
  ·omega
  ·omega
 have mD:(x.frm.length:Int)<=16:=by
  split at hf
  ·omega
  ·omega
 refine⟨ho,m.uses,by omega,by omega,fun e=> ?_,fun e=> ?_⟩
 ·rw[QF (KR.2 e)]at hf;refine⟨by omega,fun r hr=>m.uses r ?_,hf.2.2.2⟩;unfold zt;rw[show(zU x.op).2.2.2.1=true from hg.2 (by unfold zCE;omega),QF rfl];exact Qs.2 (.inr (Qs.2 (.inr hr)))
 ·rw[QC (fun q=>e (KR.1 q))]at hf;omega
theorem zRT{b:Wc}{s:By}(h:Yv b s=false):BlkU b s.aG s.blocks:=by
 unfold Yv at h;rw[Bool.or_eq_false_iff]at h;obtain⟨h1,h2⟩:=h;have h2:B4 b.fin s=true:=by simpa using h2
 have he:=zHg.1 h2;refine⟨fun x hx=>zQ1 ?_,fun r hr=> ?_,fun k hk=> ?_⟩
 ·cases hi:B2 x s with
  |true=>rfl
  |false=>exact absurd h1 (by rw[Gy.2 ⟨x,hx,by rw[hi];rfl⟩];simp)
 ·unfold yI at hr;split at hr
  ·rw[QZ]at hr;subst hr;rcases he with⟨e,_⟩|⟨e,q,_⟩|⟨e,_,_,q⟩
   ·omega
   ·exact q _ (by simp)
   ·exact q _ (by simp)
  ·cases hr
 ·unfold ZU at hk;rcases he with⟨e,_,_,q⟩|⟨e,_,q⟩|⟨e,_⟩
  ·rw[QF e]at hk;exact q k hk
  ·rw[QC (by omega),QF e]at hk;split at hk
   ·exact q k (by rw[QZ]at hk;subst hk;simp)
   ·exact q k hk
  ·rw[QC (by omega),QC (by omega)]at hk;cases hk
theorem zRY{T:List WE}{nf:Int}{f:Wa}(h:BW T nf f=true):∀ b∈f.blocks,BlkU b (B1 ((T.getD f.sig.toNat default).parts.length:Int) f.blocks) f.blocks.length:=by
 intro b hb;unfold BW at h;split at h
 ·cases h
 ·have h:(f.blocks.any fun b=>Yv b (B0 T nf f))=false:=by simpa using h
  have:=zRT (b:=b) (s:=B0 T nf f) (by
   cases q:Yv b (B0 T nf f)with
   |false=>rfl
   |true=>rw[Gy.2 ⟨b,hb,q⟩]at h;cases h)
  exact this
theorem zQP{T:List WE}{n:Int}{f:Wa}(h:BW T n f=true):1<=f.blocks.length/\f.blocks.length<=16/\zJ f.blocks<=128:=by
 unfold BW at h;split at h
 ·cases h
 ·rename_i hb;unfold B6 at hb;simp only[GN,Gj,Ge,not_or,Bool.not_eq_false]at hb;obtain⟨⟨⟨_,_⟩,h3⟩,h4⟩:=hb;unfold zd at h3;simp at h3;omega
end Go.Proofs.YtmejfcakhpihlaaGreatDoor
set_option maxRecDepth 100000
namespace Go.Proofs.YtmejfcakhpihlaaGreatDoor
open Go.Am
theorem zN9(h:WA)(x:Wj)(cs:List Value)(bP:W8 h cs x)(tt:Br h)(hx:x.args.length<=20):
  WC Tryz.prog tb 124 [.agg cs.toArray] h fun r h'=>WL h h' r (zt x)/\Ext h h':=by
 obtain⟨va,xO,rfl,sa,mj,br,dZ,ho,wh⟩:=bP;obtain⟨aa,an,ak,rfl⟩:=Wi.shape sa;obtain⟨fa,fn,fk,rfl⟩:=Wi.shape mj;refine en ?_;refine VF ?_;intro p h1 e1 o1;refine go ?_;refine VA (zNd h1 x.op (tt.ext e1) ho wh) ?_;rintro _ h2 ⟨rfl,e2⟩;refine go ?_;refine WO.al ?_;intro p3 h3 e3 o3;refine go ?_;refine VH (cs:=Ye (zU x.op)) o3 e3 ?_;intro h4 e4 o4 u4;have bV:=e2.trans e4;have o1:=o1.ext bV;have Ah:=WQ.ext sa (e1.trans bV);have o4:=o4.since e2;have o4:=o4.since e1;have bz:=e1.trans bV;clear e1 e2 e3 e4 u4 bV o3;unfold zt;generalize zU x.op=q at *;obtain⟨qa,qb,qn,qg,qf,qt⟩:=q;simp only;refine go ?_;refine VL (fun t h'=>Ext h4 h'/\∃ w,zC t 2=w/\WL h4 h' w (if qa then[x.a]else[])) ?_ ?_
 ·cases qa with
  |true=>
   refine go ?_;refine WO.bl [x.a] ?_;intro v h2 e2 o2;refine go ?_;refine VN (v:= .slice none 0 0) (xs:=[]) (h0:=h4) (.inl ⟨rfl,rfl⟩) o2.sl e2 (by simp) ?_;intro v3 h3 e3 o3;refine go ?_;exact zK ⟨e3,v3,WH,o3⟩
  |false=>
   refine go ?_;exact zK ⟨Ext.refl _,_,WH,.inl ⟨rfl,rfl⟩⟩
 rintro t2 h2 eW ⟨e2,w2,q2,kU⟩;have o2:=o1.ext e2;have o42:=o4.ext e2;have l2:(if qa then[x.a]else[]).length<=1:=by split<;>simp
 generalize(if qa then[x.a]else[])=lA at *;refine go ?_;refine VL (fun t h'=>Ext h4 h'/\∃ w,zC t 2=w/\WL h4 h' w (lA++if qb then[x.b]else[])) ?_ ?_
 ·cases qb with
  |true=>
   refine go ?_;refine WO.bl [x.b] ?_;intro v h3 e3 o3;refine go ?_;refine VN (WL.ext kU e3) o3.sl (e2.trans e3) (by simp only[QV];omega) ?_;intro v4 h5 e5 o5;refine go ?_;exact zK ⟨e5,v4,WH,o5⟩
  |false=>
   refine go ?_;exact zK ⟨e2,_,WH,by simpa using kU⟩
 rintro t3 h3 xB ⟨e3,w3,q3,pI⟩;have o3:=o1.ext e3;have nU:=o4.ext e3;have i7:=WQ.ext Ah e3;have l3:(lA++if qb then[x.b]else[]).length<=2:=by rw[QM];split<;>simp<;>omega
 rw[<-QT];generalize(lA++if qb then[x.b]else[])=lB at *;refine go ?_;cases qg with
 |true=>
  refine go ?_;refine VN pI i7 e3 (by omega) ?_;intro v5 h5 e5 o5;refine gr ?_;exact⟨o5.since bz,bz.trans e5⟩
 |false=>
  refine gr ?_;subst q3;rw[QC (by simp),GY];exact⟨pI.since bz,bz.trans e3⟩
theorem zHT(h:WA)(x:Bl):WC Tryz.prog tb 130 [.agg #[.int .u8 x.kind,I x.a,I x.to,I x.aE]] h fun r h'=>WL h h' r (yI x)/\Ext h h':=by
 refine en ?_;refine VF ?_;intro p h1 e1 o1;unfold yI;by_cases c2:x.kind=2
 ·rw[QF (.inl c2)];refine go ?_;refine WO.bl [x.a] ?_;intro v h2 e2 o2;refine gr ?_;exact⟨.inr (o2.since e1),e1.trans e2⟩
 by_cases c3:x.kind=3
 ·rw[QF (.inr c3)];refine go ?_;refine WO.bl [x.a] ?_;intro v h2 e2 o2;refine gr ?_;exact⟨.inr (o2.since e1),e1.trans e2⟩
 rw[QC (by simp[c2,c3])];refine gr ?_;exact⟨.inl ⟨rfl,rfl⟩,e1⟩
end Go.Proofs.YtmejfcakhpihlaaGreatDoor
set_option maxRecDepth 100000
namespace Go.Proofs.YtmejfcakhpihlaaGreatDoor
open Go.Am
theorem zHy(h:WA)(v:Value)(l:List Int)(s:WQ h v l)(hl:l.length<=1000000):WC Tryz.prog tb 50 [v] h fun r h'=>WL h h' r l/\Ext h h':=by
 refine en ?_;obtain⟨a,n,k,rfl⟩:=Wi.shape s;cases a with
 |none=>
  have hn:l=[]:=by
   rcases s.2 with⟨h0,_⟩|⟨g,off,row,hv,_⟩
   ·exact Gm.1 h0
   ·cases hv
  subst hn;refine go ?_;refine VE (fun hb=> ?_) (fun hb=> ?_)
  ·refine gr ?_;exact⟨.inl ⟨rfl,rfl⟩,Ext.refl _⟩
  ·exact absurd hb (by simp)
 |some a=>
  refine go ?_;refine VE (fun hb=> ?_) (fun hb=> ?_)
  ·exact absurd hb (by simp)
  ·refine go ?_;refine WO.bl [] ?_;intro v1 h1 e1 o1;have s1:=WQ.ext s e1;refine go ?_;refine VN (.inr o1) s1 e1 (by simp only[G9];omega) ?_;intro v2 h2 e2 o2;refine gr ?_;exact⟨o2,e2⟩
end Go.Proofs.YtmejfcakhpihlaaGreatDoor
