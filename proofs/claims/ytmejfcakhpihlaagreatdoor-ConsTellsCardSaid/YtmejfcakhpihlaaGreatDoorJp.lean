/- Walks of functions, plain laws; proves no statement. -/
import Derived.Test.YtmejfcakhpihlaaGreatDoorJo
set_option linter.all false
set_option maxHeartbeats 8000000
set_option maxRecDepth 100000
namespace Go.Proofs.YtmejfcakhpihlaaGreatDoor
open Go.Am
theorem zPi(h:WA)(vt:Value)(T:List WE)(st:Wu h vt T)(hT:T.length<=100)(hc:yS T=0)(k n:Int)(hk:0<=k/\k<(T.length:Int))(h4:(T.getD k.toNat default).kind=4)(hn:0<=n/\n<=((T.getD k.toNat default).parts.length:Int)):
  WC Tryz.prog tb 95 [vt,I k,I n] h fun r h'=>r=I (stepL T k n)/\Ext h h':=by
 have ag:=zBP hc;have gI:=(ag k.toNat (by omega)).1;have hp:=zFO gI h4;obtain⟨cs0,⟨va,rfl,sa,br⟩,Mm,hs⟩:=zP st (i:=k.toNat) (by omega);obtain⟨m,rfl⟩:∃ m:Nat,n=m:=⟨n.toNat,by omega⟩;have h8:=hp.1;have gx:∀ p∈(T.getD k.toNat default).parts,(0<=p/\p<(k.toNat:Int))/\(yG T p.toNat).length<=32:=fun p dv=>by
  have h1:=hp.2 p dv;refine⟨by omega,?_⟩;exact QP (zAa (p.toNat+1) p.toNat (Q4 _) fun j hj=>(ag j (by omega)).1) (ag p.toNat (by omega)).2
 replace ag:=WK.mk ag;replace gx:=WK.mk gx;have aX:∀ i:Nat,i<(T.getD k.toNat default).parts.length->stepL T k ((i+1:Nat):Int)=stepL T k (i:Int)+((yG T ((T.getD k.toNat default).parts.getD i 0).toNat).length:Int):=fun i hi=>by
  unfold stepL;rw[QL,QL];generalize(T.getD k.toNat default).parts=ps at hi |-;rw[Q1,QB hi,QG,QB hi,Option.toList_some,Qx,Gq];simp only[Qm,GP,JE,List.sum_nil,Int.add_zero,GB]
 have h0:stepL T k 0=0:=by unfold stepL;simp
 have hle:∀ i:Nat,i<=(T.getD k.toNat default).parts.length->0<=stepL T k (i:Int)/\stepL T k (i:Int)<=32*i:=by
  intro i;induction i with
  |zero=>intro _;rw[show((0:Nat):Int)=0 from rfl,h0];omega
  |succ i ih=>
   intro hi;have h1:=ih (by omega);have h2:=(gx.out _ (zM (l:=(T.getD k.toNat default).parts) (i:=i) (by omega))).2;rw[aX i (by omega)];push_cast;omega
 replace aX:=WK.mk aX;replace hle:=WK.mk hle;generalize hx:T.getD k.toNat default=x at *;obtain⟨_,_,_,rfl⟩:=Wi.shape sa;obtain⟨t1,t2,t3,rfl⟩:=zD st;have pc:=(Mm _ (Ext.refl _)).1;refine en ?_;refine VD (fun i=>m-i) (fun i t h1=>Ext h h1/\zC t 8=I i/\i<=m/\zC t 7=I (stepL T k (i:Int))) 0 ?_ ?_
 ·exact⟨Ext.refl _,WH,QK _,by rw[show((0:Nat):Int)=0 from rfl,h0];exact WH⟩
 rintro i t h1 ab ⟨e1,s8,hi,s7⟩;have bL:=Wu.ext st e1;have je:=sa.ext e1;have eJ:=(Mm _ e1).1;have hb:=hle.out i (by omega);refine go ?_;refine VE (fun hc=> ?_) (fun hc=> ?_)<;>simp only[DB]at hc
 ·have ae:i<x.parts.length:=by omega
  have hq:=gx.out _ (zM (l:=x.parts) (i:=i) ae);have eW:=aX.out i ae;obtain⟨q,iW⟩:∃ q:Nat,x.parts.getD i 0=q:=⟨(x.parts.getD i 0).toNat,by omega⟩;rw[iW]at hq eW;rw[QL]at hq eW;refine go ?_;rw[iW];refine VA (zGf _ T (by omega) (q+1) q _ (by omega) bL (by omega) (fun j hj=>ag.out j (by omega)) (ag.out q (by omega)).1) ?_;rintro r h2 ⟨or,e2⟩;have sr:=or.sl;obtain⟨r1,r2,r3,rfl⟩:=Wi.shape sr;refine go ?_;exact zA (i+1) (by omega) ⟨e1.trans e2,Wn,by omega,by rw[eW];exact WH⟩
 ·have aK:i=m:=by omega
  subst aK;refine gr ?_;exact⟨rfl,e1⟩
section
variable {h:WA}{vt vf:Value}{T:List WE}{F:List Wa}
theorem zI8(E:En h vt vf T F)(hs:z8 T F=0)(f r:Int)(hex:∃ s∈zR T F,s.fn=f/\s.nr=r):
  WC Tryz.prog tb 152 [.agg #[vt,vf],I f,I r] h fun w h'=>w=I (Zx f r (zR T F):Nat)/\Ext h h':=by
 have aL:=zNX hex;have eg:=zBH hs;refine en ?_;refine VF ?_;intro p h1 e1 o1;replace o1:WB h h1 p [vt,vf]:=o1;refine go ?_;refine VA (zJ7 (E.ext e1) hs) ?_;rintro v h2 ⟨oS,e2⟩;have sS:=oS.sl;obtain⟨s1,s2,s3,rfl⟩:=zD sS;refine go ?_;refine VD (fun i=>(zR T F).length-i) (fun i t h3=>h2=h3/\zC t 8=I i/\i<=(zR T F).length/\∀ j,j<i->¬(((zR T F).getD j default).fn=f/\((zR T F).getD j default).nr=r)) 0 ?_ ?_
 ·exact⟨rfl,WH,QK _,fun j hj=>absurd hj (Qk _)⟩
 rintro i t _ ab ⟨rfl,s8,hi,bW⟩;replace bW:=WK.mk bW;refine go ?_;refine VE (fun hb=> ?_) (fun hb=> ?_)<;>simp only[DB]at hb
 ·have ae:i<(zR T F).length:=by omega
  obtain⟨cs,bP,pc,IN⟩:=zq (i:=i) sS ae;have bP:cs=[I ((zR T F).getD i default).fn,I ((zR T F).getD i default).nr,I ((zR T F).getD i default).ty]:=bP;subst bP;have bF:=fun(q:((zR T F).getD i default).fn=f/\((zR T F).getD i default).nr=r)=>zPt ae q bW.out;have jL:=fun(q:¬(((zR T F).getD i default).fn=f/\((zR T F).getD i default).nr=r)) (j:Nat) (hj:j<i+1)=>(show ¬(((zR T F).getD j default).fn=f/\((zR T F).getD j default).nr=r)from by
   by_cases e:j=i
   ·subst e;exact q
   ·exact bW.out j (by omega))
  replace bF:=WK.mk bF;replace jL:=WK.mk jL;generalize(zR T F).getD i default=s at *;by_cases c1:s.fn=f
  ·by_cases c2:s.nr=r
   ·refine gr ?_;exact⟨by rw[bF.out ⟨c1,c2⟩];rfl,e1.trans e2⟩
   ·refine go ?_;exact zA (i+1) (by omega) ⟨rfl,Wn,by omega,jL.out fun q=>c2 q.2⟩
  ·refine go ?_;exact zA (i+1) (by omega) ⟨rfl,Wn,by omega,jL.out fun q=>c1 q.1⟩
 ·exfalso;obtain⟨s,xQ,hq⟩:=hex;obtain⟨j,hj,rfl⟩:=Zl xQ;exact bW.out j (by omega) hq
theorem Zv(h:WA)(vt vf:Value)(T:List WE)(st:Wu h vt T)(Tn:∃ a n k,vf=.slice a n k)(t:Int)(ht:0<=t/\t<(T.length:Int)):WC Tryz.prog tb 64 [.agg #[vt,vf],I t] h fun r h'=>r=.bool (W9 T t)/\Ext h h':=by
 obtain⟨f1,f2,f3,rfl⟩:=Tn;obtain⟨cs,⟨va,rfl,sa,br⟩,pc,hs⟩:=zP st (i:=t.toNat) (by omega);obtain⟨t1,t2,t3,rfl⟩:=zD st;unfold W9;refine en ?_;refine VF ?_;intro p h1 e1 o1;replace o1:WB h h1 p [.slice t1 t2 t3,.slice f1 f2 f3]:=o1;have bL:=Wu.ext st e1;have eJ:=(pc _ e1).1;refine gr ?_;exact⟨rfl,e1⟩
theorem yw(E:En h vt vf T F)(hs:z8 T F=0)(f r:Int)(hf:0<=f/\f<(F.length:Int))(hr:0<=r/\r<=1000):WC Tryz.prog tb 66 [.agg #[vt,vf],I f,I r] h fun w h'=>w=I (We T F f r)/\Ext h h':=by
 obtain⟨n,rfl⟩:∃ n:Nat,f=n:=⟨f.toNat,by omega⟩;obtain⟨wL,ig,hb,_⟩:=zBj hs;have kg:=zAK (l:=(zz T F).take n) fun y hy=>hb y (Q5 hy);have fc:((zz T F).take n).length<=8:=by rw[Qn];omega
 unfold We;rw[QL];refine en ?_;refine VF ?_;intro p h1 e1 o1;replace o1:WB h h1 p [vt,vf]:=o1;refine go ?_;refine VA (zEc (E.ext e1) hs n (by omega)) ?_;rintro _ h2 ⟨rfl,e2⟩;refine gr ?_;exact⟨rfl,e1.trans e2⟩
theorem zCy(E:En h vt vf T F)(hs:z8 T F=0)(f:Int)(hf:0<=f/\f<(F.length:Int)):WC Tryz.prog tb 65 [.agg #[vt,vf],I f] h fun w h'=>w=I (zy T F+f)/\Ext h h':=by
 obtain⟨wL,ig,hb,_⟩:=zBj hs;have kg:=zAK (l:=zz T F) hb;have hA:((zz T F).take F.length).sum=zy T F:=by rw[Q7 (by omega)];rfl
 have hAd:zy T F=(zz T F).sum:=rfl;obtain⟨f1,f2,f3,rfl⟩:=zD E.sf;refine en ?_;refine VF ?_;intro p h1 e1 o1;replace o1:WB h h1 p [vt,.slice f1 f2 f3]:=o1;have fV:=(E.ext e1).sf;refine go ?_;have hR:=zEc (E.ext e1) hs F.length (QE _);rw[hA]at hR;refine VA hR ?_;rintro _ h2 ⟨rfl,e2⟩;refine gr ?_;exact⟨rfl,e1.trans e2⟩
end
end Go.Proofs.YtmejfcakhpihlaaGreatDoor
set_option maxRecDepth 100000
namespace Go.Proofs.YtmejfcakhpihlaaGreatDoor
open Go.Am
def ApR(v w:Value):Prop:=∀ g n k,v=.slice (some ⟨g,0,none⟩) n k->∀ n' k',w≠ .slice (some ⟨g,0,none⟩) n' k'
theorem zMm{h0 h h':WA}{w:Value}{l:List Int}(o:WL h0 h w l)(hk:∀ k,k<h.n->(∃ n q,w=.slice (some ⟨k,0,none⟩) n q)->h'.get k=h.get k)(hn:h.n<=h'.n):WL h0 h' w l:=by
 rcases o with o|⟨g,g1,g2,rfl,g3⟩
 ·exact .inl o
 ·exact .inr ⟨g,g1,QI g2 hn,rfl,(hk g g2 ⟨_,_,rfl⟩).trans g3⟩
section
variable {h:WA}{vt vf:Value}{T:List WE}{F:List Wa}
theorem zFF(E:En h vt vf T F)(hs:z8 T F=0)(f r:Int)(hf:0<=f/\f<(F.length:Int))(hr:0<=r/\r<=1000)(hex:∃ s∈zR T F,s.fn=f/\s.nr=r):
  WC Tryz.prog tb 94 [.agg #[vt,vf],I f,I r] h fun w h'=>OwnR 5 BU h.n h' w (zD3 T F f r (YV T f r (zR T F) 0 []))/\Ext h h':=by
 have aL:=zNX hex;obtain⟨cG,eg,rO,fI⟩:=zPK hs;obtain⟨wL,ig,Mn,_⟩:=zBj hs;have Jp:=zKc (T:=T) (a:=0) (l:=[]) hex;obtain⟨To,-⟩:=fI _ aL;have kg:=zAK (l:=(ZV T F).take (Zx f r (zR T F))) fun y hy=>rO y (Q5 hy);have Tp:((ZV T F).take (Zx f r (zR T F))).length<=1024:=by rw[Qn];omega
 have hS:((zR T F).take (Zx f r (zR T F))).map (fun s=>((yG T s.ty.toNat).length:Int))=(ZV T F).take (Zx f r (zR T F)):=by unfold ZV;rw[List.map_take]
 rw[hS]at Jp;rw[Jp];have fZ:=(yN (z9 hs).1).1;have ag:=zBP fZ;have hT:=E.sm.types;have hAs:=zAK (l:=zz T F) Mn;have hA:zy T F=(zz T F).sum:=rfl;have hC:zGy T F=zy T F+F.length:=rfl;have hO:zPr F=1+F.length:=rfl;have hm:=E.hm;obtain⟨k,hk⟩:∃ k:Nat,((zR T F).getD (Zx f r (zR T F)) default).ty=k:=⟨(((zR T F).getD (Zx f r (zR T F)) default).ty).toNat,by omega⟩;rw[hk,QL];rw[hk]at To;have aF:∀ j,j<=k->ZM T j:=fun j hj=>(ag j (by omega)).1;have ah:∀ x∈yG T k,0<=x/\x<(T.length:Int):=fun x hx=>by
  have:=zM4 (k+1) k (Q4 _) aF x hx;omega
 have dZ:(yG T k).length<=32:=QP (zAa (k+1) k (Q4 _) aF) (ag k (by omega)).2;obtain⟨t1,t2,t3,rfl⟩:=zD E.st;obtain⟨f1,f2,f3,rfl⟩:=zD E.sf;clear Jp rO fI Mn hS aF;replace ag:=WK.mk ag;refine en ?_;refine VF ?_;intro p3 h1 e1 o1;replace o1:WB h h1 p3 [.slice t1 t2 t3,.slice f1 f2 f3]:=o1;refine go ?_;refine VA (zJ7 (E.ext e1) hs) ?_;rintro vS h2 ⟨oS,e2⟩;have sS:=oS.sl;obtain⟨s1,s2,s3,rfl⟩:=zD sS;have o2:=o1.ext e2;have bj:=e1.trans e2;refine go ?_;refine VA (zI8 (E.ext bj) hs f r hex) ?_;rintro _ h3 ⟨rfl,e3⟩;generalize Zx f r (zR T F)=ix at *;have o3:=o2.ext e3;have aN:=bj.trans e3;have Mo:=SlS.ext sS e3;refine go ?_;refine VA (zJu (E.ext aN) hs Mo ix (by omega)) ?_;rintro _ h4 ⟨rfl,e4⟩;generalize((ZV T F).take ix).sum=fs at *;have o4:=o3.ext e4;have bz:=aN.trans e4;have Tq:=SlS.ext Mo e4;have Jq:=zp bz hm;refine go ?_;refine VC 1 rfl rfl ?_;have fB:WB h (inC (zB 1 h4)) p3 [.slice t1 t2 t3,.slice f1 f2 f3]:=VI (o4.ext (zH 1 h4));refine WJ ?_;refine VA (yw ((E.ext bz).as 1) hs f r hf hr) ?_;rintro _ X ⟨rfl,eX⟩;refine nE eX ?_;have gB:WB h (inC X) p3 [.slice t1 t2 t3,.slice f1 f2 f3]:=by have:=fB.ext eX;exact this
 refine WJ ?_;refine zAq o4 (Qr _) ?_;refine WJ ?_;refine VA (zOx (((E.ext bz).as 1).go eX)) ?_;rintro _ X2 ⟨rfl,dV⟩;refine nE dV ?_;rw[hO];refine WJ ?_;refine V5 (hS:=h4) (X:={X2 with mark:=(zB 1 h4).n,wr:=[]}) (⟨1,We T F f r,0,1+F.length+fs,[]⟩:Wh) (fun _=>False) (Ext.inC eX dV) Jq (by decide) ye (fun _ h=>h.elim) ?_;intro Y eY oY;refine WJ ?_;have gJ:Ext h4 (outC h4 (inC Y)):=eY;have nh:OwnR 5 BU h4.n (outC h4 (inC Y)) (.slice (some ⟨h4.n,0,none⟩) 1 5) [(⟨1,We T F f r,0,1+F.length+fs,[]⟩:Wh)]:=oY;clear eY oY gB fB eX dV;generalize outC h4 (inC Y)=h5 at *;have o5:=o4.ext gJ;have cq:=bz.trans gJ;have Ts:=SlS.ext Tq gJ;refine go ?_;refine VC 0 rfl rfl ?_;have Tt:WB h (inC (zB 0 h5)) p3 [.slice t1 t2 t3,.slice f1 f2 f3]:=o5;have DH:SlS (inC (zB 0 h5)) (.slice s1 s2 s3) (zR T F):=Ts;obtain⟨cs,bP,pc,IN⟩:=zq (i:=ix) DH aL;have bP:cs=[I ((zR T F).getD ix default).fn,I ((zR T F).getD ix default).nr,I ((zR T F).getD ix default).ty]:=bP;subst bP;rw[hk]at pc;refine WJ ?_;refine VA (zGf _ T (by omega) (k+1) k _ (by omega) ((E.ext cq).as 0).st (by omega) (fun j hj=>ag.out j (by omega)) (ag.out k (by omega)).1) ?_;rintro w X5 ⟨oW,Jr⟩;refine nE Jr ?_;have Co:Ext h5 (outC h5 X5):=(zH 0 h5).trans (zZ (h:=h5) Jr);have Js:Ext h5 (outC h5 (inC X5)):=Co;have DP:WL h5 (outC h5 (inC X5)) w (yG T k):=by
  rcases oW with⟨e,z⟩|⟨g,g1,g2,g3,g4⟩
  ·exact .inl ⟨e,z⟩
  ·exact .inr ⟨g,g1,g2,g3,g4⟩
 obtain⟨w1,w2,w3,rfl⟩:=Wi.shape DP.sl;clear Tt DH pc oW Jr Co;refine WJ ?_;generalize outC h5 (inC X5)=h6 at *;have eu:=cq.trans Js;have A9:=gJ.trans Js;have Tu:=OwnR.ext nh Js;have Tv:=DP.since';have hw6:=DP.within;have Tw:h4.n<h5.n:=by
  rcases nh with⟨e,_⟩|⟨g,_,_,g1,g2,e,_⟩
  ·cases e
  ·cases e;exact g2
 generalize yG T k=fl at *;generalize rS:zy T F+F.length+fs=base at *;refine go ?_;refine VD (fun i=>fl.length-i) (fun i t h'=>zC t 12=I i/\i<=fl.length/\Ext h4 h'/\h6.n<=h'.n/\WL h5 h' (.slice w1 w2 w3) fl/\∃ v,zC t 10=v/\OwnR 5 BU h4.n h' v ([(⟨1,We T F f r,0,1+F.length+fs,[]⟩:Wh)]++(List.range i).flatMap fun(i:Nat)=>if W9 T (fl.getD i 0)then[]else[(⟨1,base+i,0,0,[]⟩:Wh)])/\ApR v (.slice w1 w2 w3)) 0 ?_ ?_
 ·refine⟨WH,QK _,A9,QE _,DP,_,WH,by simpa using Tu,fun g n k' e n' k2 e2=> ?_⟩;cases e;have:=Tv h4.n (by rw[e2];rfl);omega
 rintro i t h7 ab ⟨jV,hi,qi,wG,Jt,v,iY,Cp,wU⟩;have o7:=o4.ext qi;have gZ:=bz.trans qi;have Tx:=Jt.sl;refine go ?_;refine VE (fun hb=> ?_) (fun hb=> ?_)<;>simp only[DB]at hb;case refine_2=>
  have aK:i=fl.length:=by omega
  subst aK;refine gr ?_;refine⟨?_,gZ⟩;unfold zD3 zKI;rw[show 0+(([]:List Int).length:Int)+fs=fs by simp,rS];exact Cp.base bz.n
 have ae:i<fl.length:=by omega
 have hx:=ah _ (zM (l:=fl) ae);refine go ?_;refine VC 0 rfl rfl ?_;have iH:WB h (inC (zB 0 h7)) p3 [.slice t1 t2 t3,.slice f1 f2 f3]:=o7;have Ty:WQ (inC (zB 0 h7)) (.slice w1 w2 w3) fl:=Tx;refine WJ ?_;refine VA (Zv (inC (zB 0 h7)) _ _ T ((E.ext gZ).as 0).st ⟨_,_,_,rfl⟩ (fl.getD i 0) hx) ?_;rintro _ X ⟨rfl,eX⟩;refine nE eX ?_;have ni:Ext h7 (outC h7 X):=(zH 0 h7).trans (zZ (h:=h7) eX);have eK:Ext h7 (outC h7 (inC X)):=ni;clear iH Ty ni eX;have bp:=ZI (fun(i:Nat)=>if W9 T (fl.getD i 0)then[]else[(⟨1,base+i,0,0,[]⟩:Wh)]) i;cases bD:W9 T (fl.getD i 0)with
 |true=>
  rw[bD]at bp;refine WJ ?_;generalize outC h7 (inC X)=h8 at *;refine go ?_;refine zA (i+1) (by omega) ⟨Wn,by omega,qi.trans eK,QP wG eK.n,Jt.ext eK,v,WH,?_,wU⟩;rw[bp];simpa using OwnR.ext Cp eK
 |false=>
  rw[bD]at bp;refine WJ ?_;generalize outC h7 (inC X)=h8 at *;have o8:=o7.ext eK;have mX:=qi.trans eK;have cX:=gZ.trans eK;refine go ?_;refine VA (zKh (E.ext cX) hs) ?_;rintro _ h9 ⟨rfl,e9⟩;have Dy:=mX.trans e9;have Ju:=OwnR.ext Cp (eK.trans e9);have Mp:=Jt.ext (eK.trans e9);rw[hC];have hlen:(List.range i).length=i:=G5;refine go ?_;rw[rS];refine UV (hB:=h4) (⟨1,base+i,0,0,[]⟩:Wh) (fun _=>False) Ju Dy (QE _) Dy.n (by decide) ?_ ye (fun _ h=>h.elim) (fun _ _ _ _ h=>h) ?_
  ·rw[QM];have:=zA5 (fun(i:Nat)=>if W9 T (fl.getD i 0)then[]else[(⟨1,base+i,0,0,[]⟩:Wh)]) 1 i (fun j _=>by split<;>simp);simp only[QV];omega
  intro v' gV lit bJ fg Tz TA Jv;refine go ?_;refine zA (i+1) (by omega) ⟨Wn,by omega,bJ,by have:=eK.n;have:=e9.n;omega,zMm Mp (fun k hk ⟨n,q,e⟩=>TA k hk fun n' q' e'=>wU _ _ _ e' _ _ e) Tz,v',WH,?_,fun g n k e n' k' e'=> ?_⟩
  ·rw[bp,<-QT];exact fg
  ·have h1:=Jv g n k e;have h2:=Mp.within g (by rw[e'];rfl);omega
end
end Go.Proofs.YtmejfcakhpihlaaGreatDoor
set_option maxRecDepth 100000
namespace Go.Proofs.YtmejfcakhpihlaaGreatDoor
open Go.Am
theorem zNk{h:WA}{v:Value}{l:List Int}{i:Nat}(s:WQ h v l)(hi:i<l.length):∃ a n k,v=.slice (some a) n k/\a.block<h.n:=by
 obtain⟨_,⟨h2,_⟩|⟨g,off,row,rfl,_,_,h5⟩⟩:=s
 ·omega
 ·exact⟨_,_,_,rfl,h5⟩
section
variable {h:WA}{vt vf:Value}{T:List WE}{F:List Wa}
theorem zGs(E:En h vt vf T F)(hs:z8 T F=0)(f r:Int)(hf:0<=f/\f<(F.length:Int))(hr:0<=r/\r<=1000)(x:Wj)(va:Value)(b1:Option Addr)(b2 b3:Nat)(sa:WQ h va x.args)(bm:0<=x.ty/\x.ty<(T.length:Int))
  (hn:0<=x.n/\x.n<(F.length:Int)) (hlen:(zj T F x.n).parts.length=x.args.length) (dC:0<=(F.getD x.n.toNat default).sig/\(F.getD x.n.toNat default).sig<(T.length:Int)) (lJ:∀ t∈(zj T F x.n).parts,0<=t/\t<(T.length:Int)) (fA:∀ a∈x.args,0<=a/\a<=1000) (jT:x.args.length<=20):
  WC Tryz.prog tb 97 [.agg #[vt,vf],I f,I r,.agg #[.int .u8 x.op,I x.ty,I x.a,I x.b,I x.n,va,.slice b1 b2 b3]] h fun w h'=>OwnR 5 BU h.n h' w (zD4 T F f x.n (zj T F x.n).parts x.args++(if W9 T x.ty then[]else[⟨2,We T F f r,zy T F+x.n,0,[]⟩]))/\Ext h h':=by
 have hm:=E.hm;have hP:zj T F x.n=T.getD (F.getD x.n.toNat default).sig.toNat default:=rfl;unfold zD4;obtain⟨kQ,⟨vp,rfl,sp,pJ⟩,dR,mh⟩:=zP E.st (i:=(F.getD x.n.toNat default).sig.toNat) (by omega);obtain⟨iX,⟨vb,rfl,sb,cD⟩,fb,iB⟩:=zP E.sf (i:=x.n.toNat) (by omega);rw[<-hP]at sp pJ dR;generalize I7:zj T F x.n=P0 at *;generalize(F.getD x.n.toNat default).sig=sg at *;obtain⟨t1,t2,t3,rfl⟩:=zD E.st;obtain⟨f1,f2,f3,rfl⟩:=zD E.sf;obtain⟨a1,a2,a3,rfl⟩:=Wi.shape sa;obtain⟨p1,p2,p3,rfl⟩:=Wi.shape sp;obtain⟨Sq,Sr,Ss,rfl⟩:=zD sb;replace lJ:=WK.mk lJ;replace fA:=WK.mk fA;clear I7;refine en ?_;refine VF ?_;intro q4 h1 e1 o4;replace o4:WB h h1 q4 [.slice t1 t2 t3,.slice f1 f2 f3]:=o4;refine go ?_;refine VF ?_;intro q7 h2 e2 o7;replace o7:WB h1 h2 q7 [.int .u8 x.op,I x.ty,I x.a,I x.b,I x.n,.slice a1 a2 a3,.slice b1 b2 b3]:=o7;have o4:=o4.ext e2;have bj:=e1.trans e2;have TB:=(dR _ bj).1;have TC:=(fb _ bj).1;have bC:=Wu.ext E.st bj;have cW:=Wo.ext E.sf bj;have cS:=zp bj hm;refine go ?_;refine VD (fun i=>P0.parts.length-i) (fun i t h'=>zC t 12=I i/\i<=P0.parts.length/\Ext h2 h'/\∃ v,zC t 9=v/\OwnR 5 BU h2.n h' v ((List.range i).flatMap fun(i:Nat)=>if W9 T (P0.parts.getD i 0)then[]else[(⟨2,We T F x.n i,We T F f (x.args.getD i 0),0,[]⟩:Wh)])) 0 ?_ ?_
 ·exact⟨WH,QK _,Ext.refl _,_,WH,.inl ⟨rfl,rfl⟩⟩
 rintro i t h7 ab ⟨jV,hi,uV,v,s9,oO⟩;have uq:=o4.ext uV;have DQ:=o7.ext uV;have gZ:=bj.trans uV;have TD:=sp.ext gZ;have E7:=E.ext gZ;have jH:=zA5 (fun(i:Nat)=>if W9 T (P0.parts.getD i 0)then[]else[(⟨2,We T F x.n i,We T F f (x.args.getD i 0),0,[]⟩:Wh)]) 1 i (fun j _=>by split<;>simp);have Mq:h7.mark<=h2.n:=by rw[uV.mark];exact cS
 refine go ?_;refine VE (fun hb=> ?_) (fun hb=> ?_)<;>simp only[DB]at hb
 ·have ae:i<P0.parts.length:=by omega
  have mE:i<x.args.length:=by omega
  have hx:=lJ.out _ (zM ae);have fR:=fA.out _ (zM mE);have bp:=ZI (fun(i:Nat)=>if W9 T (P0.parts.getD i 0)then[]else[(⟨2,We T F x.n i,We T F f (x.args.getD i 0),0,[]⟩:Wh)]) i;refine go ?_;refine VC 0 rfl rfl ?_;have fB:WB h (inC (zB 0 h7)) q4 [.slice t1 t2 t3,.slice f1 f2 f3]:=uq;have TE:WQ (inC (zB 0 h7)) (.slice p1 p2 p3) P0.parts:=TD;refine WJ ?_;refine VA (Zv (inC (zB 0 h7)) _ _ T (E7.as 0).st ⟨_,_,_,rfl⟩ (P0.parts.getD i 0) hx) ?_;rintro _ X ⟨rfl,eX⟩;refine nE eX ?_;have ni:Ext h7 (outC h7 X):=(zH 0 h7).trans (zZ (h:=h7) eX);have eK:Ext h7 (outC h7 (inC X)):=ni;clear fB TE ni eX;cases bD:W9 T (P0.parts.getD i 0)with
  |true=>
   rw[bD]at bp;refine WJ ?_;generalize outC h7 (inC X)=h8 at *;refine go ?_;refine zA (i+1) (by omega) ⟨Wn,by omega,uV.trans eK,v,WH,?_⟩;rw[bp];simpa using OwnR.ext oO eK
  |false=>
   rw[bD]at bp;refine WJ ?_;generalize outC h7 (inC X)=h8 at *;have jg:=uq.ext eK;have Cq:=DQ.ext eK;have uW:=uV.trans eK;have cX:=gZ.trans eK;have ox:=OwnR.ext oO eK;have xL:=sa.ext cX;have E8:=E.ext cX;have qm:h8.mark<=h2.n:=by rw[uW.mark];exact cS
   obtain⟨bI,nI,kI,eI,lI⟩:=zNk xL mE;refine go ?_;refine VC 1 rfl rfl ?_;have fB:WB h (inC (zB 1 h8)) q4 [.slice t1 t2 t3,.slice f1 f2 f3]:=z0 1 jg;have iH:WB h1 (inC (zB 1 h8)) q7 [.int .u8 x.op,I x.ty,I x.a,I x.b,I x.n,.slice a1 a2 a3,.slice b1 b2 b3]:=z0 1 Cq;have lq:WQ (inC (zB 1 h8)) (.slice a1 a2 a3) x.args:=Z6 1 xL;refine WJ ?_;refine VA (yw (E8.as 1) hs x.n i hn ⟨by omega,by omega⟩) ?_;rintro _ X ⟨rfl,eX⟩;refine nE eX ?_;have gB:WB h (inC X) q4 [.slice t1 t2 t3,.slice f1 f2 f3]:=by have:=fB.ext eX;exact this
   have DR:WB h1 (inC X) q7 [.int .u8 x.op,I x.ty,I x.a,I x.b,I x.n,.slice a1 a2 a3,.slice b1 b2 b3]:=by have:=iH.ext eX;exact this
   have og:WQ (inC X) (.slice a1 a2 a3) x.args:=by have:=lq.ext eX;exact this
   clear fB iH lq;refine WJ ?_;refine zAq jg (Qr _) ?_;refine WJ ?_;refine yZ (j:=5) Cq (Qr _) ?_;refine WJ ?_;refine zEP (v:= .slice a1 a2 a3) (j:=i) ⟨bI,nI,kI,eI,Nat.lt_succ_of_lt lI⟩ ?_;refine WJ ?_;refine VA (yw ((E8.as 1).go eX) hs f (x.args.getD i 0) hf fR) ?_;rintro _ X2 ⟨rfl,dV⟩;refine nE dV ?_;refine WJ ?_;refine Vj (hB:=h2) (b:=h2.n) (X:={X2 with mark:=(zB 1 h8).n,wr:=[]}) (⟨2,We T F x.n i,We T F f (x.args.getD i 0),0,[]⟩:Wh) (fun _=>False) (Ext.inC eX dV) ox uW qm (QE _) uW.n (by decide) (by omega) ye (fun _ h=>h.elim) (fun _ _ _ _ h=>h) (fun h=>h) ?_;intro Y v' lit eY oY _ _;refine WJ ?_;exact zA (i+1) (by omega) ⟨Wn,by omega,eY,v',WH,by rw[bp];exact oY⟩
 ·have aK:i=P0.parts.length:=by omega
  subst aK;refine go ?_;refine VA (Zv h7 _ _ T E7.st ⟨_,_,_,rfl⟩ x.ty bm) ?_;rintro _ h8 ⟨rfl,eK⟩;have jg:=uq.ext eK;have Cq:=DQ.ext eK;have uW:=uV.trans eK;have cX:=gZ.trans eK;have ox:=OwnR.ext oO eK;have E8:=E.ext cX;have qm:h8.mark<=h2.n:=by rw[uW.mark];exact cS
  cases bD:W9 T x.ty with
  |true=>
   refine gr ?_;refine⟨?_,cX⟩;rw[QF rfl,GY];exact ox.base bj.n
  |false=>
   refine go ?_;refine VC 1 rfl rfl ?_;have fB:WB h (inC (zB 1 h8)) q4 [.slice t1 t2 t3,.slice f1 f2 f3]:=z0 1 jg;refine WJ ?_;refine VA (yw (E8.as 1) hs f r hf hr) ?_;rintro _ X ⟨rfl,eX⟩;refine nE eX ?_;have gB:WB h (inC X) q4 [.slice t1 t2 t3,.slice f1 f2 f3]:=by have:=fB.ext eX;exact this
   clear fB;refine WJ ?_;refine zAq jg (Qr _) ?_;refine WJ ?_;refine VA (zCy ((E8.as 1).go eX) hs x.n hn) ?_;rintro _ X2 ⟨rfl,dV⟩;refine nE dV ?_;refine WJ ?_;refine Vj (hB:=h2) (b:=h2.n) (X:={X2 with mark:=(zB 1 h8).n,wr:=[]}) (⟨2,We T F f r,zy T F+x.n,0,[]⟩:Wh) (fun _=>False) (Ext.inC eX dV) ox uW qm (QE _) uW.n (by decide) (by omega) ye (fun _ h=>h.elim) (fun _ _ _ _ h=>h) (fun h=>h) ?_;intro Y v' lit eY oY _ _;refine WJ ?_;have gJ:Ext h2 (outC h8 (inC Y)):=eY;have nh:OwnR 5 BU h2.n (outC h8 (inC Y)) v' _:=oY;clear eY oY;generalize outC h8 (inC Y)=h9 at *;refine gr ?_;exact⟨nh.base bj.n,bj.trans gJ⟩
end
end Go.Proofs.YtmejfcakhpihlaaGreatDoor
set_option maxRecDepth 100000
namespace Go.Proofs.YtmejfcakhpihlaaGreatDoor
open Go.Am
theorem zB2{b:Nat}{h h':WA}{a:Wh}{cs:List Value}{Dn:Nat->Prop}(hn:h.n<h'.n)(hg:h'.get h.n=some (.row cs true 0))(hc:cs.length=5)(d:Ba BU h' cs a Dn)(hD:∀ k,Dn k->b<=k/\k<h.n)(hb:b<=h.n):OwnR 5 BU b h' (.slice (some ⟨h.n,0,none⟩) 1 5) [a]:=
 .inr ⟨h.n,cs,Dn,hb,hn,rfl,hg,by rw[hc];rfl,fun hd=>by have:=(hD _ hd).2;omega,fun k hd=>⟨(hD k hd).1,by have:=(hD k hd).2;omega⟩,fun i a' ha=>by
  have hi:i=0:=by have:=(QR.1 ha).1;simp at this;omega
  subst hi;simp at ha;subst ha;rw[Nat.zero_mul,Q2,Q7 (by omega)];exact d⟩
theorem Zk{α:Type}{c:Nat}{R:WA->List Value->α->Prop}{h:WA}{v:Value}{l:List α}(s:BE c R h v l):∃ a n k,v=.slice a n k:=by
 obtain⟨_,⟨_,⟨_,e|⟨_,_,e⟩⟩|⟨_,_,_,e,_⟩⟩,_⟩:=s<;>exact⟨_,_,_,e⟩
def RC0(_:WA)(cs:List Value)(x:Wh):Prop:=cs=[.int .u8 x.kind,I x.to,I x.frm,I x.n,.slice none 0 0]/\x.args=[]
theorem rc0{b:Nat}{h:WA}{v:Value}{l:List Wh}(o:OwnR 5 RC0 b h v l):OwnR 5 BU b h v l:=by
 rcases o with o|⟨g,cells,D,g1,g2,g3,g4,g5,g6,g7,g8⟩
 ·exact .inl o
 ·exact .inr ⟨g,cells,D,g1,g2,g3,g4,g5,g6,g7,fun i a ha hx h1 h2=>by
   obtain⟨q1,q2⟩:=g8 i a ha hx h1 h2;exact⟨_,q1,.inl ⟨rfl,q2⟩,by rw[q2];simp⟩⟩
section
variable {T:List WE}{F:List Wa}{f:Int}{ks:List Int}{r:Int}{x:Wj}
theorem zQI(h:x.op=2):yl T F f ks r x=[⟨1,We T F f r,0,0,[]⟩]:=by unfold yl;rw[QF (.inl h),QC (by omega)]
theorem zQg(h:x.op=3):yl T F f ks r x=[⟨1,We T F f r,0,x.n+1,[]⟩]:=by unfold yl;rw[QF (.inr h),QF h]
theorem zOC(h:x.op=11\/x.op=12):yl T F f ks r x=zD3 T F f r (YV T f r (zR T F) 0 []):=by unfold yl;rw[QC (by omega),QF h]
theorem zOl(h:x.op=14):yl T F f ks r x=[⟨3,We T F f r,We T F f x.a,stepL T (T.getD (ks.getD x.a.toNat 0).toNat default).elem x.n,[]⟩]:=by unfold yl;rw[QC (by omega),QC (by omega),QF (.inl h),QF h]
theorem zO7(h:x.op=15):yl T F f ks r x=[⟨3,We T F f r,We T F f x.a,0,[]⟩]:=by unfold yl;rw[QC (by omega),QC (by omega),QF (.inr h),QC (by omega)]
theorem zPZ(h:x.op=16):yl T F f ks r x=if W9 T x.ty then[]else[⟨4,We T F f r,We T F f x.a,0,[]⟩]:=by unfold yl;rw[QC (by omega),QC (by omega),QC (by omega),QF h]
theorem zOp(h:x.op=17):yl T F f ks r x=if W9 T (ks.getD x.b.toNat 0)then[]else[⟨5,We T F f x.a,We T F f x.b,0,[]⟩]:=by unfold yl;rw[QC (by omega),QC (by omega),QC (by omega),QC (by omega),QF h]
theorem zOw(h:x.op=18):yl T F f ks r x=zD4 T F f x.n (zj T F x.n).parts x.args++(if W9 T x.ty then[]else[⟨2,We T F f r,zy T F+x.n,0,[]⟩]):=by unfold yl;rw[QC (by omega),QC (by omega),QC (by omega),QC (by omega),QC (by omega),QF h]
theorem zO3(h:x.op=19):yl T F f ks r x=[⟨6,We T F f r,We T F f x.a,0,x.args.map (We T F f)⟩]:=by unfold yl;rw[QC (by omega),QC (by omega),QC (by omega),QC (by omega),QC (by omega),QC (by omega),QF h]
theorem zPa(h:x.op=22):yl T F f ks r x=if W9 T x.ty then[]else zOD T F f r x.args:=by unfold yl;rw[QC (by omega),QC (by omega),QC (by omega),QC (by omega),QC (by omega),QC (by omega),QC (by omega),QF h]
theorem zQA(h:¬(x.op=2\/x.op=3)/\¬(x.op=11\/x.op=12)/\¬(x.op=14\/x.op=15)/\¬x.op=16/\¬x.op=17/\¬x.op=18/\¬x.op=19/\¬x.op=22):yl T F f ks r x=[]:=by
 unfold yl;rw[QC h.1,QC h.2.1,QC h.2.2.1,QC h.2.2.2.1,QC h.2.2.2.2.1,QC h.2.2.2.2.2.1,QC h.2.2.2.2.2.2.1,QC h.2.2.2.2.2.2.2]
end
section
variable {h:WA}{vt vf:Value}{T:List WE}{F:List Wa}
theorem zIc(E:En h vt vf T F)(hs:z8 T F=0)(f r:Int)(hf:0<=f/\f<(F.length:Int))(hr:0<=r/\r<=1000)(x:Wj)(va vx:Value)(sa:WQ h va x.args)(sx:∃ a n k,vx=.slice a n k)(I0:CI T F (Zb T F f) x)
  (Dz:x.op=14->(W6 T F f).getD x.a.toNat 0=(Zb T F f).getD x.a.toNat 0) (TF:x.op=17->(W6 T F f).getD x.b.toNat 0=(Zb T F f).getD x.b.toNat 0) (hex:x.op=11\/x.op=12->∃ s∈zR T F,s.fn=f/\s.nr=r) (pW:(Zb T F f).length<=1000):
  WC Tryz.prog tb 62 [.agg #[vt,vf],I f,I r,.agg #[.int .u8 x.op,I x.ty,I x.a,I x.b,I x.n,va,vx]] h fun w h'=>OwnR 5 BU h.n h' w (yl T F f (Zb T F f) r x)/\Ext h h':=by
 have hm:=E.hm;have hp:=(z9 hs).1;have Z:=zBL hp hf;have fZ:=(yN hp).1;have hT:=E.sm.types;have b7:=I0.op;have sJ:((Zb T F f).length:Int)=B1 ((zj T F f).parts.length:Int) (zF F f):=by rw[zER];exact Z.reg
 obtain⟨b1,b2,b3,rfl⟩:=sx;obtain⟨t1,t2,t3,rfl⟩:=zD E.st;obtain⟨f1,f2,f3,rfl⟩:=zD E.sf;obtain⟨a1,a2,a3,rfl⟩:=Wi.shape sa;refine en ?_;refine VF ?_;intro q4 h1 e1 o4;replace o4:WB h h1 q4 [.slice t1 t2 t3,.slice f1 f2 f3]:=o4;refine go ?_;refine VF ?_;intro q7 h2 e2 o7;replace o7:WB h1 h2 q7 [.int .u8 x.op,I x.ty,I x.a,I x.b,I x.n,.slice a1 a2 a3,.slice b1 b2 b3]:=o7;have o4:=o4.ext e2;have bj:=e1.trans e2;refine go ?_;refine VA (yw (E.ext bj) hs f r hf hr) ?_;rintro _ h3 ⟨rfl,e3⟩;have nU:=o4.ext e3;have qA:=o7.ext e3;have aN:=bj.trans e3;have E3:=E.ext aN;have i7:=sa.ext aN;have mi:=zp aN hm;by_cases c2:x.op=2
 ·rw[zQI c2];refine go ?_;refine Vq (cs:=[.int .u8 1,I (We T F f r),I 0,I 0,.slice none 0 0]) ?_;intro h4 e4 g4 n4;refine gr ?_;exact⟨zB2 n4 g4 rfl ye (Dn:=fun _=>False) (fun _ h=>h.elim) aN.n,aN.trans e4⟩
 by_cases c3:x.op=3
 ·rw[zQg c3];have hn:=I0.n3 c3;have hF:=E.sm.funcs;refine go ?_;refine Vq (cs:=[.int .u8 1,I (We T F f r),I 0,I (x.n+1),.slice none 0 0]) ?_;intro h4 e4 g4 n4;refine gr ?_;exact⟨zB2 n4 g4 rfl ye (Dn:=fun _=>False) (fun _ h=>h.elim) aN.n,aN.trans e4⟩
 by_cases kZ:x.op=11
 ·rw[zOC (.inl kZ)];refine go ?_;refine VA (zFF E3 hs f r hf hr (hex (.inl kZ))) ?_;rintro w h4 ⟨oW,e4⟩;refine gr ?_;exact⟨oW.base aN.n,aN.trans e4⟩
 by_cases C9:x.op=12
 ·rw[zOC (.inr C9)];refine go ?_;refine VA (zFF E3 hs f r hf hr (hex (.inr C9))) ?_;rintro w h4 ⟨oW,e4⟩;refine gr ?_;exact⟨oW.base aN.n,aN.trans e4⟩
 by_cases eG:x.op=14
 ·have ha:=I0.a14 (.inl eG);obtain⟨s,b9,kA,gw,vU,kz⟩:=I0.nV eG;have uX:=Dz eG;rw[zOl eG,b9];generalize hk:(Zb T F f).getD x.a.toNat 0=k at *;obtain⟨kQ,⟨vp,rfl,sp,pJ⟩,dR,mh⟩:=zP E3.st (i:=k.toNat) (by omega);rw[b9]at dR;refine go ?_;refine VC 1 rfl rfl ?_;have fB:WB h (inC (zB 1 h3)) q4 [.slice t1 t2 t3,.slice f1 f2 f3]:=z0 1 nU;have iH:WB h1 (inC (zB 1 h3)) q7 [.int .u8 x.op,I x.ty,I x.a,I x.b,I x.n,.slice a1 a2 a3,.slice b1 b2 b3]:=z0 1 qA;refine WJ ?_;refine VA (yw (E3.as 1) hs f x.a hf ⟨ha.1,by omega⟩) ?_;rintro _ X ⟨rfl,eX⟩;refine nE eX ?_;have TG:Ext h3 (outC h3 X):=(zH 1 h3).trans (zZ (h:=h3) eX);have gB:WB h (inC X) q4 [.slice t1 t2 t3,.slice f1 f2 f3]:=by have:=fB.ext eX;exact this
  have DR:WB h1 (inC X) q7 [.int .u8 x.op,I x.ty,I x.a,I x.b,I x.n,.slice a1 a2 a3,.slice b1 b2 b3]:=by have:=iH.ext eX;exact this
  clear fB iH;refine WJ ?_;refine yZ (j:=0) nU (Qr _) ?_;refine WJ ?_;refine yZ (j:=0) nU (Qr _) ?_;refine WJ ?_;refine zAq nU (Qr _) ?_;refine WJ ?_;refine yZ (j:=2) qA (Qr _) ?_;refine WJ ?_;have dB:=zDQ (inC X) f x.a ((E3.as 1).go eX) Z ha.1 (by omega);rw[uX]at dB;refine VA dB ?_;rintro _ X2 ⟨rfl,dV⟩;refine nE dV ?_;have Cr:Ext h3 (outC h3 X2):=TG.trans (zZ (h:=h3) dV);have TH:WB h1 (inC X2) q7 [.int .u8 x.op,I x.ty,I x.a,I x.b,I x.n,.slice a1 a2 a3,.slice b1 b2 b3]:=by have:=DR.ext dV;exact this
  have TI:=E3.ext Cr;have Jw:Wu (inC X2) (.slice t1 t2 t3) T:=TI.st;have TJ:Wp (inC X2) (.slice t1 t2 t3) (k.toNat*4) _:=(dR _ Cr).2;clear gB DR;refine WJ ?_;refine yZ (j:=4) qA (Qr _) ?_;refine WJ ?_;refine VA (zPi (inC X2) _ T Jw hT fZ s x.n gw vU ⟨by omega,by omega⟩) ?_;rintro _ X3 ⟨rfl,Mr⟩;refine nE Mr ?_;refine WJ ?_;refine V5 (hS:=h3) (X:={X3 with mark:=(zB 1 h3).n,wr:=[]}) (⟨3,We T F f r,We T F f x.a,stepL T s x.n,[]⟩:Wh) (fun _=>False) (Ext.inC (Ext.inC eX dV) Mr) mi (by decide) ye (fun _ h=>h.elim) ?_;intro Y eY oY;refine WJ ?_;have gJ:Ext h3 (outC h3 (inC Y)):=eY;have nh:OwnR 5 BU h3.n (outC h3 (inC Y)) (.slice (some ⟨h3.n,0,none⟩) 1 5) _:=oY;clear eY oY;generalize outC h3 (inC Y)=h9 at *;refine gr ?_;exact⟨nh.base aN.n,aN.trans gJ⟩
 by_cases kW:x.op=15
 ·have ha:=I0.a14 (.inr (.inl kW));rw[zO7 kW];refine go ?_;refine VA (yw E3 hs f x.a hf ⟨ha.1,by omega⟩) ?_;rintro _ h4 ⟨rfl,e4⟩;refine go ?_;refine Vq (cs:=[.int .u8 3,I (We T F f r),I (We T F f x.a),I 0,.slice none 0 0]) ?_;intro h5 e5 g5 n5;refine gr ?_;exact⟨zB2 n5 g5 rfl ye (Dn:=fun _=>False) (fun _ h=>h.elim) (aN.trans e4).n,aN.trans (e4.trans e5)⟩
 by_cases kY:x.op=16
 ·have ha:=I0.a14 (.inr (.inr (.inl kY)));have bm:=I0.ty (.inl kY);rw[zPZ kY];refine go ?_;refine VA (Zv h3 _ _ T E3.st ⟨_,_,_,rfl⟩ x.ty bm) ?_;rintro _ h4 ⟨rfl,e4⟩;have Jx:=nU.ext e4;have DT:=qA.ext e4;cases bD:W9 T x.ty with
  |true=>
   refine gr ?_;exact⟨.inl ⟨rfl,rfl⟩,aN.trans e4⟩
  |false=>
   refine go ?_;refine VA (yw (E3.ext e4) hs f x.a hf ⟨ha.1,by omega⟩) ?_;rintro _ h5 ⟨rfl,e5⟩;refine go ?_;refine Vq (cs:=[.int .u8 4,I (We T F f r),I (We T F f x.a),I 0,.slice none 0 0]) ?_;intro h6 e6 g6 n6;refine gr ?_;exact⟨zB2 n6 g6 rfl ye (Dn:=fun _=>False) (fun _ h=>h.elim) (aN.trans (e4.trans e5)).n,aN.trans (e4.trans (e5.trans e6))⟩
 by_cases tK:x.op=17
 ·have ha:=I0.a14 (.inr (.inr (.inr (.inl tK))));obtain⟨hb,Jy⟩:=I0.LZ tK;have uX:=TF tK;rw[zOp tK];generalize hk:(Zb T F f).getD x.b.toNat 0=k at *;refine go ?_;refine VC 0 rfl rfl ?_;have fB:WB h (inC (zB 0 h3)) q4 [.slice t1 t2 t3,.slice f1 f2 f3]:=nU;have iH:WB h1 (inC (zB 0 h3)) q7 [.int .u8 x.op,I x.ty,I x.a,I x.b,I x.n,.slice a1 a2 a3,.slice b1 b2 b3]:=qA;refine WJ ?_;have dB:=zDQ (inC (zB 0 h3)) f x.b (E3.as 0) Z hb.1 (by omega);rw[uX]at dB;refine VA dB ?_;rintro _ X ⟨rfl,eX⟩;refine nE eX ?_;refine WJ ?_;refine VA (Zv (inC X) _ _ T ((E3.as 0).go eX).st ⟨_,_,_,rfl⟩ k Jy) ?_;rintro _ X2 ⟨rfl,dV⟩;refine nE dV ?_;have Cs:Ext h3 (outC h3 X2):=((zH 0 h3).trans (zZ (h:=h3) eX)).trans (zZ (h:=h3) dV);have iZ:Ext h3 (outC h3 (inC X2)):=Cs;clear fB iH Cs;cases bD:W9 T k with
  |true=>
   refine WJ ?_;generalize outC h3 (inC X2)=h4 at *;have DT:=qA.ext iZ;refine gr ?_;exact⟨.inl ⟨rfl,rfl⟩,aN.trans iZ⟩
  |false=>
   refine WJ ?_;generalize outC h3 (inC X2)=h4 at *;have Jx:=nU.ext iZ;have DT:=qA.ext iZ;have E4:=E3.ext iZ;have Jq:=zp iZ mi;clear eX dV;refine go ?_;refine VC 1 rfl rfl ?_;have fB:WB h (inC (zB 1 h4)) q4 [.slice t1 t2 t3,.slice f1 f2 f3]:=z0 1 Jx;have iH:WB h1 (inC (zB 1 h4)) q7 [.int .u8 x.op,I x.ty,I x.a,I x.b,I x.n,.slice a1 a2 a3,.slice b1 b2 b3]:=z0 1 DT;refine WJ ?_;refine VA (yw (E4.as 1) hs f x.a hf ⟨ha.1,by omega⟩) ?_;rintro _ X ⟨rfl,eX⟩;refine nE eX ?_;have gB:WB h (inC X) q4 [.slice t1 t2 t3,.slice f1 f2 f3]:=by have:=fB.ext eX;exact this
   have DR:WB h1 (inC X) q7 [.int .u8 x.op,I x.ty,I x.a,I x.b,I x.n,.slice a1 a2 a3,.slice b1 b2 b3]:=by have:=iH.ext eX;exact this
   clear fB iH;refine WJ ?_;refine zAq Jx (Qr _) ?_;refine WJ ?_;refine yZ (j:=3) DT (Qr _) ?_;refine WJ ?_;refine VA (yw ((E4.as 1).go eX) hs f x.b hf ⟨hb.1,by omega⟩) ?_;rintro _ X2 ⟨rfl,dV⟩;refine nE dV ?_;refine WJ ?_;refine V5 (hS:=h4) (X:={X2 with mark:=(zB 1 h4).n,wr:=[]}) (⟨5,We T F f x.a,We T F f x.b,0,[]⟩:Wh) (fun _=>False) (Ext.inC eX dV) Jq (by decide) ye (fun _ h=>h.elim) ?_;intro Y eY oY;refine WJ ?_;have gJ:Ext h4 (outC h4 (inC Y)):=eY;have nh:OwnR 5 BU h4.n (outC h4 (inC Y)) (.slice (some ⟨h4.n,0,none⟩) 1 5) _:=oY;clear eY oY;generalize outC h4 (inC Y)=h9 at *;refine gr ?_;exact⟨nh.base (aN.trans iZ).n,(aN.trans iZ).trans gJ⟩
 by_cases iE:x.op=18
 ·have bm:=I0.ty (.inr (.inl iE));obtain⟨hn,hlen,dC,lJ⟩:=I0.iE iE;have fA:=I0.args (.inl iE);have jT:=I0.al;rw[zOw iE];refine go ?_;refine VA (zGs E3 hs f r hf hr x _ _ _ _ i7 bm hn hlen dC lJ (fun a ha=>by have:=fA a ha;omega) jT) ?_;rintro w h4 ⟨oW,e4⟩;refine gr ?_;exact⟨oW.base aN.n,aN.trans e4⟩
 by_cases jE:x.op=19\/x.op=22;case neg=>
  have TK:¬x.op=19:=fun e=>jE (.inl e);have TL:¬x.op=22:=fun e=>jE (.inr e);rw[zQA ⟨by omega,by omega,by omega,kY,tK,iE,TK,TL⟩];refine gr ?_;exact⟨.inl ⟨rfl,rfl⟩,aN⟩
 have fA:=I0.args (.inr jE);have jT:=I0.al;replace fA:=WK.mk fA;have TM:x.args.length<=20:=jT;have Ms:=jE;rcases jE with jE|jE;all_goals
  refine go ?_
  refine VD (fun i=>x.args.length-i) (fun i t h'=>zC t 12=I i/\i<=x.args.length/\Ext h3 h'/\∃ v w,zC t 10=v/\zC t 11=w/\OwnR 1 RI h3.n h' v ((x.args.take i).map (We T F f))/\OwnR 5 RC0 h3.n h' w ((List.range i).flatMap fun(i:Nat)=>[(⟨2,We T F f r,We T F f (x.args.getD i 0),0,[]⟩:Wh)])/\WU v w) 0 ?_ ?_
  ·exact⟨WH,QK _,Ext.refl _,_,_,WH,WH,.inl ⟨rfl,rfl⟩,.inl ⟨rfl,rfl⟩,fun g hg=>by cases hg⟩
  rintro i t h7 ab ⟨jV,hi,qB,v,w,iY,kS,oV,oW,TN⟩
  have uq:=nU.ext qB
  have DQ:=qA.ext qB
  have Fc:=i7.ext qB
  have E7:=E3.ext qB
  have Mq:h7.mark<=h3.n:=by rw[qB.mark];exact mi
  refine go ?_
  refine VE (fun hb=> ?_) (fun hb=> ?_)<;>simp only[DB]at hb
  ·have mE:i<x.args.length:=by omega
   have fR:=fA.out _ (zM mE)
   have TO:(x.args.take (i+1)).map (We T F f)=(x.args.take i).map (We T F f)++[We T F f (x.args.getD i 0)]:=by
    rw[Q1,QB mE,QG,QB mE,Option.toList_some,Qx];rfl
   have bp:=ZI (fun(i:Nat)=>[(⟨2,We T F f r,We T F f (x.args.getD i 0),0,[]⟩:Wh)]) i
   have jH:=zA5 (fun(i:Nat)=>[(⟨2,We T F f r,We T F f (x.args.getD i 0),0,[]⟩:Wh)]) 1 i (fun j _=>by simp)
   have hlv:((x.args.take i).map (We T F f)).length<=20:=by rw[Qi,Qn];omega
   refine go ?_
   refine VC 1 rfl rfl ?_
   have fB:WB h (inC (zB 1 h7)) q4 [.slice t1 t2 t3,.slice f1 f2 f3]:=z0 1 uq
   have iH:WB h1 (inC (zB 1 h7)) q7 [.int .u8 x.op,I x.ty,I x.a,I x.b,I x.n,.slice a1 a2 a3,.slice b1 b2 b3]:=z0 1 DQ
   have lq:WQ (inC (zB 1 h7)) (.slice a1 a2 a3) x.args:=Z6 1 Fc
   refine WJ ?_
   refine VA (yw (E7.as 1) hs f (x.args.getD i 0) hf (by omega)) ?_
   rintro _ X ⟨rfl,eX⟩
   refine nE eX ?_
   clear fB iH lq
   refine WJ ?_
   refine Vj (R:=RI) (hB:=h3) (b:=h3.n) (We T F f (x.args.getD i 0)) (fun _=>False) eX oV qB Mq (QE _) qB.n (by decide) (by omega) zMh (fun _ h=>h.elim) (fun _ _ _ _ h=>h) (fun h=>h) ?_
   intro Y v' lit eY oY uY sY
   refine WJ ?_
   have gJ:Ext h3 (outC h7 (inC Y)):=eY
   have nh:OwnR 1 RI h3.n (outC h7 (inC Y)) v' _:=oY
   have TP:UpB v h7 (outC h7 (inC Y)):=uY
   have Cf:=OwnR.upB (fun _ _ _ _ r=>r) oW TP TN
   have Jz:WU v' w:=VG sY fun g hg=>(yu oW g hg).2
   clear eY oY uY eX
   generalize outC h7 (inC Y)=h8 at *
   have jg:=nU.ext gJ
   have Cq:=qA.ext gJ
   have xL:=i7.ext gJ
   have E8:=E3.ext gJ
   have qm:h8.mark<=h3.n:=by rw[gJ.mark];exact mi
   refine go ?_
   refine VC 1 rfl rfl ?_
   have fB:WB h (inC (zB 1 h8)) q4 [.slice t1 t2 t3,.slice f1 f2 f3]:=z0 1 jg
   have iH:WB h1 (inC (zB 1 h8)) q7 [.int .u8 x.op,I x.ty,I x.a,I x.b,I x.n,.slice a1 a2 a3,.slice b1 b2 b3]:=z0 1 Cq
   have lq:WQ (inC (zB 1 h8)) (.slice a1 a2 a3) x.args:=Z6 1 xL
   refine WJ ?_
   refine VA (yw (E8.as 1) hs f (x.args.getD i 0) hf (by omega)) ?_
   rintro _ X ⟨rfl,eX⟩
   refine nE eX ?_
   clear fB iH lq
   refine WJ ?_
   refine Vj (R:=RC0) (hB:=h3) (b:=h3.n) (⟨2,We T F f r,We T F f (x.args.getD i 0),0,[]⟩:Wh) (fun _=>False) eX Cf gJ qm (QE _) gJ.n (by decide) (by omega) (fun _ _ _=>⟨rfl,rfl⟩) (fun _ h=>h.elim) (fun _ _ _ _ h=>h) (fun h=>h) ?_
   intro Z w' TQ eZ oZ uZ sZ
   refine WJ ?_
   have TR:=OwnR.upB (fun _ _ _ _ r=>r) nh uZ Jz.symm
   have dz:WU v' w':=(VG sZ fun g hg=>(yu nh g hg).2).symm
   exact zA (i+1) (by omega) ⟨Wn,by omega,eZ,v',w',WH,WH,by rw[TO];exact TR,by rw[bp];exact oZ,dz⟩
  have aK:i=x.args.length:=by omega
  subst aK
  rw[Qg]at oV
  obtain⟨v1,v2,v3,rfl⟩:=Zk oV.sl
  obtain⟨w1,w2,w3,rfl⟩:=Zk oW.sl
 ·rw[zO3 jE];have ha:=I0.a14 (by omega);have oN:=zCc (hB:=h3) oV (QE _);refine go ?_;refine VA (yw E7 hs f x.a hf ⟨ha.1,by omega⟩) ?_;rintro _ h8 ⟨rfl,e8⟩;have TS:=oN.ext e8;have wS:=qB.trans e8;refine go ?_;refine Vq (cs:=[.int .u8 6,I (We T F f r),I (We T F f x.a),I 0,.slice v1 v2 v3]) ?_;intro h9 e9 g9 n9;refine gr ?_;refine⟨?_,aN.trans (wS.trans e9)⟩;have qV:(x.args.map (We T F f)).length<=1000:=by rw[Qi];omega
  rcases TS with⟨e,hz⟩|⟨g,g1,g2,e,g3⟩
  ·cases e;rw[hz];exact zB2 n9 g9 rfl ye (Dn:=fun _=>False) (fun _ h=>h.elim) (aN.trans wS).n
  ·cases e;refine zB2 n9 g9 rfl (Dn:=fun k=>k=g) (fun hx h1 h2=>⟨_,rfl,.inr ⟨g,QI (QI g2 e9.n) h2,rfl,h1 g _ rfl ((e9.get g g2).trans g3)⟩,qV⟩) (fun k hk=> ?_) (aN.trans wS).n;subst hk;have:=aN.n;exact⟨by omega,g2⟩
 ·rw[zPa jE];have bm:=I0.ty (by omega);refine go ?_;refine VA (Zv h7 _ _ T E7.st ⟨_,_,_,rfl⟩ x.ty bm) ?_;rintro _ h8 ⟨rfl,e8⟩;have wS:=qB.trans e8;cases bD:W9 T x.ty with
  |true=>
   refine gr ?_;exact⟨.inl ⟨rfl,rfl⟩,aN.trans wS⟩
  |false=>
   have TT:=(rc0 (OwnR.ext oW e8)).base aN.n;refine gr ?_;exact⟨TT,aN.trans wS⟩
end
end Go.Proofs.YtmejfcakhpihlaaGreatDoor
set_option maxRecDepth 100000
namespace Go.Proofs.YtmejfcakhpihlaaGreatDoor
open Go.Am
theorem zPS{h:WA}{cs:List Value}{a:Wh}(r:BU h cs a):zL cs=true:=by
 obtain⟨va,rfl,o,_⟩:=r;rcases o with⟨rfl,_⟩|⟨g,_,rfl,_⟩<;>rfl
theorem zOg{T:List WE}{F:List Wa}(hs:z8 T F=0){f:Nat}(hf:f<F.length){b:Nat}(hb:b<(zF F f).length){i:Nat}(hi:i<((zF F f).getD b default).ins.length):
  ∀ q∈zt (((zF F f).getD b default).ins.getD i default),(Zb T F f).getD q.toNat 0=(W6 T F f).getD q.toNat 0:=by
 have W:=((z9 hs).2 f (by omega) (by omega)).2.2 b (by omega) (by omega);have h1:=W.1 i (by rw[QL];exact hi);unfold YO zAE at h1;rw[QL]at h1;exact fun q hq=>(zN7 fun e=>h1.1 (Qw.2 ⟨q,hq,e⟩)).1
theorem zRJ{x:Wj}(h:x.op=14):x.a∈zt x:=by
 unfold zt;have:=zOQ.1;rw[h,QF this];simp
theorem zQ2{x:Wj}(h:x.op=17):x.b∈zt x:=by
 unfold zt;have:=zOQ.2.2.2.2.2.1;rw[h,QF this];simp
section
variable {h:WA}{vt vf:Value}{T:List WE}{F:List Wa}
theorem zLO(E:En h vt vf T F)(hs:z8 T F=0):WC Tryz.prog tb 32 [.agg #[vt,vf]] h fun w h'=>OwnR 5 BU h.n h' w (YH T F F.length)/\Ext h h':=by
 have hm:=E.hm;have hp:=(z9 hs).1;obtain⟨hc,lN,ig,hfn⟩:=yN hp;have rR:=zFI hs;have uM:=zDI hs;obtain⟨t1,t2,t3,rfl⟩:=zD E.st;obtain⟨f1,f2,f3,rfl⟩:=zD E.sf;clear hfn;replace rR:=WK.mk rR;replace uM:=WK.mk uM;refine en ?_;refine VF ?_;intro q1 h1 e1 o1;replace o1:WB h h1 q1 [.slice t1 t2 t3,.slice f1 f2 f3]:=o1;have E1:=E.ext e1;have cH:=zp e1 hm;refine go ?_;refine VD (fun i=>F.length-i) (fun i t h'=>zC t 4=I i/\i<=F.length/\Ext h1 h'/\∃ v,zC t 3=v/\OwnR 5 BU h1.n h' v (YH T F i)) 0 ?_ ?_
 ·exact⟨WH,QK _,Ext.refl _,_,WH,.inl ⟨rfl,rfl⟩⟩
 rintro i t h2 ab ⟨s4,hi,az,v,s3,oO⟩;have dH:=o1.ext az;have cW:=Wo.ext E1.sf az;refine go ?_;refine VE (fun hb=> ?_) (fun hb=> ?_)<;>simp only[DB]at hb;case refine_2=>
  have aK:i=F.length:=by omega
  subst aK;obtain⟨v1,v2,v3,rfl⟩:=Zk oO.sl;refine gr ?_;exact⟨oO.base e1.n,e1.trans az⟩
 have ae:i<F.length:=by omega
 have Z:=zBL hp (f:=(i:Int)) (by omega);have I6:=rR.out i (by omega);have jn:=uM.out i ae;have bP:YH T F (i+1)=YH T F i++consB T F i (zF F i) (zF F i).length:=ZI _ i;have dC:=Z.sig;have uI:=Z.many;have tw:=Z.od;have jA:=Z.el;have ew:=Z.par4;have pW:(Zb T F i).length<=1000:=by rw[zER];have:=Z.reg;unfold B1 at this;omega
 have mV:=fun {b:Nat} (hb:b<(zF F i).length) {q:Nat} (hq:q<((zF F i).getD b default).ins.length)=>zNY hs ae hb hq;have u0:=fun {b:Nat} (hb:b<(zF F i).length) {q:Nat} (hq:q<((zF F i).getD b default).ins.length)=>zOg hs ae hb hq;have nj:=fun {b:Nat} (hb:b<(zF F i).length) {q:Nat} (hq:q<((zF F i).getD b default).ins.length)=>zOX (T:=T) ae hb hq;have gW:=fun b=>zBm (zF F i) b;have a9:=fun {b:Nat} (hb:b<(zF F i).length) {q:Nat} (hq:q<((zF F i).getD b default).ins.length) (r:Int)=>zGo hs ae hb hq r;have jo:∀ b,consB T F i (zF F i) (b+1)=consB T F i (zF F i) b++(zEz T F i ((zj T F i).parts.length+zJ ((zF F i).take b)) ((zF F i).getD b default).ins++zHz T F i ((zF F i).getD b default)):=fun b=>ZI _ b;have uN:∀ B,zHz T F i B=if B.fin.kind=3 then(if W9 T (zj T F i).elem then[]else[⟨2,zy T F+i,We T F i B.fin.a,0,[]⟩])else[]:=fun B=>rfl;have bN:∀ b,b<(zF F i).length->((zF F i).getD b default).fin.kind=3->0<=((zF F i).getD b default).fin.a/\((zF F i).getD b default).fin.a<=1000:=fun b hb hk=>by
  have h1:=(Z.U _ (zE hb)).ends ((zF F i).getD b default).fin.a (by unfold yI;rw[QF (.inr hk)];simp);have h2:=Z.reg;unfold B1 at h2;omega
 rw[QL]at dC;have hL:zF F i=(F.getD i default).blocks:=by unfold zF;rw[QL]
 have hP:zj T F i=T.getD (F.getD i default).sig.toNat default:=by unfold zj;rw[QL]
 obtain⟨iX,⟨vb,rfl,sb,cD⟩,fb,iB⟩:=zP (i:=i) E1.sf ae;obtain⟨kQ,⟨va,rfl,sa,br⟩,dR,mh⟩:=zP (i:=(F.getD i default).sig.toNat) E1.st (by omega);have gY:=fun(h':WA) (EE:En h' (.slice t1 t2 t3) (.slice f1 f2 f3) T F) (b:Nat) (q:Int) (hb:b<(zF F i).length) (hq:0<=q/\q<1000)=>zCL h' _ _ T F (i:Int) q b EE ⟨by omega,by omega⟩ (by rw[QL];exact dC) (by rw[QL,<-hL];exact hb) (by omega);simp only[QL]at gY;rw[<-hL]at sb cD;rw[<-hP]at sa br dR;rw[<-hL,<-hP]at gY;have jG:=E1.sm.blocks _ (zE ae);have dG:=E1.sm.ins _ (zE ae);rw[<-hL]at jG dG;generalize S4:zF F i=L at *;generalize I7:zj T F i=P0 at *;generalize(F.getD i default).sig=sg at *;obtain⟨b1,b2,b3,rfl⟩:=zD sb;obtain⟨a1,a2,a3,rfl⟩:=Wi.shape sa;clear Z hL hP;replace mV:=WK.mk @mV;replace u0:=WK.mk @u0;replace nj:=WK.mk @nj;replace a9:=WK.mk @a9;replace jo:=WK.mk jo;replace uN:=WK.mk uN;replace bN:=WK.mk bN;replace jn:=WK.mk jn;replace gW:=WK.mk gW;replace dG:=WK.mk dG;replace gY:=WK.mk gY;refine go ?_;refine VD (fun b=>L.length-b) (fun b t h'=>zC t 5=I b/\b<=L.length/\Ext h1 h'/\∃ v,zC t 3=v/\OwnR 5 BU h1.n h' v (YH T F i++consB T F i L b)) 0 ?_ ?_
 ·exact⟨WH,QK _,az,v,WH,by simpa [consB]using oO⟩
 rintro b tb1 h5 JJ ⟨s5,aC,er,v5,s35,Cg⟩;have Me:=o1.ext er;have tf:=Wo.ext E1.sf er;have AH:=Wv.ext sb er;have TU:=(fb _ er).1;refine go ?_;refine VE (fun cY=> ?_) (fun cY=> ?_)<;>simp only[DB]at cY;case refine_2=>
  have uU:b=L.length:=by omega
  subst uU;refine go ?_;refine zA (i+1) (by omega) ⟨Wn,by omega,er,v5,WH,?_⟩;rw[bP];exact Cg
 have aI:b<L.length:=by omega
 obtain⟨pE,⟨vi,rfl,si,fc⟩,kR,mo⟩:=zP (i:=b) sb aI;have TV:=(kR _ er).1;have Ja:=gW.out b;have Jb:=gW.out (b+1);have bU:zJ (L.take (b+1))=zJ (L.take b)+((L.getD b default).ins.length:Int):=by rw[ZP aI];unfold zJ;simp
 have bp:=jo.out b;have tl:=jn.out b (by omega);have jq:=fun {q:Nat} (hq:q<(L.getD b default).ins.length)=>mV.out aI hq;have np:=fun {q:Nat} (hq:q<(L.getD b default).ins.length)=>u0.out aI hq;have jr:=fun {q:Nat} (hq:q<(L.getD b default).ins.length)=>nj.out aI hq;have ed:=fun {q:Nat} (hq:q<(L.getD b default).ins.length) (r:Int)=>a9.out aI hq r;have nb:=bN.out b aI;have Jc:=dG.out _ (zE aI);have nq:=fun(h':WA) EE (q:Int) hq=>gY.out h' EE b q aI hq;rw[uN.out]at bp;unfold zEz at bp;generalize L.getD b default=B at *;obtain⟨i1,i2,i3,rfl⟩:=zD si;have jH:∀ q,q<=B.ins.length->((List.range q).flatMap fun(j:Nat)=>yl T F i (Zb T F i) (P0.parts.length+zJ (L.take b)+j) (B.ins.getD j default)).length<=41*q:=fun q hq=>zA5 _ 41 q fun j hj=>ed (by omega) _;replace jq:=WK.mk @jq;replace np:=WK.mk @np;replace jr:=WK.mk @jr;replace ed:=WK.mk @ed;replace jH:=WK.mk jH;replace nq:=WK.mk nq;refine go ?_;refine WO.al ?_;intro p6 h6 e6 o6;refine go ?_;refine VH (cs:=[.slice i1 i2 i3,.int .u8 B.fin.kind,I B.fin.a,I B.fin.to,I B.fin.aE]) o6 e6 ?_;intro h7 e7 L6 u7;have Cp:=OwnR.ext Cg e7;have et:=er.trans e7;refine go ?_;refine VD (fun q=>B.ins.length-q) (fun q t h'=>zC t 7=I q/\q<=B.ins.length/\(Ext h1 h'/\WB h5 h' p6 [.slice i1 i2 i3,.int .u8 B.fin.kind,I B.fin.a,I B.fin.to,I B.fin.aE])/\∃ v,zC t 3=v/\OwnR 5 BU h1.n h' v (YH T F i++consB T F i L b++(List.range q).flatMap fun(j:Nat)=>yl T F i (Zb T F i) (P0.parts.length+zJ (L.take b)+j) (B.ins.getD j default))/\WU v p6) 0 ?_ ?_
 ·exact⟨WH,QK _,⟨et,L6⟩,v5,WH,by simpa using Cp,(VG o6.since' fun g hg=>(yu Cg g hg).2).symm⟩
 rintro q tb2 h8 aZ ⟨s7,hq,⟨fz,oj⟩,v8,R1,ox,d8⟩;have JK:=o1.ext fz;have Jf:=jH.out q hq;have rM:=BB.ext si fz;have E8:=E1.ext fz;have qm:h8.mark<=h1.n:=by rw[fz.mark];exact cH
 have Te:(YH T F i++consB T F i L b++(List.range q).flatMap fun(j:Nat)=>yl T F i (Zb T F i) (P0.parts.length+zJ (L.take b)+j) (B.ins.getD j default)).length<=80000:=by
  rw[QM,QM];omega
 refine go ?_;refine VE (fun bM=> ?_) (fun bM=> ?_)<;>simp only[DB]at bM
 ·have cE:q<B.ins.length:=by omega
  have I0:=jq.out cE;have Mu:=np.out cE;have gw:=jr.out cE;have ho0:=ed.out cE (P0.parts.length+zJ (L.take b)+q);obtain⟨wD,⟨xa,xf,rfl,cr,cz,vG,DF,ho⟩,fN,wE⟩:=zP (i:=q) si cE;have m9:=ZI (fun(j:Nat)=>yl T F i (Zb T F i) (P0.parts.length+zJ (L.take b)+j) (B.ins.getD j default)) q;obtain⟨bI,nI,kI,eI,lI⟩:=YI rM cE;generalize B.ins.getD q default=x at *;obtain⟨k7,k9,ld,rfl⟩:=Wi.shape cr;obtain⟨mJ,mK,mL,rfl⟩:=Wi.shape cz;refine go ?_;refine VC 0 rfl rfl ?_;have oh:WB h (inC (zB 0 h8)) q1 [.slice t1 t2 t3,.slice f1 f2 f3]:=JK;have qq:WB h5 (inC (zB 0 h8)) p6 [.slice i1 i2 i3,.int .u8 B.fin.kind,I B.fin.a,I B.fin.to,I B.fin.aE]:=oj;refine WJ ?_;refine VA (nq.out (inC (zB 0 h8)) (E8.as 0) q ⟨by omega,by omega⟩) ?_;rintro _ X ⟨rfl,eX⟩;refine nE eX ?_;have rN:Ext h8 (outC h8 X):=(zH 0 h8).trans (zZ (h:=h8) eX);have Lx:WB h5 (inC X) p6 [.slice i1 i2 i3,.int .u8 B.fin.kind,I B.fin.a,I B.fin.to,I B.fin.aE]:=by have:=qq.ext eX;exact this
  have Lb:BB (inC X) (.slice i1 i2 i3) B.ins:=BB.ext (h':=outC h8 X) rM rN;have TW:Wp (inC X) (.slice i1 i2 i3) (q*7) _:=(fN _ (fz.trans rN)).2;clear oh qq;refine WJ ?_;refine yZ (j:=0) oj (QE _) ?_;refine WJ ?_;refine zEP (v:= .slice i1 i2 i3) (j:=q*7) ⟨bI,nI,kI,eI,lI⟩ ?_;refine WJ ?_;have og:WQ (inC X) (.slice k7 k9 ld) x.args:=Wi.ext (h':=outC h8 X) cr (fz.trans rN);refine VA (zIc ((E8.as 0).go eX) hs (i:Int) (P0.parts.length+zJ (L.take b)+q) ⟨by omega,by omega⟩ ⟨by omega,by omega⟩ x _ _ og ⟨_,_,_,rfl⟩ I0 (fun e=>(Mu _ (zRJ e)).symm) (fun e=>(Mu _ (zQ2 e)).symm) (fun e=>gw (by unfold yz;rcases e with e|e<;>simp[e])) pW) ?_;rintro w X2 ⟨oW,dV⟩;refine nE dV ?_;obtain⟨w1,w2,w3,rfl⟩:=Zk oW.sl;refine WJ ?_;have TX:h8.n<=X.n:=eX.n;refine XM (hB:=h1) (b:=h1.n) (b2:=X.n) (R:=BU) (X:={X2 with mark:=(zB 0 h8).n,wr:=[]}) (Ext.inC eX dV) ox oW TX (by decide) (fun _ _ _ r=>zPS r) fz qm (QE _) fz.n (by omega) ?_;intro Y v9 cm eY oY uY zY;refine WJ ?_;have DU:=oj.upB uY d8;refine zA (q+1) (by omega) ⟨Wn,by omega,⟨eY,DU⟩,v9,WH,?_,fun g hg Mv=> ?_⟩
  ·rw[m9,<-QT];exact oY
  ·rcases zY g hg with h|h
   ·exact d8 g h Mv
   ·have:=oj.within g Mv;omega
 ·have iW:q=B.ins.length:=by omega
  subst iW;obtain⟨v1,v2,v3,rfl⟩:=Zk ox.sl;have CY:=Wo.ext E1.sf fz;have TY:=(fb _ fz).1;have TZ:=(dR _ fz).1;have wK:=E8.st;by_cases cg:B.fin.kind=3;case neg=>
   rw[QC cg,GY]at bp;refine go ?_;refine VC 0 rfl rfl ?_;have qq:WB h5 (inC (zB 0 h8)) p6 [.slice i1 i2 i3,.int .u8 B.fin.kind,I B.fin.a,I B.fin.to,I B.fin.aE]:=oj;refine WJ ?_;refine go ?_;refine zA (b+1) (by omega) ⟨Wn,by omega,fz,_,WH,?_⟩;rw[bp,<-QT];exact ox
  rw[QF cg]at bp;have ng:=nb cg;have uT:0<=P0.elem/\P0.elem<(T.length:Int):=by unfold PlT at jA;omega
  refine go ?_;refine VC 0 rfl rfl ?_;have oh:WB h (inC (zB 0 h8)) q1 [.slice t1 t2 t3,.slice f1 f2 f3]:=JK;have qq:WB h5 (inC (zB 0 h8)) p6 [.slice i1 i2 i3,.int .u8 B.fin.kind,I B.fin.a,I B.fin.to,I B.fin.aE]:=oj;have wI:Wo (inC (zB 0 h8)) (.slice f1 f2 f3) F:=CY;have oi:Wu (inC (zB 0 h8)) (.slice t1 t2 t3) T:=wK;have Ch:Wp (inC (zB 0 h8)) _ _ _:=(fb _ fz).2;have Ci:Wp (inC (zB 0 h8)) _ _ _:=(dR _ fz).2;refine WJ ?_;refine VA (Zv (inC (zB 0 h8)) _ _ T (E8.as 0).st ⟨_,_,_,rfl⟩ P0.elem uT) ?_;rintro _ X ⟨rfl,eX⟩;refine nE eX ?_;have Ct:Ext h8 (outC h8 X):=(zH 0 h8).trans (zZ (h:=h8) eX);have vc:Ext h8 (outC h8 (inC X)):=Ct;clear oh qq wI oi Ch Ci Ct eX;cases bD:W9 T P0.elem with
  |true=>
   rw[bD,QF rfl,GY]at bp;refine WJ ?_;generalize outC h8 (inC X)=h9 at *;refine go ?_;refine zA (b+1) (by omega) ⟨Wn,by omega,fz.trans vc,_,WH,?_⟩;rw[bp,<-QT];exact OwnR.ext ox vc
  |false=>
   rw[bD,QC Bool.false_ne_true,<-QT]at bp;refine WJ ?_;generalize outC h8 (inC X)=h9 at *;have Dk:=JK.ext vc;have DU:=oj.ext vc;have Ju:=OwnR.ext ox vc;have ib:=fz.trans vc;have E9:=E8.ext vc;have T3:h9.mark<=h1.n:=by rw[ib.mark];exact cH
   refine go ?_;refine VC 1 rfl rfl ?_;have oh:WB h (inC (zB 1 h9)) q1 [.slice t1 t2 t3,.slice f1 f2 f3]:=z0 1 Dk;have qq:WB h5 (inC (zB 1 h9)) p6 [.slice i1 i2 i3,.int .u8 B.fin.kind,I B.fin.a,I B.fin.to,I B.fin.aE]:=z0 1 DU;refine WJ ?_;refine VA (zCy (E9.as 1) hs (i:Int) ⟨by omega,by omega⟩) ?_;rintro _ X ⟨rfl,eX⟩;refine nE eX ?_;have jd:WB h (inC X) q1 [.slice t1 t2 t3,.slice f1 f2 f3]:=by have:=oh.ext eX;exact this
   have Lx:WB h5 (inC X) p6 [.slice i1 i2 i3,.int .u8 B.fin.kind,I B.fin.a,I B.fin.to,I B.fin.aE]:=by have:=qq.ext eX;exact this
   clear oh qq;refine WJ ?_;refine zAq Dk (Qr _) ?_;refine WJ ?_;refine yZ (j:=2) DU (Qr _) ?_;refine WJ ?_;refine VA (yw ((E9.as 1).go eX) hs (i:Int) B.fin.a ⟨by omega,by omega⟩ ng) ?_;rintro _ X2 ⟨rfl,dV⟩;refine nE dV ?_;refine WJ ?_;refine Vj (hB:=h1) (b:=h1.n) (X:={X2 with mark:=(zB 1 h9).n,wr:=[]}) (⟨2,zy T F+i,We T F i B.fin.a,0,[]⟩:Wh) (fun _=>False) (Ext.inC eX dV) Ju ib T3 (QE _) ib.n (by decide) (by omega) ye (fun _ h=>h.elim) (fun _ _ _ _ h=>h) (fun h=>h) ?_;intro Y v' lit eY oY _ _;refine WJ ?_;refine zA (b+1) (by omega) ⟨Wn,by omega,eY,v',WH,?_⟩;rw[bp,<-QT,<-QT];exact oY
theorem zN6(E:En h vt vf T F):WC Tryz.prog tb 11 [.agg #[vt,vf]] h fun w h'=>(∃ v,w=.tuple #[v,I (z8 T F)]/\OwnR 5 BU h.n h' v (zBJ T F))/\Ext h h':=by
 refine en ?_;refine VF ?_;intro p h1 e1 o1;replace o1:WB h h1 p [vt,vf]:=o1;refine go ?_;refine VA (zId h1 (E.ext e1)) ?_;rintro _ h2 ⟨rfl,e2⟩;have o2:=o1.ext e2;have bj:=e1.trans e2;by_cases hs:z8 T F=0;case neg=>
  have a7:zBJ T F=[]:=by unfold zBJ;rw[QC hs]
  rw[a7];refine gr ?_;exact⟨⟨_,rfl,.inl ⟨rfl,rfl⟩⟩,bj⟩
 have a7:zBJ T F=YH T F F.length:=by unfold zBJ;rw[QF hs]
 rw[a7,hs];refine go ?_;refine VA (zLO (E.ext bj) hs) ?_;rintro w h3 ⟨oW,e3⟩;refine gr ?_;exact⟨⟨_,rfl,oW.base bj.n⟩,bj.trans e3⟩
theorem zIr(va vb:Value)(A:List Wh)(sa:SlO h va A)(sb:SlO h vb A)(hl:A.length<=100000):WC Tryz.prog tb 12 [va,vb] h fun r h'=>r=.bool true/\h=h':=by
 obtain⟨a1,a2,a3,rfl⟩:=Zk sa;obtain⟨b1,b2,b3,rfl⟩:=Zk sb;refine en ?_;refine VD (fun i=>A.length-i) (fun i t h1=>h=h1/\zC t 5=I i/\i<=A.length) 0 ?_ ?_
 ·exact⟨rfl,WH,QK _⟩
 rintro i t _ ab ⟨rfl,s5,hi⟩;refine go ?_;refine VE (fun hb=> ?_) (fun hb=> ?_)<;>simp only[DB]at hb;case refine_2=>
  refine gr ?_;exact⟨rfl,rfl⟩
 have ae:i<A.length:=by omega
 obtain⟨ca,⟨va,rfl,oa,br⟩,T4,hsa⟩:=zP sa ae;obtain⟨cb,⟨vb,rfl,ob,cD⟩,lj,kg⟩:=zP sb ae;generalize A.getD i default=x at *;refine go ?_;refine VC 0 rfl rfl ?_;have lq:SlO (inC (zB 0 h)) (.slice a1 a2 a3) A:=sa;have tZ:SlO (inC (zB 0 h)) (.slice b1 b2 b3) A:=sb;have T5:Wp (inC (zB 0 h)) _ _ _:=(T4 _ (Ext.refl _)).2;have T6:Wp (inC (zB 0 h)) _ _ _:=(lj _ (Ext.refl _)).2;refine WJ ?_;refine VA (Yt (inC (zB 0 h)) va vb x.args x.args oa.sl ob.sl (by omega)) ?_;rintro _ _ ⟨rfl,rfl⟩;rw[Qc rfl];refine nQ ?_;refine WJ ?_;refine go ?_;exact zA (i+1) (by omega) ⟨rfl,Wn,by omega⟩
end
end Go.Proofs.YtmejfcakhpihlaaGreatDoor
