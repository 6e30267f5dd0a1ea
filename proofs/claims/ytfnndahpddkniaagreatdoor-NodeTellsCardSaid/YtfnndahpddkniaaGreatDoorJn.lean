/- Walks of functions, plain laws; proves no statement. -/
import Derived.Test.YtfnndahpddkniaaGreatDoorJm
set_option linter.all false
set_option maxHeartbeats 4000000
set_option maxRecDepth 100000
namespace Go.Proofs.YtfnndahpddkniaaGreatDoor
open Go.Am
section
variable {h:Uy}{vt vf:Value}{T:List U0}{F:List WJ}
def zE7(T:List U0)(F:List WJ)(f r:Int):Prop:=(0<=f/\f<(F.length:Int))/\0<=r/\r<(zj T F).getD f.toNat 0
noncomputable def zNV(T:List U0)(F:List WJ)(f r:Int):Int:=open Classical in if zK T F≠0 then zK T F else if zE7 T F f r then 0 else 2
noncomputable def zMo(T:List U0)(F:List WJ)(f r:Int):Int:=open Classical in if zK T F=0/\zE7 T F f r then((zj T F).take f.toNat).sum+r else 0
theorem zNn(E:Bh h vt vf T F)(f r:Int):WC Tryz.prog tb 18 [.agg #[vt,vf],I f,I r] h fun r' h'=>r'=.tuple #[I (zMo T F f r),I (zNV T F f r)]/\Ext h h':=by
 unfold zMo zNV;have hRl:(zj T F).length=F.length:=by unfold zj;simp
 refine en ?_;refine VF ?_;intro p h1 e1 o1;replace o1:Uz h h1 p [vt,vf]:=o1;refine go ?_;refine VA (zAL h1 vt vf T F (E.ext e1)) ?_;rintro _ h2 ⟨⟨vR,vF,vS,rfl,⟨r1,r2,r3,rfl⟩,⟨f1,f2,f3,rfl⟩,⟨s1,s2,s3,rfl⟩,oR,oF,sS⟩,e2⟩;refine go ?_;refine VK ?_;intro p8 h3 e3 o3;refine go ?_;refine VG (cs:=[.slice r1 r2 r3,.slice f1 f2 f3,.slice s1 s2 s3]) o3 e3 ?_;intro h4 e4 o4 _;have e04:=e1.trans (e2.trans e4);by_cases hs:zK T F=0;case neg=>
  have hs':zK T F≠0:=hs;rw[QC (fun e=>hs e.1),QF hs];refine gr ?_;exact⟨rfl,e04⟩
 have B:=(zHp hs oR oF sS ⟨⟨_,_,_,rfl⟩,⟨_,_,_,rfl⟩,⟨_,_,_,rfl⟩⟩).ext e4;have sR:=B.r.sl;rw[hs];refine go ?_;refine VA (zBa h4 f (zj T F).length) ?_;rintro _ _ ⟨rfl,rfl⟩;rw[hRl];by_cases hf:0<=f/\f<(F.length:Int);case neg=>
  have hn:¬zE7 T F f r:=fun e=>hf e.1;rw[QS hf,QC (fun e=>hn e.2),QC (fun e=>e rfl),QC hn];refine gr ?_;exact⟨rfl,e04⟩
 rw[QT hf];have hfl:f<((zj T F).length:Int):=by omega
 refine go ?_;refine VA (zBa h4 r ((zj T F).getD f.toNat 0)) ?_;rintro _ _ ⟨rfl,rfl⟩;have hR8:=B.hR;by_cases hr:0<=r/\r<(zj T F).getD f.toNat 0;case neg=>
  have hn:¬zE7 T F f r:=fun e=>hr e.2;rw[QS hr,QC (fun e=>hn e.2),QC (fun e=>e rfl),QC hn];refine gr ?_;exact⟨rfl,e04⟩
 have hi:zE7 T F f r:=⟨hf,hr⟩;rw[QT hr,QF ⟨rfl,hi⟩,QC (fun e=>e rfl),QF hi];have hx:=B.bR _ (zO (l:=zj T F) (i:=f.toNat) (by omega));have hsb:=yc (l:=(zj T F).take f.toNat) fun x hx=>B.bR x (Qi hx);have hlt:((zj T F).take f.toNat).length<=8:=QU (by rw[Qj];omega) hR8;obtain⟨k,rfl⟩:∃ k:Nat,f=k:=⟨f.toNat,by omega⟩;rw[QN]at *;refine go ?_;refine VA (zBS h4 _ (zj T F) k B.r (by omega) (by omega) B.bR) ?_;rintro _ _ ⟨rfl,rfl⟩;refine gr ?_;exact⟨rfl,e04⟩
theorem zLy(E:Bh h vt vf T F):WC Tryz.prog tb 16 [.agg #[vt,vf]] h fun r h'=>r=.tuple #[I (if zK T F=0 then Zl T F+(zM T F).sum else 0),I (if zK T F=0 then yh F+(zM T F).sum else 0),I (zK T F)]/\Ext h h':=by
 have hRl:(zj T F).length=F.length:=by unfold zj;simp
 refine en ?_;refine VF ?_;intro p h1 e1 o1;replace o1:Uz h h1 p [vt,vf]:=o1;refine go ?_;refine VA (zAL h1 vt vf T F (E.ext e1)) ?_;rintro _ h2 ⟨⟨vR,vF,vS,rfl,⟨r1,r2,r3,rfl⟩,⟨f1,f2,f3,rfl⟩,⟨s1,s2,s3,rfl⟩,oR,oF,sS⟩,e2⟩;refine go ?_;refine VK ?_;intro p5 h3 e3 o3;refine go ?_;refine VG (cs:=[.slice r1 r2 r3,.slice f1 f2 f3,.slice s1 s2 s3]) o3 e3 ?_;intro h4 e4 o4 _;have e04:=e1.trans (e2.trans e4);by_cases hs:zK T F=0;case neg=>
  have hs':zK T F≠0:=hs;rw[QC hs,QC hs];refine gr ?_;exact⟨rfl,e04⟩
 have B:=(zHp hs oR oF sS ⟨⟨_,_,_,rfl⟩,⟨_,_,_,rfl⟩,⟨_,_,_,rfl⟩⟩).ext e4;have sF:=B.f.sl;have hF1:=B.hF;have hR8:=B.hR;have hsb:=yc B.bF;have hsr:=yc B.bR;rw[QF hs,QF hs,hs];refine go ?_;refine VA (zBS h4 _ (zM T F) (zM T F).length B.f (QE _) (by omega) B.bF) ?_;rintro _ _ ⟨rfl,rfl⟩;rw[Qg];refine go ?_;refine VC 0 rfl rfl ?_;have o4X:=o4.ext (zH 0 h4);have o4Y:Uz h2 (inC (zC 0 h4)) p5 [.slice r1 r2 r3,.slice f1 f2 f3,.slice s1 s2 s3]:=o4X;have BX:=B.ext (zH 0 h4);have BY:TB h1 (inC (zC 0 h4)) (.slice r1 r2 r3) (.slice f1 f2 f3) (.slice s1 s2 s3) (zj T F) (zM T F) (zh T F):=⟨BX.r,BX.f,BX.s,B.hR,B.hF,B.bR,B.bF,B.sh⟩;refine WB ?_;refine VA (zF3 BY (QE _)) ?_;rintro _ X5 ⟨rfl,e5⟩;refine nE e5 ?_;have o5Z:=o4Y.ext e5;have o5Y:Uz h2 (inC X5) p5 [.slice r1 r2 r3,.slice f1 f2 f3,.slice s1 s2 s3]:=o5Z;have B5:=BY.ext e5;have B5Y:TB h1 (inC X5) (.slice r1 r2 r3) (.slice f1 f2 f3) (.slice s1 s2 s3) (zj T F) (zM T F) (zh T F):=⟨B5.r,B5.f,B5.s,B.hR,B.hF,B.bR,B.bF,B.sh⟩;have e5':=(zH 0 h4).trans (zW (h:=h4) e5);unfold Zl yh;refine WB ?_;refine zHa o4 (QE _) ?_;refine WB ?_;refine VA (Yj B5Y) ?_;rintro _ X6 ⟨rfl,e6⟩;refine nE e6 ?_;rw[hRl];refine BA ?_;have e6':=e5'.trans (zW (h:=h4) e6);exact⟨rfl,e04.trans e6'⟩
end
end Go.Proofs.YtfnndahpddkniaaGreatDoor
set_option maxRecDepth 100000
namespace Go.Proofs.YtfnndahpddkniaaGreatDoor
open Go.Am
def Zo:List Int->Int->Int×Int
 |[],k=>(0,k)
 |x::l,k=>if x<=k then((Zo l (k-x)).1+1,(Zo l (k-x)).2)else(0,k)
section
variable {h:Uy}{vt vf:Value}{T:List U0}{F:List WJ}
noncomputable def ofR(T:List U0)(F:List WJ)(n:Int):Int×Int×Int×Int:=
 if zK T F≠0 then(0,0,0,zK T F)else if ¬(0<=n/\n<yh F+(zM T F).sum)then(0,0,0,2)else if n=0 then(0,0,0,0)else if n<yh F then(1,n-1,0,0)else(2,(Zo (zM T F) (n-yh F)).1,(Zo (zM T F) (n-yh F)).2,0)
theorem zO9(E:Bh h vt vf T F)(n:Int):WC Tryz.prog tb 26 [.agg #[vt,vf],I n] h fun r h'=>r=.tuple #[.int .u8 (ofR T F n).1,I (ofR T F n).2.1,I (ofR T F n).2.2.1,I (ofR T F n).2.2.2]/\Ext h h':=by
 unfold ofR;have hRl:(zj T F).length=F.length:=by unfold zj;simp
 refine en ?_;refine VF ?_;intro p h1 e1 o1;replace o1:Uz h h1 p [vt,vf]:=o1;refine go ?_;refine VA (zAL h1 vt vf T F (E.ext e1)) ?_;rintro _ h2 ⟨⟨vR,vF,vS,rfl,⟨r1,r2,r3,rfl⟩,⟨f1,f2,f3,rfl⟩,⟨s1,s2,s3,rfl⟩,oR,oF,sS⟩,e2⟩;refine go ?_;refine VK ?_;intro p8 h3 e3 o3;refine go ?_;refine VG (cs:=[.slice r1 r2 r3,.slice f1 f2 f3,.slice s1 s2 s3]) o3 e3 ?_;intro h4 e4 o4 _;have e04:=e1.trans (e2.trans e4);by_cases hs:zK T F=0;case neg=>
  have hs':zK T F≠0:=hs;rw[QC hs]at oF;have oF4:=oF.ext e4;have sF4:=oF4.sl;rw[QF hs];refine go ?_;refine VA (zBS h4 _ [] ([]:List Int).length oF4 (QE _) (by simp) (fun x hx=>by cases hx)) ?_;rintro _ _ ⟨rfl,rfl⟩;refine gr ?_;exact⟨rfl,e04⟩
 have B:=(zHp hs oR oF sS ⟨⟨_,_,_,rfl⟩,⟨_,_,_,rfl⟩,⟨_,_,_,rfl⟩⟩).ext e4;have sF:=B.f.sl;have hF1:=B.hF;have hR8:=B.hR;have hsb:=yc B.bF;have hbF:=WA.mk B.bF;rw[QC (fun e=>e hs),hs];refine go ?_;refine VA (zBS h4 _ (zM T F) (zM T F).length B.f (QE _) (by omega) B.bF) ?_;rintro _ _ ⟨rfl,rfl⟩;rw[Qg];refine go ?_;refine VA (Yj B) ?_;rintro _ h5 ⟨rfl,e5⟩;rw[hRl];have o5:=o4.ext e5;have B5:=B.ext e5;have e05:=e04.trans e5;refine go ?_;refine VA (zBa h5 n (1+F.length+(zM T F).sum)) ?_;rintro _ _ ⟨rfl,rfl⟩;by_cases hn:0<=n/\n<1+F.length+(zM T F).sum;case neg=>
  rw[QS hn,QF (by unfold yh;exact hn)];refine gr ?_;exact⟨rfl,e05⟩
 rw[QT hn,QC (by unfold yh;exact fun q=>q hn)];by_cases h0:n=0
 ·rw[QF h0];refine gr ?_;exact⟨rfl,e05⟩
 rw[QC h0];refine go ?_;refine VA (Yj B5) ?_;rintro _ h6 ⟨rfl,e6⟩;rw[hRl];have o6:=o5.ext e6;have B6:=B5.ext e6;have e06:=e05.trans e6;by_cases h1:n<yh F
 ·rw[QF h1];unfold yh at h1;refine gr ?_;exact⟨rfl,e06⟩
 rw[QC h1];unfold yh at h1 |-;refine go ?_;refine VA (Yj B6) ?_;rintro _ h7 ⟨rfl,e7⟩;rw[hRl];have o7:=o6.ext e7;have B7:=B6.ext e7;have e07:=e06.trans e7;obtain⟨k,hk⟩:∃ k:Int,k=n-(1+F.length):=⟨_,rfl⟩;have hk0:0<=k/\k<(zM T F).sum:=by omega
 rw[<-hk];generalize zM T F=L at *;have sF7:=B7.f.sl;refine go ?_;rw[<-hk];refine VD (fun i=>L.length-i) (fun i t h8=>h7=h8/\zB t 5=I i/\i<L.length/\zB t 6=I (k-(L.take i).sum)/\0<=k-(L.take i).sum/\Zo L k=((Zo (L.drop i) (k-(L.take i).sum)).1+i,(Zo (L.drop i) (k-(L.take i).sum)).2)) 0 ?_ ?_
 ·have hl:0<L.length:=by
   cases L with
   |nil=>simp at hk0;omega
   |cons _ _=>simp
  refine⟨rfl,U4,hl,?_,by simp;omega,by simp⟩;rw[Q4,List.sum_nil,Int.sub_zero];exact U4
 rintro i t h8 hsame ⟨rfl,s5,hi,s6,hp,hq⟩;have hxi:=hbF.out _ (zO hi);have hsum:(L.take (i+1)).sum=(L.take i).sum+L.getD i 0:=by
  rw[Qv,QB hi,Gu];simp[List.getD,QB hi]
 have hdr:L.drop i=L.getD i 0::L.drop (i+1):=by
  rw[GL hi];simp[List.getD,QB hi]
 have htb:=yc (l:=L.take i) fun x hx=>hbF.out x (Qi hx);refine go ?_;refine VE (fun hc=> ?_) (fun hc=> ?_)<;>simp only[DB]at hc
 ·have hi1:i+1<L.length:=by
   refine GN fun q=> ?_;have e:L.take (i+1)=L:=Qy (by omega);rw[e]at hsum;omega
  refine go ?_;refine zA (i+1) (by omega) ⟨rfl,Wd,hi1,?_,by omega,?_⟩
  ·rw[hsum,<-Int.sub_sub];exact U4
  ·rw[hq,hdr,hsum,<-Int.sub_sub];conv=>lhs;rw[Zo,QF (by omega)]
   simp only;congr 1;omega
 ·refine gr ?_;rw[hq,hdr,Zo,QC (by omega)];exact⟨by simp;rfl,e07⟩
end
end Go.Proofs.YtfnndahpddkniaaGreatDoor
set_option maxRecDepth 100000
namespace Go.Proofs.YtfnndahpddkniaaGreatDoor
open Go.Am
end Go.Proofs.YtfnndahpddkniaaGreatDoor
set_option maxRecDepth 100000
namespace Go.Proofs.YtfnndahpddkniaaGreatDoor
open Go.Am
end Go.Proofs.YtfnndahpddkniaaGreatDoor
set_option maxRecDepth 100000
namespace Go.Proofs.YtfnndahpddkniaaGreatDoor
open Go.Am
theorem zGB(h:Uy):outC h (inC (zC 0 h))=h:=rfl
end Go.Proofs.YtfnndahpddkniaaGreatDoor
set_option maxRecDepth 100000
namespace Go.Proofs.YtfnndahpddkniaaGreatDoor
open Go.Am
theorem zGA(vt:Value)(T:List U0)(hT:(T.length:Int)<=1000):∀ (n k:Nat) (h:Uy),k<n->Wn h vt T->k<T.length->zDc T k->ZI T k->
  WC Tryz.prog tb 71 [vt,I k] h fun r h'=>U5 h h' r (yp T k)/\Ext h h':=by
 intro n;induction n with
 |zero=>intro k h hk;omega
 |succ n ih=>
  intro k h hkn st hk hlow hM;have hall:∀ j,j<=k->ZI T j:=fun j hj=>by
   by_cases e:j=k
   ·subst e;exact hM
   ·exact(hlow j (by omega)).1
  have hof:=zBI hall;have h4':=zJL hM;have h5':=zIy hM;have h32:∀ q,q<k->(yp T q).length<=32:=fun q hq=>QU (zC2 (q+1) q (GR _) fun j hj=>hall j (by omega)) (hlow q hq).2;obtain⟨cs,⟨va,rfl,sa,hla⟩,pc,hs⟩:=yO (i:=k) st hk;rw[hof];clear hof;generalize T.getD k default=x at *;obtain⟨_,_,_,rfl⟩:=WW.shape sa;refine en ?_;refine VK ?_;intro p h1 e1 o1;refine go ?_;refine VG o1 e1 ?_;intro h2 e2 o2 _;have st2:=st.ext e2;have sa2:=sa.ext e2;by_cases h5:x.kind=5
  ·have hp:=h5' h5;obtain⟨q,hq⟩:∃ q:Nat,x.elem=q:=⟨x.elem.toNat,by omega⟩;have hqk:q<k:=by omega
   rw[QC (by omega),QF h5,hq,QN];refine go ?_;rw[hq];refine VA (ih q h2 (by omega) st2 (by omega) (fun j hj=>hlow j (by omega)) (hlow q hqk).1) ?_;rintro r h3 ⟨or,e3⟩;refine gr ?_;refine⟨?_,e2.trans e3⟩;rcases or with o|o
   ·exact .inl o
   ·exact .inr (o.since e2)
  by_cases h4:x.kind=4
  ·have hp:=h4' h4;rw[QF h4];have hbd:∀ p∈x.parts,(yp T p.toNat).length<=32:=fun p hpp=>by
    have:=hp.2 p hpp;exact h32 p.toNat (by omega)
   replace hM:=WA.mk hM;replace hall:=WA.mk hall;replace h32:=WA.mk h32;replace hlow:=WA.mk hlow;have hp8:=hp.1;replace hp:=WA.mk hp;replace hbd:=WA.mk hbd;refine go ?_;refine VD (fun i=>x.parts.length-i) (fun i t h3=>zB t 7=I i/\i<=x.parts.length/\Ext h2 h3/\∃ w,zB t 6=w/\U5 h2 h3 w (((x.parts.take i).map fun p=>yp T p.toNat).flatten)) 0 ?_ ?_
   ·exact⟨U4,QL _,Ext.refl _,.slice none 0 0,U4,.inl ⟨rfl,by simp⟩⟩
   rintro i t h3 hsame ⟨s7,hi,e23,w,s6,ow⟩;have st3:=st2.ext e23;have sa3:=sa2.ext e23;have o3:=o2.ext e23;refine go ?_;refine VE (fun hc=> ?_) (fun hc=> ?_)<;>simp only[DB]at hc
   ·have hi':i<x.parts.length:=by omega
    have hpi:=hp.out.2 _ (zO hi');have hsucc:=zC8 (f:=fun p=>yp T p.toNat) hi';have hln:=zBH (l:=x.parts.take i) (f:=fun p=>yp T p.toNat) fun q hq=>hbd.out q (Qi hq);have hl1:=hbd.out _ (zO hi');have htk:(x.parts.take i).length<=i:=List.length_take_le _ _;obtain⟨q,hq⟩:∃ q:Nat,x.parts.getD i 0=q:=⟨(x.parts.getD i 0).toNat,by omega⟩;have hqk:q<k:=by omega
    refine go ?_;rw[hq];refine VA (ih q h3 (by omega) st3 (by omega) (fun j hj=>hlow.out j (by omega)) (hlow.out q hqk).1) ?_;rintro r h4 ⟨or,e4⟩;refine go ?_;have hdef:x.parts.getD i default=(q:Int):=hq;rw[hdef]at hsucc;simp only[QN]at hsucc;have hl2:(yp T q).length<=32:=by rw[hq]at hl1;exact hl1
    refine VO (ow.ext e4) or.sl (e23.trans e4) (by omega) ?_;intro v5 h5 e5 o5;refine go ?_;exact zA (i+1) (by omega) ⟨Wd,by omega,e5,v5,U4,by rw[hsucc];exact o5⟩
   ·have hii:i=x.parts.length:=by omega
    subst hii;rw[Qg]at ow;refine gr ?_;exact⟨ow.since e2,e2.trans e23⟩
  ·rw[QC h4,QC h5];refine go ?_;refine WO.bl [(k:Int)] ?_;intro v h3 e3 o3;refine gr ?_;exact⟨.inr (o3.since e2),e2.trans e3⟩
end Go.Proofs.YtfnndahpddkniaaGreatDoor
set_option maxRecDepth 100000
namespace Go.Proofs.YtfnndahpddkniaaGreatDoor
open Go.Am
end Go.Proofs.YtfnndahpddkniaaGreatDoor
set_option maxRecDepth 100000
namespace Go.Am
theorem UE{P:Program}{tab:Wl}{t:U3 Value}{ds:List Deferred}{rd:Option Nat}{l:List (U1×List Nat)}{Q:WF->Uy->Prop}{α:Type}{c b d1 d2 m N0:Nat}{cl:Bool}{R:Uy->List Value->α->Prop}{hB hS X:Uy}{v w:Value}{xs:List α}{cs zero:List Value}(a:α)(Dn:Nat->Prop){x y:Operand}
  (eX:Ext (Am.inC (zC 1 hS)) X) (o:OwnR c R b hS v xs) (e0:Ext hB hS) (hm:hS.mark<=hB.n) (hb:hB.n<=b) (hbn:b<=hS.n) (hc0:0<c) (hl:xs.length<=100000)
  (d:Be R X cs a Dn) (hD:∀ k,Dn k->b<=k/\k<X.n) (hv:∀ g n k,v=.slice (some ⟨g,0,none⟩) n k->¬Dn g) (hDs:¬Dn hS.n)
  (k:∀ Y v' lit,Ext hB (outC hS Y)->OwnR c R b (outC hS Y) v' (xs++[a])->WM P tab m N0 l (hS.n+1) false ⟨(t.set d1 lit).set d2 v',ds,rd⟩ (Am.inC Y) Q)
  (hx:U8 t x w:=by exact zu) (hw:w.cells=cs.toArray:=by rfl) (hc:cs.length=c:=by rfl) (h1:zQ cs=true:=by rfl) (hz:zero.length=c:=by rfl) (hy:∀ u,U8 (t.set d1 u) y v:=by intro u;exact zu) (hm0:m=hS.mark:=by rfl) (hne:l≠[]:=by exact List.cons_ne_nil _ _):
  WM P tab m N0 ((⟨some d1,none,.buildSlice 1 c zero [(0,c,x)]⟩,[])::(⟨some d2,none,.append c y (.tmp d1)⟩,[])::l) hS.n cl ⟨t,ds,rd⟩ (Am.inC X) Q:=by
 subst hm0;have hx:ev t x=w:=hx;have hnX:hS.n+1<=X.n:=eX.n;have hn0:=e0.n;rw[WM,QF (show Nat.beq (zI (Wk.buildSlice 1 c zero [(0,c,x)])) 3=true from rfl)];refine⟨rfl,.inl ⟨rfl,by omega,.row cs true 0,_,by simp only[ye,zz,Q1,Ge,hx,zAQ hw hc hz,QH];rfl,?_⟩⟩;generalize hH1:(Am.inC (Am.inC X)).lay hS.n (.row cs true 0)=H1;have n1:H1.n=X.n:=by rw[<-hH1];rfl
 have get1:∀ c',H1.get c'=if c'=hS.n then some (.row cs true 0)else X.get c':=fun c'=>by rw[<-hH1];exact zS _ _ _ _
 have getX:∀ k,k<hS.n->X.get k=hS.get k:=fun k hk=>eX.get k (by show k<hS.n+1;omega);have oX1:OwnR c R b (Am.inC H1) v xs:=o.upd (fun k _ hk=>by show H1.get k=_;rw[get1,QC (by omega),getX k hk]) (by show hS.n<=H1.n;omega);have d1':Be R (Am.inC H1) cs a Dn:=d.mono (fun _ h=>h) (fun k o hd e=>by
  show H1.get k=_;rw[get1,QC (fun e2:k=hS.n=>by subst e2;exact hDs hd)];exact e) (by show X.n<=H1.n;omega)
 obtain⟨v',H2,q1,q2,q3,q4,q5,q6,q7,q8,n',k',g',q9,q10⟩:=Yv (H:=Am.inC H1) (gl:=hS.n) oX1 hc hc0 h1 hl (by show b<=H1.n;omega) d1' (fun k hd=>⟨(hD k hd).1,by have:=(hD k hd).2;show k<H1.n;omega⟩) hv (QE _) (by show hS.n<H1.n;omega) (fun _ _=>rfl) (by show H1.get hS.n=_;rw[get1,QF rfl]);rw[WM,QC (show ¬Nat.beq (zI (Wk.append c y (.tmp d1))) 3=true from Bool.noConfusion)];have hyv:ev (t.set d1 (.slice (some ⟨hS.n,0,none⟩) 1 c)) y=v:=hy _;have e1:ev (t.set d1 (.slice (some ⟨hS.n,0,none⟩) 1 c)) (.tmp d1)=.slice (some ⟨hS.n,0,none⟩) 1 c:=by simp only[ev,ze,Q2]
 refine WO.op v' H2 rfl (by simp only[U6,hyv,e1,q1]) ?_;have h2n:H2.n=X.n+1:=by rw[q3];show H1.n+1=_;omega
 refine WO.nil ⟨⟨fun c' hc'=> ?_,by show H1.n<=H2.n;omega,.inl rfl⟩,?_⟩
 ·rcases q6 c' hc' with h|h
  ·cases h
  ·omega
 have hvB:∀ k,k<hB.n->∀ n k',v≠ .slice (some ⟨k,0,none⟩) n k':=fun k hk n k' e=>by
  rcases o with⟨e2,_⟩|⟨g,_,_,g1,_,e2,_⟩
  ·rw[e2]at e;cases e
  ·rw[e2]at e;cases e;omega
 have fin:=k H2 v' (.slice (some ⟨hS.n,0,none⟩) 1 c) ⟨by show hB.n<=H2.n;omega,fun k hk=>by
   show H2.get k=_;rw[q4 k (by show k<H1.n;omega) (hvB k hk)];show H1.get k=_;rw[get1,QC (by omega),getX k (by omega)];exact e0.get k hk,fun w k hk=>by
   have hk:H2.n<=k:=hk;refine q8 (fun k2 hk2=> ?_) k (by omega);have hk2:H1.n<=k2:=hk2;show H1.get k2=_;rw[get1,QC (by omega)];exact eX.wf (fun k3 hk3=>e0.wf w k3 (by have:hS.n+1<=k3:=hk3;omega)) k2 (by omega),e0.mark,fun hmk=>e0.wr hmk⟩ q2
 cases l with
 |nil=>exact absurd rfl hne
 |cons z l=>
  obtain⟨z1,z2⟩:=z;simp only[WM,Qf]at fin |-;exact fin
end Go.Am
namespace Go.Proofs.YtfnndahpddkniaaGreatDoor
open Go.Am
theorem En.as{h:Uy}{vt vf:Value}{T:List U0}{F:List WJ}(n:Nat)(E:En h vt vf T F):En (Am.inC (zC n h)) vt vf T F:=by
 have E':=E.ext (zH n h);exact⟨E'.tt,QE _,E'.sm,E'.si,E'.st,E'.sf⟩
theorem zLS(h:Uy)(vt vf:Value)(T:List U0)(F:List WJ)(E:En h vt vf T F)(hsig:∀ g∈F,0<=g.sig/\g.sig<(T.length:Int))(hmy:∀ g∈F,zN g.blocks<=128)(hF:F.length<=8)
  (hty:∀ g∈F,∀ B∈g.blocks,∀ x∈B.ins,ZV x=true->0<=x.ty/\x.ty<(T.length:Int)):
  WC Tryz.prog tb 40 [.agg #[vt,vf]] h fun r h'=>OwnR 3 RSt h.n h' r (zh T F)/\Ext h h':=by
 have hslen:∀ i,(ZC T 0 (F.take i)).length<=1024:=fun i=>by
  have:=zAq (T:=T) (l:=F.take i) (f:=0) fun g hg=>hmy g (Qi hg);have h2:(F.take i).length<=F.length:=by rw[Qj];omega
  omega
 have sm:=E.sm;have hF':=sm.funcs;replace hslen:=WA.mk hslen;replace hsig:=WA.mk hsig;replace hmy:=WA.mk hmy;replace hty:=WA.mk hty;have st0:=E.st;have sf0:=E.sf;obtain⟨t1,t2,t3,rfl⟩:=zD st0;obtain⟨f1,f2,f3,rfl⟩:=zD sf0;refine en ?_;refine VF ?_;intro p h1 e1 o1;replace o1:Uz h h1 p [.slice t1 t2 t3,.slice f1 f2 f3]:=o1;have E1:=E.ext e1;have sf1:=E1.sf;have hm1:=E1.hm;refine go ?_;refine VD (fun i=>F.length-i) (fun i t h2=>zB t 4=I i/\i<=F.length/\Ext h1 h2/\∃ v,zB t 3=v/\OwnR 3 RSt h1.n h2 v (ZC T 0 (F.take i))) 0 ?_ ?_
 ·exact⟨U4,QL _,Ext.refl _,.slice none 0 0,U4,.inl ⟨rfl,rfl⟩⟩
 rintro i t h2 hsame ⟨s4,hi,e2,v,s3,ov⟩;have o2:=o1.ext e2;have E2:=E1.ext e2;have sf2:=E2.sf;refine go ?_;refine VE (fun hb=> ?_) (fun hb=> ?_)<;>simp only[DB]at hb
 ·have hi':i<F.length:=by omega
  have hgm:=zG (l:=F) (i:=i) hi';obtain⟨cs,⟨vb,rfl,sb,hlb⟩,px,hs⟩:=zd (i:=i) sf1 hi';have hsg:=hsig.out _ hgm;have hbl:=sm.blocks _ hgm;have hpl:=sm.parts _ (zG (l:=T) (i:=(F.getD i default).sig.toNat) (by omega));have hsn:ZC T 0 (F.take (i+1))=ZC T 0 (F.take i)++yu T i ((T.getD (F.getD i default).sig.toNat default).parts.length:Int) (F.getD i default).blocks:=by
   rw[YM hi',zAz,Qj,Gd (by omega),Int.zero_add]
  have hinl:=sm.ins _ hgm;have htyg:=hty.out _ hgm;have hmyg:=hmy.out _ hgm;replace hinl:=WA.mk hinl;replace htyg:=WA.mk htyg;generalize hg:F.getD i default=g at *;replace hg:=WA.mk hg;obtain⟨b1,b2,b3,rfl⟩:=zD sb;refine go ?_;refine VD (fun j=>g.blocks.length-j) (fun j t h5=>zB t 5=I j/\j<=g.blocks.length/\Ext h1 h5/\∃ v,zB t 3=v/\OwnR 3 RSt h1.n h5 v (ZC T 0 (F.take i)++yu T i ((T.getD g.sig.toNat default).parts.length:Int) (g.blocks.take j))) 0 ?_ ?_
  ·exact⟨U4,QL _,e2,v,U4,by simpa [yu]using ov⟩
  rintro j t' h5 hsame' ⟨s5,hj,e5,v',s3',ov'⟩;have o5:=o1.ext e5;have pc:=(px _ e5).1;have sf5:=Wa.ext sf1 e5;have sb5:=We.ext sb e5;refine go ?_;refine VE (fun hb'=> ?_) (fun hb'=> ?_)<;>simp only[DB]at hb'
  ·have hj':j<g.blocks.length:=by omega
   have hBm:=zG (l:=g.blocks) (i:=j) hj';obtain⟨csB,⟨vi,rfl,si,hli⟩,pxB,hsB⟩:=zd (i:=j) sb hj';have pcB:=(pxB _ e5).1;have hil:=hinl.out _ hBm;have hsnB:yu T i ((T.getD g.sig.toNat default).parts.length:Int) (g.blocks.take (j+1))=yu T i ((T.getD g.sig.toNat default).parts.length:Int) (g.blocks.take j)++ZJ T i ((T.getD g.sig.toNat default).parts.length+zN (g.blocks.take j)) (g.blocks.getD j default).ins:=by
    rw[YM hj',zBJ]
   have hm0:0<=zN (g.blocks.take j)/\zN (g.blocks.take j)<=128:=by
    have:=zFJ g.blocks j;omega
   have hsB:=zAd (T:=T) (f:=(i:Int)) (l:=g.blocks.take j) (n:=((T.getD g.sig.toNat default).parts.length:Int));have htyB:=htyg.out _ hBm;replace htyB:=WA.mk htyB;generalize g.blocks.getD j default=B at *;obtain⟨i1,i2,i3,rfl⟩:=zD si;refine go ?_;refine VD (fun q=>B.ins.length-q) (fun q t h8=>zB t 7=I q/\q<=B.ins.length/\Ext h1 h8/\∃ v,zB t 3=v/\OwnR 3 RSt h1.n h8 v (ZC T 0 (F.take i)++yu T i ((T.getD g.sig.toNat default).parts.length:Int) (g.blocks.take j)++ZJ T i ((T.getD g.sig.toNat default).parts.length+zN (g.blocks.take j)) (B.ins.take q))) 0 ?_ ?_
   ·exact⟨U4,QL _,e5,v',U4,by simpa [ZJ]using ov'⟩
   rintro q t'' h8 hsame'' ⟨s7,hq,e8,v'',s3'',ov''⟩;have o8:=o1.ext e8;have si8:=W2.ext si e8;refine go ?_;refine VE (fun hb''=> ?_) (fun hb''=> ?_)<;>simp only[DB]at hb''
   ·have hq':q<B.ins.length:=by omega
    have hxm:=zG (l:=B.ins) (i:=q) hq';obtain⟨csX,⟨xa,xf,rfl,sxa,sxf,hxa,hxf,ho⟩,pxX,hsX⟩:=zd (i:=q) si hq';have pcX:=(pxX _ e8).1;have hsnI:∀ n:Int,ZJ T i n (B.ins.take (q+1))=ZJ T i n (B.ins.take q)++(if ZV (B.ins.getD q default)then[⟨i,n+q,(T.getD (B.ins.getD q default).ty.toNat default).elem⟩]else[]):=fun n=>by
     rw[YM hq',zBK,Qj,Gd (by omega)]
    have htyx:=htyB.out _ hxm;have hmk:ZV (B.ins.getD q default)=(decide ((B.ins.getD q default).op=11)||decide ((B.ins.getD q default).op=12)):=rfl;generalize B.ins.getD q default=x at *;by_cases hor:x.op=11\/x.op=12
    ·have hmk1:ZV x=true:=by rw[hmk];simpa using hor
     have hx:=htyx hmk1;have st8:=(E1.ext e8).st;obtain⟨csT,⟨ya,rfl,sya,hya⟩,pxT,hsT⟩:=zd (i:=x.ty.toNat) st8 (by omega);obtain⟨bT,nT,kT,eT,lT⟩:=YO st8 (i:=x.ty.toNat) (by omega);obtain⟨bI,nI,kI,eI,lI⟩:=YO si8 hq';have E8:=E1.ext e8;have EY:=E8.as 1;have o8Y:Uz h (inC (zC 1 h8)) p [.slice t1 t2 t3,.slice f1 f2 f3]:=VI (o8.ext (zH 1 h8));have hsI:=zAb (T:=T) (f:=(i:Int)) (l:=B.ins.take q) (n:=(T.getD g.sig.toNat default).parts.length+zN (g.blocks.take j));have hlq:(B.ins.take q).length<=q:=List.length_take_le _ _;have hsi:=hslen.out i;have hm8:h8.mark<=h1.n:=by rw[e8.mark];exact hm1
     rcases hor with h11|h12;all_goals
      refine go ?_
      refine VC 1 rfl rfl ?_
      refine WB ?_
      refine VA (zD4 _ _ _ T F i q j EY (by omega) (by rw[QN,hg.out];exact hsg) (by rw[QN,hg.out];exact hj') (by omega)) ?_
      rintro r X ⟨hr,eX⟩
      rw[QN,hg.out]at hr
      subst hr
      refine nE eX ?_
      have e8X:Ext h8 (outC h8 X):=(zH 1 h8).trans (zW (h:=h8) eX)
      have o8X:Uz h (inC X) p [.slice t1 t2 t3,.slice f1 f2 f3]:=Uz.ext (h':=X) o8Y eX
      have siX:W2 (inC X) (.slice i1 i2 i3) B.ins:=W2.ext (h':=outC h8 X) si8 e8X
      have stX:Wn (inC X) (.slice t1 t2 t3) T:=Wn.ext (h':=outC h8 X) st8 e8X
      have pcIX:Wc (inC X) (.slice i1 i2 i3) (q*7) _:=(pxX _ (e8.trans e8X)).2
      have pcTX:Wc (inC X) (.slice t1 t2 t3) (x.ty.toNat*4) _:=(pxT _ e8X).2
      refine WB ?_
      refine zA0 (j:=0) o8 (GU _) ?_
      refine WB ?_
      refine zJw (v:= .slice i1 i2 i3) (j:=q*7+1) ⟨bI,nI,kI,eI,Nat.lt_succ_of_lt lI⟩ ?_
      refine WB ?_
      refine zJw (v:= .slice t1 t2 t3) (j:=x.ty.toNat*4+1) ⟨bT,nT,kT,eT,Nat.lt_succ_of_lt lT⟩ ?_
      refine WB ?_
      refine UE (hB:=h1) (b:=h1.n) (⟨i,(T.getD g.sig.toNat default).parts.length+zN (g.blocks.take j)+q,(T.getD x.ty.toNat default).elem⟩:Wp) (fun _=>False) eX ov'' e8 hm8 (QE _) e8.n (by decide) (by simp only[QR];omega) (fun _ _ _=>rfl) (fun _ h=>h.elim) (fun _ _ _ _ h=>h) (fun h=>h) ?_
      intro Y v12 lit e12 o12
      refine WB ?_
      exact zA (q+1) (by omega) ⟨Wd,by omega,e12,v12,U4,by rw[hsnI,hmk1,QF rfl,<-Qm];exact o12⟩
    ·have hmk0:ZV x=false:=by rw[hmk];simpa using hor
     have h11:¬x.op=11:=fun e=>hor (.inl e);have h12:¬x.op=12:=fun e=>hor (.inr e);refine go ?_;refine zA (q+1) (by omega) ⟨Wd,by omega,e8,v'',U4,?_⟩;rw[hsnI,hmk0];simpa using ov''
   ·have hqq:q=B.ins.length:=by omega
    subst hqq;rw[Qg]at ov'';refine go ?_;refine zA (j+1) (by omega) ⟨Wd,by omega,e8,v'',U4,?_⟩;rw[hsnB,<-Qm];exact ov''
  ·have hjj:j=g.blocks.length:=by omega
   subst hjj;rw[Qg]at ov';refine go ?_;refine zA (i+1) (by omega) ⟨Wd,by omega,e5,v',U4,?_⟩;rw[hsn];exact ov'
 ·have hii:i=F.length:=by omega
  subst hii;rw[Qg]at ov;refine gr ?_;exact⟨ov.base e1.n,e1.trans e2⟩
end Go.Proofs.YtfnndahpddkniaaGreatDoor
set_option maxRecDepth 100000
namespace Go.Proofs.YtfnndahpddkniaaGreatDoor
open Go.Am
section
variable {h:Uy}{vt vf:Value}{T:List U0}{F:List WJ}
theorem US{X:Uy}(E:En X vt vf T F):En (Am.inC X) vt vf T F:=⟨E.tt,QE _,E.sm,E.si,E.st,E.sf⟩
theorem zGw(E:En h vt vf T F)(hs:zK T F=0):WC Tryz.prog tb 40 [.agg #[vt,vf]] h fun r h'=>OwnR 3 RSt h.n h' r (zh T F)/\Ext h h':=by
 obtain⟨hp,hw⟩:=yi hs;obtain⟨hc,hF1,hF8,hfn⟩:=yT hp;have hg:∀ g∈F,(0<=g.sig/\g.sig<(T.length:Int))/\zN g.blocks<=128:=fun g hg=>by
  obtain⟨i,hi,rfl⟩:=Zd hg;have Z:=zE4 hp (f:=(i:Int)) (by omega);have h1:=Z.sig;have h2:=Z.many;unfold zJ at h2;rw[QN]at h1 h2;exact⟨h1,h2⟩
 refine zLS h vt vf T F E (fun g q=>(hg g q).1) (fun g q=>(hg g q).2) hF8 fun g hg B hB x hx hm=> ?_;obtain⟨f,hf,rfl⟩:=Zd hg;obtain⟨b,hb,rfl⟩:=Zd hB;obtain⟨i,hi,rfl⟩:=Zd hx;have:=zGI hs hf hb hi hm;refine this.2.resolve_left fun e=> ?_;have h1:=this.1;unfold Wg at h1;rw[e]at h1;cases h1
theorem zGc(E:En h vt vf T F):WC Tryz.prog tb 50 [.agg #[vt,vf]] h fun r h'=>r=I (yh F)/\Ext h h':=by
 obtain⟨f1,f2,f3,rfl⟩:=zD E.sf;have hF:=E.sm.funcs;refine en ?_;refine VF ?_;intro p h1 e1 o1;replace o1:Uz h h1 p [vt,.slice f1 f2 f3]:=o1;have sf1:=(E.ext e1).sf;refine gr ?_;exact⟨rfl,e1⟩
theorem zD6(E:En h vt vf T F)(hs:zK T F=0){vS:Value}(sS:SlS h vS (zh T F))(n:Nat)(hn:n<=(zh T F).length):WC Tryz.prog tb 48 [.agg #[vt,vf],vS,I n] h fun r h'=>r=I ((zM T F).take n).sum/\Ext h h':=by
 have hcc:=(yT (yi hs).1).1;have hl:=zC1 hcc;have hsty:=zBU hs;have hsl:=zAo hs;have hT:=E.sm.types;have hfb:∀ y∈zM T F,0<=y/\y<=1000:=fun y hy=>by
  unfold zM at hy;obtain⟨s,hs,rfl⟩:=Q6.1 hy;have:=hsty s hs;have h1:=zC2 (T:=T) (s.ty.toNat+1) s.ty.toNat (GR _) fun j hj=>(hl j (by omega)).1;have h2:=(hl s.ty.toNat (by omega)).2;omega
 have hfl:(zM T F).length=(zh T F).length:=by unfold zM;simp
 obtain⟨t1,t2,t3,rfl⟩:=zD E.st;obtain⟨s1,s2,s3,rfl⟩:=zD sS;replace hl:=WA.mk hl;replace hsty:=WA.mk hsty;replace hfb:=WA.mk hfb;refine en ?_;refine VF ?_;intro p h1 e1 o1;replace o1:Uz h h1 p [.slice t1 t2 t3,vf]:=o1;have sS1:=SlS.ext sS e1;refine go ?_;refine VD (fun i=>n-i) (fun i t h2=>zB t 8=I i/\i<=n/\Ext h1 h2/\zB t 7=I ((zM T F).take i).sum) 0 ?_ ?_
 ·exact⟨U4,QL _,Ext.refl _,U4⟩
 rintro i t h2 hsame ⟨s8,hi,e2,s7⟩;have hsb:=yc (l:=(zM T F).take i) fun y hy=>hfb.out y (Qi hy);have hli:((zM T F).take i).length<=i:=List.length_take_le _ _;refine go ?_;refine VE (fun hc=> ?_) (fun hc=> ?_)<;>simp only[DB]at hc
 ·have hi':i<n:=by omega
  have hx:=hfb.out _ (zO (l:=zM T F) (i:=i) (by omega));have hsum:((zM T F).take (i+1)).sum=((zM T F).take i).sum+(zM T F).getD i 0:=by
   rw[Qv,QB (by omega),Gu];simp[List.getD,QB (show i<(zM T F).length by omega)]
  have hty:=hsty.out _ (zG (l:=zh T F) (i:=i) (by omega));have hfi:(zM T F).getD i 0=((yp T ((zh T F).getD i default).ty.toNat).length:Int):=by
   unfold zM;rw[Yh (a:=default) (by omega)]
  have e12:=e1.trans e2;have o2:=o1.ext e2;refine go ?_;refine VC 0 rfl rfl ?_;have o2Y:Uz h (inC (zC 0 h2)) p [.slice t1 t2 t3,vf]:=o2;have stY:Wn (inC (zC 0 h2)) (.slice t1 t2 t3) T:=(E.ext e12).st;have sSY:SlS (inC (zC 0 h2)) (.slice s1 s2 s3) (zh T F):=SlS.ext (h':=h2) sS e12;obtain⟨csS,hRS,pcS,hsS⟩:=zi (i:=i) sSY (by omega);generalize(zh T F).getD i default=x at *;have hRS:csS=[I x.fn,I x.nr,I x.ty]:=hRS;subst hRS;obtain⟨k,hk⟩:∃ k:Nat,x.ty=k:=⟨x.ty.toNat,by omega⟩;rw[hk]at hty pcS;rw[hk,QN]at hfi;refine WB ?_;refine VA (zGA _ T (by omega) (k+1) k _ (by omega) stY (by omega) (fun j hj=>hl.out j (by omega)) (hl.out k (by omega)).1) ?_;rintro r X ⟨or,eX⟩;refine nE eX ?_;have sr:WH (inC X) r (yp T k):=or.sl;obtain⟨r1,r2,r3,rfl⟩:=WW.shape sr;have eq2:=(zH 0 h2).trans (zW (h:=h2) eX);refine WB ?_;refine zA (i+1) (by omega) ⟨Wd,by omega,e2.trans eq2,?_⟩;rw[hsum,hfi];exact U4
 ·have hii:i=n:=by omega
  subst hii;refine gr ?_;exact⟨rfl,e1.trans e2⟩
end
end Go.Proofs.YtfnndahpddkniaaGreatDoor
set_option maxRecDepth 100000
namespace Go.Proofs.YtfnndahpddkniaaGreatDoor
open Go.Am
theorem zAf{T:List U0}{F:List WJ}(hs:zK T F=0):(zj T F).length=F.length/\F.length<=8/\(∀ x∈zj T F,0<=x/\x<=1000)/\∀ i,i<F.length->(0<=(F.getD i default).sig/\(F.getD i default).sig<(T.length:Int))/\(zj T F).getD i 0=((T.getD (F.getD i default).sig.toNat default).parts.length:Int)+zN (F.getD i default).blocks:=by
 have hp:=(yi hs).1;obtain⟨hc,hF1,hF8,hfn⟩:=yT hp;refine⟨by unfold zj;simp,by simpa using hF8,fun x hx=> ?_,fun i hi=>⟨?_,?_⟩⟩
 ·unfold zj at hx;obtain⟨g,hg,rfl⟩:=Q6.1 hx;obtain⟨i,hi,rfl⟩:=Zd hg;have Z:=zE4 hp (f:=(i:Int)) (by omega);have h1:=Z.many;have h2:=Z.par4;have h3:=zCZ (F.getD i default).blocks;unfold zJ at h1;unfold yF at h2;rw[QN]at h1 h2;omega
 ·have Z:=zE4 hp (f:=(i:Int)) (by omega);have h1:=Z.sig;rw[QN]at h1;exact h1
 ·unfold zj;rw[Yh (a:=default) hi]
theorem zCa{T:List U0}{F:List WJ}(hs:zK T F=0):(zM T F).length=(zh T F).length/\(zh T F).length<=1024/\(∀ x∈zM T F,0<=x/\x<=1000)/\∀ i,i<(zh T F).length->(0<=((zh T F).getD i default).ty/\((zh T F).getD i default).ty<(T.length:Int))/\(zM T F).getD i 0=((yp T ((zh T F).getD i default).ty.toNat).length:Int):=by
 have hl:=zC1 (yT (yi hs).1).1;have hsty:=zBU hs;refine⟨by unfold zM;simp,zAo hs,fun y hy=> ?_,fun i hi=>⟨hsty _ (zG hi),?_⟩⟩
 ·unfold zM at hy;obtain⟨s,hs,rfl⟩:=Q6.1 hy;have:=hsty s hs;have h1:=zC2 (T:=T) (s.ty.toNat+1) s.ty.toNat (GR _) fun j hj=>(hl j (by omega)).1;have h2:=(hl s.ty.toNat (by omega)).2;omega
 ·unfold zM;rw[Yh (a:=default) hi]
section
variable {h:Uy}{vt vf:Value}{T:List U0}{F:List WJ}
theorem zD2(E:En h vt vf T F)(hs:zK T F=0)(n:Nat)(hn:n<=F.length):WC Tryz.prog tb 52 [.agg #[vt,vf],I n] h fun r h'=>r=I ((zj T F).take n).sum/\Ext h h':=by
 obtain⟨hRl,hF8,hb,hc⟩:=zAf hs;replace hb:=WA.mk hb;replace hc:=WA.mk hc;refine en ?_;refine VF ?_;intro p h1 e1 o1;replace o1:Uz h h1 p [vt,vf]:=o1;refine go ?_;refine VD (fun i=>n-i) (fun i t h2=>zB t 6=I i/\i<=n/\Ext h1 h2/\zB t 5=I ((zj T F).take i).sum) 0 ?_ ?_
 ·exact⟨U4,QL _,Ext.refl _,U4⟩
 rintro i t h2 hsame ⟨s6,hi,e2,s5⟩;have hsb:=yc (l:=(zj T F).take i) fun y hy=>hb.out y (Qi hy);have hli:((zj T F).take i).length<=i:=List.length_take_le _ _;have o2:=o1.ext e2;refine go ?_;refine VE (fun hq=> ?_) (fun hq=> ?_)<;>simp only[DB]at hq
 ·have hx:=hb.out _ (zO (l:=zj T F) (i:=i) (by omega));have hsum:((zj T F).take (i+1)).sum=((zj T F).take i).sum+(zj T F).getD i 0:=by
   rw[Qv,QB (by omega),Gu];simp[List.getD,QB (show i<(zj T F).length by omega)]
  obtain⟨hsig,hci⟩:=hc.out i (by omega);refine go ?_;refine VA (zFq h2 vt vf T F i (E.ext (e1.trans e2)) (by omega) (by rw[QN];exact hsig)) ?_;rintro _ h3 ⟨rfl,e3⟩;rw[QN,<-hci];refine go ?_;refine zA (i+1) (by omega) ⟨Wd,by omega,e2.trans e3,?_⟩;rw[hsum];exact U4
 ·have hii:i=n:=by omega
  subst hii;refine gr ?_;exact⟨rfl,e1.trans e2⟩
theorem zFZ(E:En h vt vf T F)(hs:zK T F=0):WC Tryz.prog tb 49 [.agg #[vt,vf]] h fun r h'=>r=I (Zl T F)/\Ext h h':=by
 obtain⟨hRl,hF8,hb,hc⟩:=zAf hs;have hsb:=yc hb;replace hb:=WA.mk hb;replace hc:=WA.mk hc;unfold Zl;obtain⟨f1,f2,f3,rfl⟩:=zD E.sf;refine en ?_;refine VF ?_;intro p h1 e1 o1;replace o1:Uz h h1 p [vt,.slice f1 f2 f3]:=o1;have sf1:=(E.ext e1).sf;refine go ?_;refine VC 0 rfl rfl ?_;have o1Y:Uz h (inC (zC 0 h1)) p [vt,.slice f1 f2 f3]:=o1;have sfY:Wa (inC (zC 0 h1)) (.slice f1 f2 f3) F:=sf1;have EX:=(E.ext e1).as 0;refine WB ?_;refine VA (zD2 EX hs F.length (QE _)) ?_;rintro _ X ⟨rfl,eX⟩;rw[<-hRl,Qg];refine nE eX ?_;have o1X:Uz h (inC X) p [vt,.slice f1 f2 f3]:=Uz.ext (h':=X) o1Y eX;have sfX:Wa (inC X) (.slice f1 f2 f3) F:=Wa.ext (h':=X) sfY eX;refine WB ?_;refine zA0 (j:=1) o1 (QE _) ?_;refine BA ?_;have e1X:Ext h1 (outC h1 X):=(zH 0 h1).trans (zW (h:=h1) eX);exact⟨by rw[hRl];rfl,e1.trans e1X⟩
theorem zF2(E:En h vt vf T F):WC Tryz.prog tb 17 [.agg #[vt,vf]] h fun r h'=>r=.tuple #[I (if zK T F=0 then Zl T F+(zM T F).sum else 0),I (if zK T F=0 then yh F+(zM T F).sum else 0),I (zK T F)]/\Ext h h':=by
 refine en ?_;refine VF ?_;intro p h1 e1 o1;replace o1:Uz h h1 p [vt,vf]:=o1;refine go ?_;refine VA (Y3 h1 (E.ext e1)) ?_;rintro _ h2 ⟨rfl,e2⟩;have o12:=o1.ext e2;have e02:=e1.trans e2;by_cases hs:zK T F=0;case neg=>
  have hs':zK T F≠0:=hs;rw[QC hs,QC hs];refine gr ?_;exact⟨rfl,e02⟩
 rw[QF hs,QF hs,hs];obtain⟨hRl,hF8,hb,hc⟩:=zAf hs;obtain⟨hFl,hS,hbF,hcF⟩:=zCa hs;have hsb:=yc hb;have hsf:=yc hbF;clear hb hc hbF hcF;refine go ?_;refine VA (zGw (E.ext e02) hs) ?_;rintro v9 h3 ⟨oS,e3⟩;have e03:=e02.trans e3;have o13:=o12.ext e3;have sS:SlS h3 v9 (zh T F):=oS.sl;obtain⟨s1,s2,s3,rfl⟩:=zD sS;have E3:=E.ext e03;refine go ?_;refine VA (zD6 E3 hs sS (zh T F).length (QE _)) ?_;rintro _ h4 ⟨rfl,e4⟩;rw[<-hFl,Qg];have e04:=e03.trans e4;have o14:=o13.ext e4;refine go ?_;refine VC 0 rfl rfl ?_;have o1Y:Uz h (inC (zC 0 h4)) p [vt,vf]:=o14;refine WB ?_;refine VA (zFZ ((E.ext e04).as 0) hs) ?_;rintro _ X ⟨rfl,eX⟩;refine nE eX ?_;have o1X:Uz h (inC X) p [vt,vf]:=Uz.ext (h':=X) o1Y eX;have EX:En (inC X) vt vf T F:=US (((E.ext e04).as 0).ext eX);unfold Zl yh;refine WB ?_;refine zHa o14 (QE _) ?_;refine WB ?_;refine VA (zGc EX) ?_;rintro _ Y ⟨rfl,eY⟩;refine nE eY ?_;unfold yh;refine BA ?_;have e4X:Ext h4 (outC h4 X):=(zH 0 h4).trans (zW (h:=h4) eX);have e4Y:Ext h4 (outC h4 Y):=e4X.trans (zW (h:=h4) eY);exact⟨rfl,e04.trans e4Y⟩
theorem zKd(E:En h vt vf T F)(f r:Int):WC Tryz.prog tb 19 [.agg #[vt,vf],I f,I r] h fun r' h'=>r'=.tuple #[I (zMo T F f r),I (zNV T F f r)]/\Ext h h':=by
 unfold zMo zNV;obtain⟨f1,f2,f3,rfl⟩:=zD E.sf;refine en ?_;refine VF ?_;intro p h1 e1 o1;replace o1:Uz h h1 p [vt,.slice f1 f2 f3]:=o1;refine go ?_;refine VA (Y3 h1 (E.ext e1)) ?_;rintro _ h2 ⟨rfl,e2⟩;have o12:=o1.ext e2;have e02:=e1.trans e2;have sf2:=(E.ext e02).sf;by_cases hs:zK T F=0;case neg=>
  have hs':zK T F≠0:=hs;rw[QC (fun e=>hs e.1),QF hs];refine gr ?_;exact⟨rfl,e02⟩
 rw[hs];obtain⟨hRl,hF8,hb,hc⟩:=zAf hs;by_cases f0:f<0
 ·have hn:¬zE7 T F f r:=fun e=>by have:=e.1;omega
  rw[QC (fun e=>hn e.2),QC (fun e=>e rfl),QC hn];refine gr ?_;exact⟨rfl,e02⟩
 by_cases f9:(F.length:Int)<=f
 ·have hn:¬zE7 T F f r:=fun e=>by have:=e.1;omega
  rw[QC (fun e=>hn e.2),QC (fun e=>e rfl),QC hn];refine gr ?_;exact⟨rfl,e02⟩
 by_cases r0:r<0
 ·have hn:¬zE7 T F f r:=fun e=>by have:=e.2;omega
  rw[QC (fun e=>hn e.2),QC (fun e=>e rfl),QC hn];refine gr ?_;exact⟨rfl,e02⟩
 obtain⟨k,rfl⟩:∃ k:Nat,f=k:=⟨f.toNat,by omega⟩;obtain⟨hsig,hci⟩:=hc k (by omega);have hx:=hb _ (zO (l:=zj T F) (i:=k) (by omega));have hsb:=yc (l:=(zj T F).take k) fun x hx=>hb x (Qi hx);have hlt:((zj T F).take k).length<=8:=QU (by rw[Qj];omega) hF8;replace hb:=WA.mk hb;replace hc:=WA.mk hc;refine go ?_;refine VA (zFq h2 vt _ T F k (E.ext e02) (by omega) (by rw[QN];exact hsig)) ?_;rintro _ h3 ⟨rfl,e3⟩;rw[QN,<-hci];have o13:=o12.ext e3;have e03:=e02.trans e3;by_cases r9:(zj T F).getD k 0<=r
 ·have hn:¬zE7 T F k r:=fun e=>by have:=e.2;rw[QN]at this;omega
  rw[QC (fun e=>hn e.2),QC (fun e=>e rfl),QC hn];refine gr ?_;exact⟨rfl,e03⟩
 have hi:zE7 T F k r:=⟨by omega,by rw[QN];omega⟩;rw[QF ⟨rfl,hi⟩,QC (fun e=>e rfl),QF hi];refine go ?_;refine VA (zD2 (E.ext e03) hs k (by omega)) ?_;rintro _ h4 ⟨rfl,e4⟩;refine gr ?_;exact⟨rfl,e03.trans e4⟩
theorem zIr(E:En h vt vf T F)(f:Int):WC Tryz.prog tb 21 [.agg #[vt,vf],I f] h fun r h'=>r=.tuple #[I (if zK T F=0/\0<=f/\f<(F.length:Int)then zJt T F+f else 0),I (if zK T F≠0 then zK T F else if 0<=f/\f<(F.length:Int)then 0 else 2)]/\Ext h h':=by
 obtain⟨f1,f2,f3,rfl⟩:=zD E.sf;refine en ?_;refine VF ?_;intro p h1 e1 o1;replace o1:Uz h h1 p [vt,.slice f1 f2 f3]:=o1;refine go ?_;refine VA (Y3 h1 (E.ext e1)) ?_;rintro _ h2 ⟨rfl,e2⟩;have o12:=o1.ext e2;have e02:=e1.trans e2;have sf2:=(E.ext e02).sf;by_cases hs:zK T F=0;case neg=>
  have hs':zK T F≠0:=hs;rw[QC (fun e=>hs e.1),QF hs];refine gr ?_;exact⟨rfl,e02⟩
 rw[hs];obtain⟨hRl,hF8,hb,hc⟩:=zAf hs;have hsb:=yc hb;clear hb hc;by_cases f0:f<0
 ·rw[QC (by omega),QC (by omega),QC (by omega)];refine gr ?_;exact⟨rfl,e02⟩
 by_cases f9:(F.length:Int)<=f
 ·rw[QC (by omega),QC (by omega),QC (by omega)];refine gr ?_;exact⟨rfl,e02⟩
 rw[QF (by omega),QC (by omega),QF (by omega)];refine go ?_;refine VA (zD2 (E.ext e02) hs F.length (QE _)) ?_;rintro _ h4 ⟨rfl,e4⟩;rw[<-hRl,Qg];unfold zJt;refine gr ?_;exact⟨rfl,e02.trans e4⟩
theorem zDK(E:En h vt vf T F)(s i:Int):WC Tryz.prog tb 55 [.agg #[vt,vf],I s,I i] h fun r h'=>r=.tuple #[I (y9 T F s i),I (yl T F s i)]/\Ext h h':=by
 unfold y9 yl;have hT:=E.sm.types;obtain⟨t1,t2,t3,rfl⟩:=zD E.st;refine en ?_;refine VF ?_;intro p h1 e1 o1;replace o1:Uz h h1 p [.slice t1 t2 t3,vf]:=o1;refine go ?_;refine VA (Y3 h1 (E.ext e1)) ?_;rintro _ h2 ⟨rfl,e2⟩;have o12:=o1.ext e2;have e02:=e1.trans e2;by_cases hs:zK T F=0;case neg=>
  have hs':zK T F≠0:=hs;rw[QC (fun e=>hs e.1),QF hs];refine gr ?_;exact⟨rfl,e02⟩
 have hl:=zC1 (yT (yi hs).1).1;obtain⟨hFl,hS,hbF,hcF⟩:=zCa hs;refine go ?_;refine VA (zGw (E.ext e02) hs) ?_;rintro v9 h3 ⟨oS,e3⟩;have e03:=e02.trans e3;have o13:=o12.ext e3;have sS:SlS h3 v9 (zh T F):=oS.sl;obtain⟨s1,s2,s3,rfl⟩:=zD sS;have E3:=E.ext e03;rw[hs];have bad:¬Bn T F s i->(I (if(0:Int)=0/\Bn T F s i then((zM T F).take s.toNat).sum+i else 0)=I 0/\I (if(0:Int)≠0 then 0 else if Bn T F s i then 0 else 2)=I 2):=fun hn=>by
  rw[QC (fun e=>hn e.2),QC (fun e=>e rfl),QC hn];exact⟨rfl,rfl⟩
 have o1Y:Uz h (inC (zC 0 h3)) p [.slice t1 t2 t3,vf]:=o13;have stY:Wn (inC (zC 0 h3)) (.slice t1 t2 t3) T:=E3.st;have sSY:SlS (inC (zC 0 h3)) (.slice s1 s2 s3) (zh T F):=sS;refine go ?_;refine VC 0 rfl rfl ?_;by_cases f0:s<0
 ·obtain⟨b1,b2⟩:=bad (fun e=>by have:=e.1;omega);rw[b1,b2];refine WB ?_;rw[zGB];refine rt ?_;exact⟨rfl,e03⟩
 by_cases f9:((zh T F).length:Int)<=s
 ·obtain⟨b1,b2⟩:=bad (fun e=>by have:=e.1;omega);rw[b1,b2];refine WB ?_;rw[zGB];refine rt ?_;exact⟨rfl,e03⟩
 by_cases r0:i<0
 ·obtain⟨b1,b2⟩:=bad (fun e=>by have:=e.2;omega);rw[b1,b2];refine WB ?_;rw[zGB];refine rt ?_;exact⟨rfl,e03⟩
 obtain⟨k,rfl⟩:∃ k:Nat,s=k:=⟨s.toNat,by omega⟩;obtain⟨hty,hci⟩:=hcF k (by omega);have hx:=hbF _ (zO (l:=zM T F) (i:=k) (by omega));have hsb:=yc (l:=(zM T F).take k) fun x hx=>hbF x (Qi hx);have hlt:((zM T F).take k).length<=k:=List.length_take_le _ _;replace hbF:=WA.mk hbF;replace hcF:=WA.mk hcF;obtain⟨csS,hRS,pcS,hsS⟩:=zi (i:=k) sSY (by omega);generalize(zh T F).getD k default=x at *;have hRS:csS=[I x.fn,I x.nr,I x.ty]:=hRS;subst hRS;obtain⟨y,hy⟩:∃ y:Nat,x.ty=y:=⟨x.ty.toNat,by omega⟩;have hl1:=(hl y (by omega)).1;have hl2:=(hl y (by omega)).2;replace hl:=WA.mk hl;rw[hy]at pcS hty hci;rw[QN]at hci;refine WB ?_;refine VA (zGA _ T (by omega) (y+1) y _ (by omega) stY (by omega) (fun j hj=>hl.out j (by omega)) hl1) ?_;rintro r X ⟨or,eX⟩;refine nE eX ?_;have sr:WH (inC X) r (yp T y):=or.sl;obtain⟨r1,r2,r3,rfl⟩:=WW.shape sr;have e3X:Ext h3 (outC h3 X):=(zH 0 h3).trans (zW (h:=h3) eX);have e4X:Ext h3 (outC h3 (inC X)):=e3X;have e05:=e03.trans e4X;by_cases p1:(zM T F).getD k 0<=i
 ·obtain⟨b1,b2⟩:=bad (fun e=>by have:=e.2;rw[QN]at this;omega);rw[b1,b2];rw[hci]at p1;refine WB ?_;refine gr ?_;exact⟨rfl,e05⟩
 have hi:Bn T F k i:=⟨by omega,by rw[QN];omega⟩;rw[QF ⟨rfl,hi⟩,QC (fun e=>e rfl),QF hi];clear bad;rw[hci]at p1;refine WB ?_;generalize outC h3 (inC X)=h5 at *;have o15:=o13.ext e4X;have E5:=E3.ext e4X;refine go ?_;refine VA (zD6 E5 hs (SlS.ext sS e4X) k (by omega)) ?_;rintro _ h6 ⟨rfl,e6⟩;refine gr ?_;exact⟨rfl,e05.trans e6⟩
theorem zIl(E:En h vt vf T F)(s i:Int):WC Tryz.prog tb 23 [.agg #[vt,vf],I s,I i] h fun r h'=>r=.tuple #[I (if zK T F=0/\Bn T F s i then(Zl T F)+y9 T F s i else 0),I (yl T F s i)]/\Ext h h':=by
 refine en ?_;refine VF ?_;intro p h1 e1 o1;replace o1:Uz h h1 p [vt,vf]:=o1;refine go ?_;refine VA (zDK (E.ext e1) s i) ?_;rintro _ h2 ⟨rfl,e2⟩;have o12:=o1.ext e2;have e02:=e1.trans e2;by_cases hz:zK T F=0/\Bn T F s i;case neg=>
  have hne:yl T F s i≠0:=by
   unfold yl;split
   ·assumption
   ·rename_i hq;rw[QC (fun q=>hz ⟨GN hq,q⟩)];decide
  rw[QC hz];refine gr ?_;exact⟨rfl,e02⟩
 obtain⟨hs,hi⟩:=hz;have h0:yl T F s i=0:=by unfold yl;rw[QC (fun q=>q hs),QF hi]
 rw[h0,QF ⟨hs,hi⟩];obtain⟨hRl,hF8,hb,hc⟩:=zAf hs;obtain⟨hFl,hS,hbF,hcF⟩:=zCa hs;have hsb:=yc hb;have hv:0<=y9 T F s i/\y9 T F s i<=2000000:=by
  unfold y9;rw[QF ⟨hs,hi⟩];have h1:=yc (l:=(zM T F).take s.toNat) fun x hx=>hbF x (Qi hx);have h2:((zM T F).take s.toNat).length<=(zM T F).length:=by rw[Qj];omega
  have h3:=hi.1;have h4:=hi.2;have h5:=hbF _ (zO (l:=zM T F) (i:=s.toNat) (by omega));omega
 clear hb hc hbF hcF;unfold Zl;generalize y9 T F s i=v at *;refine go ?_;refine VA (zFZ (E.ext e02) hs) ?_;rintro _ h4 ⟨rfl,e4⟩;unfold Zl;refine gr ?_;exact⟨rfl,e02.trans e4⟩
theorem zGN(E:En h vt vf T F)(s i:Int):WC Tryz.prog tb 25 [.agg #[vt,vf],I s,I i] h fun r h'=>r=.tuple #[I (if zK T F=0/\Bn T F s i then yh F+y9 T F s i else 0),I (yl T F s i)]/\Ext h h':=by
 refine en ?_;refine VF ?_;intro p h1 e1 o1;replace o1:Uz h h1 p [vt,vf]:=o1;refine go ?_;refine VA (zDK (E.ext e1) s i) ?_;rintro _ h2 ⟨rfl,e2⟩;have o12:=o1.ext e2;have e02:=e1.trans e2;by_cases hz:zK T F=0/\Bn T F s i;case neg=>
  have hne:yl T F s i≠0:=by
   unfold yl;split
   ·assumption
   ·rename_i hq;rw[QC (fun q=>hz ⟨GN hq,q⟩)];decide
  rw[QC hz];refine gr ?_;exact⟨rfl,e02⟩
 obtain⟨hs,hi⟩:=hz;have h0:yl T F s i=0:=by unfold yl;rw[QC (fun q=>q hs),QF hi]
 rw[h0,QF ⟨hs,hi⟩];obtain⟨hRl,hF8,hb,hc⟩:=zAf hs;obtain⟨hFl,hS,hbF,hcF⟩:=zCa hs;have hv:0<=y9 T F s i/\y9 T F s i<=2000000:=by
  unfold y9;rw[QF ⟨hs,hi⟩];have h1:=yc (l:=(zM T F).take s.toNat) fun x hx=>hbF x (Qi hx);have h2:((zM T F).take s.toNat).length<=(zM T F).length:=by rw[Qj];omega
  have h3:=hi.1;have h4:=hi.2;have h5:=hbF _ (zO (l:=zM T F) (i:=s.toNat) (by omega));omega
 clear hb hc hbF hcF;unfold yh;generalize y9 T F s i=v at *;refine go ?_;refine VA (zGc (E.ext e02)) ?_;rintro _ h4 ⟨rfl,e4⟩;unfold yh;refine gr ?_;exact⟨rfl,e02.trans e4⟩
theorem zL6(E:En h vt vf T F)(hs:zK T F=0){vS:Value}(sS:SlS h vS (zh T F))(n:Int)(hn:0<=n-yh F/\n-yh F<(zM T F).sum):WC Tryz.prog tb 56 [.agg #[vt,vf],vS,I n] h fun r h'=>r=.tuple #[I (Zo (zM T F) (n-yh F)).1,I (Zo (zM T F) (n-yh F)).2]/\Ext h h':=by
 have hl:=zC1 (yT (yi hs).1).1;obtain⟨hFl,hS,hbF,hcF⟩:=zCa hs;have hsb:=yc hbF;have hT:=E.sm.types;have hF:=E.sm.funcs;have hob:1<=yh F/\yh F<=10000:=by unfold yh;omega
 obtain⟨t1,t2,t3,rfl⟩:=zD E.st;obtain⟨s1,s2,s3,rfl⟩:=zD sS;replace hl:=WA.mk hl;replace hbF:=WA.mk hbF;replace hcF:=WA.mk hcF;refine en ?_;refine VF ?_;intro p h1 e1 o1;replace o1:Uz h h1 p [.slice t1 t2 t3,vf]:=o1;refine go ?_;refine VA (zGc (E.ext e1)) ?_;rintro _ h2 ⟨rfl,e2⟩;have e02:=e1.trans e2;have o2:=o1.ext e2;obtain⟨k,hk⟩:∃ k:Int,k=n-yh F:=⟨_,rfl⟩;rw[<-hk]at hn;refine go ?_;rw[<-hk];refine VD (fun i=>(zM T F).length-i) (fun i t h8=>Ext h2 h8/\zB t 9=I i/\i<(zM T F).length/\zB t 8=I (k-((zM T F).take i).sum)/\0<=k-((zM T F).take i).sum/\Zo (zM T F) k=((Zo ((zM T F).drop i) (k-((zM T F).take i).sum)).1+i,(Zo ((zM T F).drop i) (k-((zM T F).take i).sum)).2)) 0 ?_ ?_
 ·have hl0:0<(zM T F).length:=by
   refine Nat.pos_of_ne_zero fun q=> ?_;rw[G2 q]at hn;simp at hn;omega
  refine⟨Ext.refl _,U4,hl0,?_,by simp;omega,by simp⟩;rw[Q4,List.sum_nil,Int.sub_zero];exact U4
 rintro i t h8 hsame ⟨e8,s9,hi,s8,hp,hq⟩;obtain⟨hty,hci⟩:=hcF.out i (by omega);have hxi:=hbF.out _ (zO hi);have hsum:((zM T F).take (i+1)).sum=((zM T F).take i).sum+(zM T F).getD i 0:=by
  rw[Qv,QB hi,Gu];simp[List.getD,QB hi]
 have hdr:(zM T F).drop i=(zM T F).getD i 0::(zM T F).drop (i+1):=by
  rw[GL hi];simp[List.getD,QB hi]
 have htb:=yc (l:=(zM T F).take i) fun x hx=>hbF.out x (Qi hx);have hsite:¬k-((zM T F).take i).sum<(zM T F).getD i 0->i+1<(zM T F).length:=fun hc=>by
  refine GN fun q=> ?_;have e:(zM T F).take (i+1)=zM T F:=Qy (by omega);rw[e]at hsum;omega
 have e08:=e02.trans e8;have o8:=o2.ext e8;have sS8:SlS h8 (.slice s1 s2 s3) (zh T F):=SlS.ext sS e08;refine go ?_;refine VC 0 rfl rfl ?_;have o8Y:Uz h (inC (zC 0 h8)) p [.slice t1 t2 t3,vf]:=o8;have stY:Wn (inC (zC 0 h8)) (.slice t1 t2 t3) T:=(E.ext e08).st;have sSY:SlS (inC (zC 0 h8)) (.slice s1 s2 s3) (zh T F):=sS8;obtain⟨csS,hRS,pcS,hsS⟩:=zi (i:=i) sSY (by omega);generalize(zh T F).getD i default=x at *;have hRS:csS=[I x.fn,I x.nr,I x.ty]:=hRS;subst hRS;obtain⟨y,hy⟩:∃ y:Nat,x.ty=y:=⟨x.ty.toNat,by omega⟩;rw[hy]at pcS hty hci;rw[QN]at hci;refine WB ?_;refine VA (zGA _ T (by omega) (y+1) y _ (by omega) stY (by omega) (fun j hj=>hl.out j (by omega)) (hl.out y (by omega)).1) ?_;rintro r X ⟨or,eX⟩;refine nE eX ?_;have sr:WH (inC X) r (yp T y):=or.sl;obtain⟨r1,r2,r3,rfl⟩:=WW.shape sr;have e8X:Ext h8 (outC h8 X):=(zH 0 h8).trans (zW (h:=h8) eX);by_cases hc:k-((zM T F).take i).sum<(zM T F).getD i 0
 ·have hc':=hc;rw[hci]at hc';refine BA ?_;rw[hq,hdr,Zo,QC (by omega)];exact⟨by simp;rfl,e08.trans e8X⟩
 ·have hi1:=hsite hc;have hc':=hc;rw[hci]at hc';refine WB ?_;refine zA (i+1) (by omega) ⟨e8.trans e8X,Wd,hi1,?_,by omega,?_⟩
  ·rw[hsum,hci,<-Int.sub_sub];exact U4
  ·rw[hq,hdr,hsum,<-Int.sub_sub];conv=>lhs;rw[Zo,QF (by omega)]
   simp only;congr 1;omega
theorem zMA(E:En h vt vf T F)(n:Int):WC Tryz.prog tb 27 [.agg #[vt,vf],I n] h fun r h'=>r=.tuple #[.int .u8 (ofR T F n).1,I (ofR T F n).2.1,I (ofR T F n).2.2.1,I (ofR T F n).2.2.2]/\Ext h h':=by
 unfold ofR;have hF:=E.sm.funcs;have hob:yh F=1+F.length:=rfl;obtain⟨f1,f2,f3,rfl⟩:=zD E.sf;refine en ?_;refine VF ?_;intro p h1 e1 o1;replace o1:Uz h h1 p [vt,.slice f1 f2 f3]:=o1;refine go ?_;refine VA (zF2 (E.ext e1)) ?_;rintro _ h2 ⟨rfl,e2⟩;have o12:=o1.ext e2;have e02:=e1.trans e2;have sf2:=(E.ext e02).sf;by_cases hs:zK T F=0;case neg=>
  have hs':zK T F≠0:=hs;rw[QC hs,QC hs,QF hs'];refine gr ?_;exact⟨rfl,e02⟩
 rw[QF hs,QF hs,hs,QC (fun e=>e rfl)];by_cases hn:0<=n/\n<yh F+(zM T F).sum;case neg=>
  rw[QF hn];by_cases n0:n<0
  ·refine gr ?_;exact⟨rfl,e02⟩
  ·have n1:yh F+(zM T F).sum<=n:=by omega
   refine gr ?_;exact⟨rfl,e02⟩
 rw[QC (fun e=>e hn)];by_cases n0:n=0
 ·rw[QF n0];refine gr ?_;exact⟨rfl,e02⟩
 rw[QC n0];by_cases n1:n<yh F
 ·rw[QF n1];refine gr ?_;exact⟨rfl,e02⟩
 rw[QC n1];have n2:¬n<=(F.length:Int):=by omega
 refine go ?_;refine VC 0 rfl rfl ?_;have o1Y:Uz h (inC (zC 0 h2)) p [vt,.slice f1 f2 f3]:=o12;refine WB ?_;refine VA (zGw ((E.ext e02).as 0) hs) ?_;rintro v9 X ⟨oS,eX⟩;refine nE eX ?_;have sS:SlS (inC X) v9 (zh T F):=oS.sl;have EX:En (inC X) vt (.slice f1 f2 f3) T F:=US (((E.ext e02).as 0).ext eX);refine WB ?_;refine VA (zL6 EX hs sS n (by omega)) ?_;rintro _ Y ⟨rfl,eY⟩;refine nE eY ?_;refine BA ?_;have e2X:Ext h2 (outC h2 X):=(zH 0 h2).trans (zW (h:=h2) eX);have e2Y:Ext h2 (outC h2 Y):=e2X.trans (zW (h:=h2) eY);exact⟨rfl,e02.trans e2Y⟩
end
end Go.Proofs.YtfnndahpddkniaaGreatDoor
set_option maxRecDepth 100000
namespace Go.Proofs.YtfnndahpddkniaaGreatDoor
open Go.Am
theorem zGj(h:Uy)(vt vf:Value)(T:List U0)(F:List WJ)(a b:Int)(tt:BU h)(hm:h.mark<=h.n)(st:Wn h vt T)(sf:Wa h vf F)(hT:(T.length:Int)<=1152921504606846976)(hF:(F.length:Int)<=1152921504606846976):
  WC Tryz.prog tb 4 [.agg #[vt,vf],I a,I b] h fun r h'=>r=.bool true:=by
 refine en ?_;refine VF ?_;intro p h1 e1 o1;replace o1:Uz h h1 p [vt,vf]:=o1;refine go ?_;refine VA (zKe h1 vt vf T F 100 (by omega) (st.ext e1) (Wa.ext sf e1) (by omega) (by omega)) ?_;rintro r h2 ⟨hr,e2⟩;have o1:=o1.ext e2;rcases hr with rfl|⟨rfl,sm,si⟩
 ·refine gr ?_;rfl
 have E:En h2 vt vf T F:=⟨(tt.ext e1).ext e2,zp e2 (zp e1 hm),sm,si,(st.ext e1).ext e2,Wa.ext (Wa.ext sf e1) e2⟩;clear st sf tt hm e1 e2;refine go ?_;refine VA (zLj h2 vt vf T F sm si E.hm E.st E.sf) ?_;rintro _ h3 ⟨⟨wt,wf,rfl,swt,swf⟩,e3⟩;have o1:=o1.ext e3;have E:=E.ext e3;obtain⟨wa,wn,wk,rfl⟩:=zD swt;obtain⟨xa,xn,xk,rfl⟩:=zD swf;refine go ?_;refine VK ?_;intro q h4 e4 o4;refine go ?_;refine VG (cs:=[.slice wa wn wk,.slice xa xn xk]) o4 e4 ?_;intro h5 e5 o5 _;have o1:=o1.ext e5;have E:=E.ext e5;have W:En h5 _ _ T F:=⟨E.tt,E.hm,sm,si,swt.ext e5,Wa.ext swf e5⟩;clear e3 e4 e5 o4 swt swf;have K:∀ h',Ext h5 h'->Uz h h' p [vt,vf]/\Uz h3 h' q [.slice wa wn wk,.slice xa xn xk]/\En h' vt vf T F/\En h' (.slice wa wn wk) (.slice xa xn xk) T F:=fun h' e=>⟨o1.ext e,o5.ext e,E.ext e,W.ext e⟩;replace K:=WA.mk K;refine go ?_;refine VA (zLy W.env) ?_;rintro _ h6 ⟨rfl,e6⟩;obtain⟨o1,o5,E,W⟩:=K.out _ e6;refine go ?_;refine VA (zF2 E) ?_;rintro _ h7 ⟨rfl,e7⟩;replace e7:=e6.trans e7;generalize(if zK T F=0 then Zl T F+(zM T F).sum else 0)=r1;generalize(if zK T F=0 then yh F+(zM T F).sum else 0)=r2;obtain⟨o1,o5,E,W⟩:=K.out _ e7;refine go ?_;refine VA (zNn W.env a b) ?_;rintro _ h8 ⟨rfl,e8⟩;replace e8:=e7.trans e8;obtain⟨o1,o5,E,W⟩:=K.out _ e8;refine go ?_;refine VA (zKd E a b) ?_;rintro _ h9 ⟨rfl,e9⟩;replace e9:=e8.trans e9;obtain⟨o1,o5,E,W⟩:=K.out _ e9;generalize zMo T F a b=r3;generalize zNV T F a b=r4;refine go ?_;refine VA (zJV W.env a) ?_;rintro _ h10 ⟨rfl,e10⟩;replace e10:=e9.trans e10;obtain⟨o1,o5,E,W⟩:=K.out _ e10;refine go ?_;refine VA (zIr E a) ?_;rintro _ h11 ⟨rfl,e11⟩;replace e11:=e10.trans e11;obtain⟨o1,o5,E,W⟩:=K.out _ e11;generalize(if zK T F=0/\0<=a/\a<(F.length:Int)then zJt T F+a else 0)=r5;generalize(if zK T F≠0 then zK T F else if 0<=a/\a<(F.length:Int)then 0 else 2)=r6;refine go ?_;refine VA (zNd W.env a b) ?_;rintro _ h12 ⟨rfl,e12⟩;replace e12:=e11.trans e12;obtain⟨o1,o5,E,W⟩:=K.out _ e12;refine go ?_;refine VA (zIl E a b) ?_;rintro _ h13 ⟨rfl,e13⟩;replace e13:=e12.trans e13;obtain⟨o1,o5,E,W⟩:=K.out _ e13;generalize(if zK T F=0/\Bn T F a b then Zl T F+y9 T F a b else 0)=r7;refine go ?_;refine VA (zII W.env a b) ?_;rintro _ h14 ⟨rfl,e14⟩;replace e14:=e13.trans e14;obtain⟨o1,o5,E,W⟩:=K.out _ e14;refine go ?_;refine VA (zGN E a b) ?_;rintro _ h15 ⟨rfl,e15⟩;replace e15:=e14.trans e15;obtain⟨o1,o5,E,W⟩:=K.out _ e15;generalize(if zK T F=0/\Bn T F a b then yh F+y9 T F a b else 0)=r8;generalize yl T F a b=r9;refine go ?_;refine VA (zO9 W.env a) ?_;rintro _ h16 ⟨rfl,e16⟩;replace e16:=e15.trans e16;obtain⟨o1,o5,E,W⟩:=K.out _ e16;refine go ?_;refine VA (zMA E a) ?_;rintro _ h17 ⟨rfl,e17⟩;replace e17:=e16.trans e17;obtain⟨o1,o5,E,W⟩:=K.out _ e17;generalize ofR T F a=r10;obtain⟨r10,r11,r12,r13⟩:=r10;generalize zK T F=r0;simp only;refine go ?_;refine VA (zM4 h17 _ _ _ _ T F sm si E.hm W.st W.sf E.st E.sf) ?_;rintro _ h18 ⟨rfl,e18⟩;refine gr ?_;rfl
set_option maxRecDepth 1000000 in
theorem tb_ok:tb.Ok Tryz.prog where
 code:=fun _ _ h=>h
 stub:=fun f s hs=>by cases hs
 grow:=fun f s hs args h v h' hk=>by cases hs
end Go.Proofs.YtfnndahpddkniaaGreatDoor
