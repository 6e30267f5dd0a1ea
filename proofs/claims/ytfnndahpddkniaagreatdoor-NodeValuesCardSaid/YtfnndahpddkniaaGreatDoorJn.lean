/- Walks of functions, plain laws; proves no statement. -/
import Derived.Test.YtfnndahpddkniaaGreatDoorJm
set_option linter.all false
set_option maxHeartbeats 4000000
set_option maxRecDepth 100000
namespace Go.Proofs.YtfnndahpddkniaaGreatDoor
open Go.Am
theorem Z4(h:U0):outC h (inC (zC 0 h))=h:=rfl
noncomputable def zA7(T:List U2)(F:List WM)(M:List Ba)(v:BW):Int×Int:=
 if yS T F≠0 then(0,yS T F)
 else if v.kind=3/\0<=v.n/\v.n<=(F.length:Int)then(v.n,0)
 else if v.kind=2/\v.block=0 then(0,0)
 else if v.kind≠3/\v.kind≠2 then(0,6)
 else if v.kind=3\/¬(1<=v.block/\v.block<=(M.length:Int))\/¬(0<=(M.getD (v.block-1).toNat default).site/\(M.getD (v.block-1).toNat default).site<((zc T F).length:Int))then(0,2)
 else if ¬(0<=v.pos/\v.pos<((Wq T ((zc T F).getD (M.getD (v.block-1).toNat default).site.toNat default).ty.toNat).length:Int))then(0,2)
 else(zC7 F+(((zy T F).take (M.getD (v.block-1).toNat default).site.toNat).sum+(yj T ((zc T F).getD (M.getD (v.block-1).toNat default).site.toNat default).ty.toNat).1.getD v.pos.toNat 0),0)
theorem zKU(h:U0)(vt vf vm:Value)(T:List U2)(F:List WM)(M:List Ba)(E:Env h vt vf T F)(sM:Wk h vm M)(hM:M.length<=1000)(v:BW)(hv: -9223372036854775808<=v.block/\v.block<=9223372036854775807):
  WC Tryz.prog tb 12 [.agg #[vt,vf],vm,.agg #[.int .u8 v.kind,I v.n,I v.block,I v.pos]] h fun r h'=>r=.tuple #[I (zA7 T F M v).1,I (zA7 T F M v).2]/\Ext h h':=by
 have hRl:(Zw T F).length=F.length:=by unfold Zw;simp
 unfold zA7;obtain⟨t1,t2,t3,rfl⟩:=zD E.st;obtain⟨m1,m2,m3,rfl⟩:=zD sM;refine en ?_;refine VF ?_;intro p h1 e1 o1;replace o1:U1 h h1 p [.slice t1 t2 t3,vf]:=o1;refine go ?_;refine VF ?_;intro p5 h2 e2 o2;replace o2:U1 h1 h2 p5 [.int .u8 v.kind,I v.n,I v.block,I v.pos]:=o2;have o12:=o1.ext e2;have e02:=e1.trans e2;refine go ?_;refine VA (zKM h2 _ vf T F (E.ext e02)) ?_;rintro _ h3 ⟨⟨vR,vF,vS,rfl,⟨r1,r2,r3,rfl⟩,⟨f1,f2,f3,rfl⟩,⟨s1,s2,s3,rfl⟩,oR,oF,sS⟩,e3⟩;have o23:=o2.ext e3;have o13:=o12.ext e3;refine go ?_;refine VL ?_;intro p8 h4 e4 o4;refine go ?_;refine VH (cs:=[.slice r1 r2 r3,.slice f1 f2 f3,.slice s1 s2 s3]) o4 e4 ?_;intro h5 e5 o5 _;have o25:=o23.ext e5;have o15:=o13.ext e5;have e05:=e02.trans (e3.trans e5);by_cases hs:yS T F=0;case neg=>
  have hs':yS T F≠0:=hs;rw[QF hs];refine gr ?_;exact⟨rfl,e05⟩
 have B:=(zQC hs oR oF sS ⟨⟨_,_,_,rfl⟩,⟨_,_,_,rfl⟩,⟨_,_,_,rfl⟩⟩).ext e5;have sR:=B.r.sl;have sSl:=B.s.sl;have sM5:=Wk.ext sM e05;rw[QC (fun e=>e hs),hs];have hcc:=(yX (yw hs).1).1;have hsty:=Yj hs;by_cases c1:v.kind=3/\0<=v.n/\v.n<=(F.length:Int)
 ·obtain⟨k3,n0,n1⟩:=c1;have n1':v.n<=((Zw T F).length:Int):=by omega
  rw[QF ⟨k3,n0,n1⟩];refine gr ?_;exact⟨rfl,e05⟩
 rw[QC c1];by_cases k3:v.kind=3
 ·have c2:¬(v.kind=2/\v.block=0):=by omega
  rw[QC c2,QC (by omega),QF (.inl k3)];have o25Y:U1 h1 (inC (zC 0 h5)) p5 [.int .u8 v.kind,I v.n,I v.block,I v.pos]:=o25;by_cases n0:0<=v.n
  ·have n1:¬v.n<=((Zw T F).length:Int):=by omega
   refine go ?_;refine VC 0 rfl rfl ?_;refine U9 ?_;rw[Z4];refine gr ?_;exact⟨rfl,e05⟩
  ·refine go ?_;refine VC 0 rfl rfl ?_;refine U9 ?_;rw[Z4];refine gr ?_;exact⟨rfl,e05⟩
 by_cases k2:v.kind=2;case neg=>
  rw[QC (by omega),QF ⟨k3,k2⟩];refine gr ?_;exact⟨rfl,e05⟩
 by_cases b0:v.block=0
 ·rw[QF ⟨k2,b0⟩];refine gr ?_;exact⟨rfl,e05⟩
 rw[QC (by omega),QC (by omega)];have o25Y:U1 h1 (inC (zC 0 h5)) p5 [.int .u8 v.kind,I v.n,I v.block,I v.pos]:=o25;have o5Y:U1 h3 (inC (zC 0 h5)) p8 [.slice r1 r2 r3,.slice f1 f2 f3,.slice s1 s2 s3]:=o5;have sMY:Wk (inC (zC 0 h5)) (.slice m1 m2 m3) M:=sM5;have sSY:Bk (inC (zC 0 h5)) (.slice s1 s2 s3) (zc T F):=sSl;have hsl:=YK hs;by_cases hb1:v.block= -9223372036854775808
 ·have hsub:ye .sub (I v.block) (I 1)=some (I 9223372036854775807):=by rw[hb1];rfl
  refine go ?_;refine VC 0 rfl rfl ?_;refine U9 ?_;refine WO.bin zj zj hsub ?_;refine U9 ?_;refine VA (zBL _ 9223372036854775807 M.length) ?_;rintro _ _ ⟨rfl,rfl⟩;rw[QQ (show ¬((0:Int)<=9223372036854775807/\(9223372036854775807:Int)<(M.length:Int)) by omega),QF (.inr (.inl (by omega)))];refine nQ ?_;refine U9 ?_;rw[Z4];refine gr ?_;exact⟨rfl,e05⟩
 refine go ?_;refine VC 0 rfl rfl ?_;refine U9 ?_;refine VA (zBL _ (v.block-1) M.length) ?_;rintro _ _ ⟨rfl,rfl⟩;by_cases hb:1<=v.block/\v.block<=(M.length:Int);case neg=>
  rw[QQ (show ¬(0<=v.block-1/\v.block-1<(M.length:Int)) by omega),QF (.inr (.inl hb))];refine nQ ?_;refine U9 ?_;rw[Z4];refine gr ?_;exact⟨rfl,e05⟩
 rw[QT (show(0<=v.block-1/\v.block-1<(M.length:Int)) by omega)];refine nQ ?_;obtain⟨csM,⟨vc,rfl,sc,hlc⟩,pcM,hsM⟩:=zb (i:=(v.block-1).toNat) sMY (by omega);obtain⟨csN,hRN,pcN,hsN⟩:=zb (i:=(v.block-1).toNat) sM5 (by omega);obtain⟨vc',rfl,sc',hlc'⟩:=hRN;obtain⟨d1,d2,d3,rfl⟩:=zD sc';generalize hx:M.getD (v.block-1).toNat default=b at *;obtain⟨c1',c2',c3',rfl⟩:=zD sc;refine U9 ?_;refine VA (zBL _ b.site (zc T F).length) ?_;rintro _ _ ⟨rfl,rfl⟩;by_cases hs2:0<=b.site/\b.site<((zc T F).length:Int);case neg=>
  rw[QQ hs2,QF (.inr (.inr hs2))];refine nQ ?_;refine U9 ?_;rw[Z4];refine gr ?_;exact⟨rfl,e05⟩
 rw[QT hs2,QC (show ¬(v.kind=3\/¬(1<=v.block/\v.block<=(M.length:Int))\/¬(0<=b.site/\b.site<((zc T F).length:Int))) by omega)];refine nQ ?_;refine U9 ?_;rw[Z4];obtain⟨csS,hRS,pcS,hsS⟩:=zb (i:=b.site.toNat) sSl (by omega);have htyx:=hsty _ (zG (l:=zc T F) (i:=b.site.toNat) (by omega));have hsi:zO2 T F b.site 0\/True:= .inr trivial;generalize hxs:(zc T F).getD b.site.toNat default=x at *;have hRS:csS=[I x.fn,I x.nr,I x.ty]:=hRS;subst hRS;have hmm:h5.mark<=h5.n:=(E.ext e05).hm;refine go ?_;refine VC 0 rfl rfl ?_;have o15Y:U1 h (inC (zC 0 h5)) p [.slice t1 t2 t3,vf]:=o15;have stY:Wp (inC (zC 0 h5)) (.slice t1 t2 t3) T:=(E.ext e05).st;obtain⟨csSY,hRSY,pcSY,hsSY⟩:=zb (i:=b.site.toNat) sSY (by omega);rw[hxs]at hRSY;have hRSY:csSY=[I x.fn,I x.nr,I x.ty]:=hRSY;subst hRSY;refine U9 ?_;refine VA (zEr _ _ T x.ty stY E.sm.types E.sm.parts hcc htyx) ?_;rintro _ X ⟨⟨w,rfl,oW⟩,eX⟩;refine nE eX ?_;refine U9 ?_;obtain⟨w1,w2,w3,rfl⟩:=WW.shape oW.sl;have eq5:=(zI 0 h5).trans (zV (h:=h5) eX);have e56:Ext h5 (outC h5 (inC X)):=eq5;have sW:WJ (outC h5 (inC X)) (.slice w1 w2 w3) (Wq T x.ty.toNat):=oW.sl;clear eq5 eX oW o15Y stY pcSY hsSY sSY sMY o5Y o25Y;generalize outC h5 (inC X)=h6 at *;have o26:=o25.ext e56;have o16:=o15.ext e56;have o6:=o5.ext e56;have e06:=e05.trans e56;have E6:=E.ext e06;have B6:=B.ext e56;refine go ?_;refine VA (zBL h6 v.pos (Wq T x.ty.toNat).length) ?_;rintro _ _ ⟨rfl,rfl⟩;by_cases hpos:0<=v.pos/\v.pos<((Wq T x.ty.toNat).length:Int);case neg=>
  rw[QQ hpos,QF hpos];refine gr ?_;exact⟨rfl,e06⟩
 rw[QT hpos,QC (fun q=>q hpos)];have sS6:=B6.s.sl;obtain⟨cs6,hR6,pc6,hs6⟩:=zb (i:=b.site.toNat) sS6 (by omega);rw[hxs]at hR6;have hR6:cs6=[I x.fn,I x.nr,I x.ty]:=hR6;subst hR6;refine go ?_;refine VC 0 rfl rfl ?_;have o16Y:U1 h (inC (zC 0 h6)) p [.slice t1 t2 t3,vf]:=o16;have o26Y:U1 h1 (inC (zC 0 h6)) p5 [.int .u8 v.kind,I v.n,I v.block,I v.pos]:=o26;have o6Y:U1 h3 (inC (zC 0 h6)) p8 [.slice r1 r2 r3,.slice f1 f2 f3,.slice s1 s2 s3]:=o6;have stY:Wp (inC (zC 0 h6)) (.slice t1 t2 t3) T:=E6.st;have sSY:Bk (inC (zC 0 h6)) (.slice s1 s2 s3) (zc T F):=sS6;obtain⟨csSY,hRSY,pcSY,hsSY⟩:=zb (i:=b.site.toNat) sSY (by omega);rw[hxs]at hRSY;have hRSY:csSY=[I x.fn,I x.nr,I x.ty]:=hRSY;subst hRSY;refine U9 ?_;refine VA (zMT _ _ T x.ty v.pos stY E.sm.types E.sm.parts hcc htyx hpos (QE _)) ?_;rintro _ X ⟨rfl,eX⟩;refine nE eX ?_;refine U9 ?_;have eq6:=(zI 0 h6).trans (zV (h:=h6) eX);have e67:Ext h6 (outC h6 (inC X)):=eq6;clear eq6 eX;generalize outC h6 (inC X)=h7 at *;have o7:=o6.ext e67;have e07:=e06.trans e67;have B7:=B6.ext e67;have hlow:=zBu hcc;have hw:=zBU (x.ty.toNat+1) x.ty.toNat (Q1 _) fun j hj=>(hlow j (by omega)).1;have hnb:=hw.2.2 _ (zO (l:=(yj T x.ty.toNat).1) (i:=v.pos.toNat) (by rw[hw.2.1];omega));have hfl:(zy T F).getD b.site.toNat 0=((yO T x.ty.toNat).length:Int):=by
  unfold zy;rw[Zx (a:=default) (by omega),hxs]
 have hin:(0<=b.site/\b.site<((zy T F).length:Int))/\0<=(yj T x.ty.toNat).1.getD v.pos.toNat 0/\(yj T x.ty.toNat).1.getD v.pos.toNat 0<(zy T F).getD b.site.toNat 0:=by
  refine⟨⟨hs2.1,?_⟩,hnb.1,by rw[hfl];exact hnb.2⟩;unfold zy;rw[Qv];exact hs2.2
 generalize(yj T x.ty.toNat).1.getD v.pos.toNat 0=fd at *;refine go ?_;refine VA (zLk B7 b.site fd) ?_;rintro _ h8 ⟨rfl,e8⟩;rw[QF hin,QT hin];have o8:=o7.ext e8;have B8:=B7.ext e8;refine go ?_;refine VA (zIZ B8) ?_;rintro _ h9 ⟨rfl,e9⟩;have hob:zC7 F=1+(Zw T F).length:=by unfold zC7;rw[hRl]
 have hsb:=zCk (l:=(zy T F).take b.site.toNat) fun y hy=>B.bF y (Qp hy);have hlt:((zy T F).take b.site.toNat).length<=1024:=QU (by rw[Qj];omega) B.hF;have hR8:=B.hR;have hFb:=B.bF _ (zO (l:=zy T F) (i:=b.site.toNat) (by have:=hin.1;omega));refine gr ?_;exact⟨by rw[hob];rfl,e07.trans (e8.trans e9)⟩
end Go.Proofs.YtfnndahpddkniaaGreatDoor
set_option maxRecDepth 100000
namespace Go.Proofs.YtfnndahpddkniaaGreatDoor
open Go.Am
theorem zJV(vt:Value)(T:List U2)(hT:(T.length:Int)<=1000):∀ (n k:Nat) (h:U0),k<n->Wp h vt T->k<T.length->zCl T k->yz T k->
  WC Tryz.prog tb 71 [vt,I k] h fun r h'=>U7 h h' r (yO T k)/\Ext h h':=by
 intro n;induction n with
 |zero=>intro k h hk;omega
 |succ n ih=>
  intro k h hkn st hk hlow hM;have hall:∀ j,j<=k->yz T j:=fun j hj=>by
   by_cases e:j=k
   ·subst e;exact hM
   ·exact(hlow j (by omega)).1
  have hof:=zA4 hall;have h4':=zHQ hM;have h5':=zHI hM;have h32:∀ q,q<k->(yO T q).length<=32:=fun q hq=>QU (zBF (q+1) q (Q1 _) fun j hj=>hall j (by omega)) (hlow q hq).2;obtain⟨cs,⟨va,rfl,sa,hla⟩,pc,hs⟩:=yH (i:=k) st hk;rw[hof];clear hof;generalize T.getD k default=x at *;obtain⟨_,_,_,rfl⟩:=WW.shape sa;refine en ?_;refine VL ?_;intro p h1 e1 o1;refine go ?_;refine VH o1 e1 ?_;intro h2 e2 o2 _;have st2:=st.ext e2;have sa2:=sa.ext e2;by_cases h5:x.kind=5
  ·have hp:=h5' h5;obtain⟨q,hq⟩:∃ q:Nat,x.elem=q:=⟨x.elem.toNat,by omega⟩;have hqk:q<k:=by omega
   rw[QC (by omega),QF h5,hq,QN];refine go ?_;rw[hq];refine VA (ih q h2 (by omega) st2 (by omega) (fun j hj=>hlow j (by omega)) (hlow q hqk).1) ?_;rintro r h3 ⟨or,e3⟩;refine gr ?_;refine⟨?_,e2.trans e3⟩;rcases or with o|o
   ·exact .inl o
   ·exact .inr (o.since e2)
  by_cases h4:x.kind=4
  ·have hp:=h4' h4;rw[QF h4];have hbd:∀ p∈x.parts,(yO T p.toNat).length<=32:=fun p hpp=>by
    have:=hp.2 p hpp;exact h32 p.toNat (by omega)
   replace hM:=WE.mk hM;replace hall:=WE.mk hall;replace h32:=WE.mk h32;replace hlow:=WE.mk hlow;have hp8:=hp.1;replace hp:=WE.mk hp;replace hbd:=WE.mk hbd;refine go ?_;refine VD (fun i=>x.parts.length-i) (fun i t h3=>zB t 7=I i/\i<=x.parts.length/\Ext h2 h3/\∃ w,zB t 6=w/\U7 h2 h3 w (((x.parts.take i).map fun p=>yO T p.toNat).flatten)) 0 ?_ ?_
   ·exact⟨U6,QK _,Ext.refl _,.slice none 0 0,U6,.inl ⟨rfl,by simp⟩⟩
   rintro i t h3 hsame ⟨s7,hi,e23,w,s6,ow⟩;have st3:=st2.ext e23;have sa3:=sa2.ext e23;have o3:=o2.ext e23;refine go ?_;refine VE (fun hc=> ?_) (fun hc=> ?_)<;>simp only[DB]at hc
   ·have hi':i<x.parts.length:=by omega
    have hpi:=hp.out.2 _ (zO hi');have hsucc:=zAU (f:=fun p=>yO T p.toNat) hi';have hln:=Y0 (l:=x.parts.take i) (f:=fun p=>yO T p.toNat) fun q hq=>hbd.out q (Qp hq);have hl1:=hbd.out _ (zO hi');have htk:(x.parts.take i).length<=i:=List.length_take_le _ _;obtain⟨q,hq⟩:∃ q:Nat,x.parts.getD i 0=q:=⟨(x.parts.getD i 0).toNat,by omega⟩;have hqk:q<k:=by omega
    refine go ?_;rw[hq];refine VA (ih q h3 (by omega) st3 (by omega) (fun j hj=>hlow.out j (by omega)) (hlow.out q hqk).1) ?_;rintro r h4 ⟨or,e4⟩;refine go ?_;have hdef:x.parts.getD i default=(q:Int):=hq;rw[hdef]at hsucc;simp only[QN]at hsucc;have hl2:(yO T q).length<=32:=by rw[hq]at hl1;exact hl1
    refine VO (ow.ext e4) or.sl (e23.trans e4) (by omega) ?_;intro v5 h5 e5 o5;refine go ?_;exact zA (i+1) (by omega) ⟨Wc,by omega,e5,v5,U6,by rw[hsucc];exact o5⟩
   ·have hii:i=x.parts.length:=by omega
    subst hii;rw[Qk]at ow;refine gr ?_;exact⟨ow.since e2,e2.trans e23⟩
  ·rw[QC h4,QC h5];refine go ?_;refine WO.bl [(k:Int)] ?_;intro v h3 e3 o3;refine gr ?_;exact⟨.inr (o3.since e2),e2.trans e3⟩
end Go.Proofs.YtfnndahpddkniaaGreatDoor
set_option maxRecDepth 100000
namespace Go.Proofs.YtfnndahpddkniaaGreatDoor
open Go.Am
theorem zJR:∀ (l:List (List Int×Nat)) (i:Nat) (c:Nat),i<l.length->c<(l.getD i ([],0)).1.length->
  (Yy l).1.getD (((l.take i).map fun x=>x.1.length).sum+c) 0=(((l.take i).map fun x=>(x.2:Int)).sum)+(l.getD i ([],0)).1.getD c 0
 |[],i,c,h,_=>by simp at h
 |x::l,0,c,_,hc=>by
  have hc:c<x.1.length:=hc;simp only[Q5,Gb,List.sum_nil,GC,Yy];rw[Yl hc];show x.1.getD c 0=(0:Int)+x.1.getD c 0;omega
 |x::l,i+1,c,hi,hc=>by
  have hi:i<l.length:=by simpa using hi
  have hc:c<(l.getD i ([],0)).1.length:=hc;have ih:=zJR l i c hi hc;have hlen:∀ m:List (List Int×Nat),(Yy m).1.length=(m.map fun x=>x.1.length).sum:=fun m=>by
   induction m with
   |nil=>rfl
   |cons y m ihm=>simp only[Yy,QR,Qv,Qr,Gy];omega
  have hsm:((l.take i).map fun x=>x.1.length).sum+c<(Yy l).1.length:=by
   rw[hlen];have h1:l=l.take i++(l.getD i ([],0)::l.drop (i+1)):=by
    conv=>lhs;rw[<-GN i l]
    rw[GO hi];simp[List.getD,QB hi]
   have h2:(l.map fun x=>x.1.length).sum=((l.take i).map fun x=>x.1.length).sum+((l.getD i ([],0)).1.length+((l.drop (i+1)).map fun x=>x.1.length).sum):=by
    conv=>lhs;rw[h1]
    rw[GB,G5,Qr,Gy]
   omega
  simp only[Qm,Qr,Gy,Yy];rw[Yk (by omega),show x.1.length+((l.take i).map fun x=>x.1.length).sum+c-x.1.length=((l.take i).map fun x=>x.1.length).sum+c by omega,Zx (a:=0) hsm,ih];show(x.2:Int)+_=(x.2:Int)+_+(l.getD i ([],0)).1.getD c 0;omega
theorem zMc{l:List Int}:∀ (n c:Nat),c<n*l.length->(List.replicate n l).flatten.getD c 0=l.getD (c % l.length) 0
 |0,c,h=>by simp at h
 |n+1,c,h=>by
  rw[List.replicate_succ,GR];by_cases hc:c<l.length
  ·rw[Yl hc,Nat.mod_eq_of_lt hc]
  ·rw[Yk (by omega),zMc n (c-l.length) (by rw[G4]at h;omega),<-Nat.mod_eq_sub_mod (by omega)]
theorem zPS{a b:Nat}(h:0<b):ye .rem (I (a:Int)) (I (b:Int))=some (I ((a % b:Nat):Int)):=by
 simp only[ye,I,Q0];rw[QC (by omega),Int.tmod_eq_emod_of_nonneg (by omega),Int.natCast_emod]
theorem zIr{T:List U2}{k:Nat}(hM:∀ j,j<=k->yz T j):yj T k=let x:=T.getD k default
  if x.kind=4 then Yy (x.parts.map fun p=>yj T p.toNat)else if x.kind=5 then((List.replicate x.many.toNat (yj T x.elem.toNat).1).flatten,(yj T x.elem.toNat).2)else([0],1):=YJ hM
theorem zNt(vt:Value)(T:List U2)(hT:(T.length:Int)<=1000):∀ (n k c:Nat) (h:U0),k<n->Wp h vt T->k<T.length->zCl T k->yz T k->c<(Wq T k).length->c<=1000000->
  WC Tryz.prog tb 69 [vt,I k,I c] h fun r h'=>r=I ((yj T k).1.getD c 0)/\Ext h h':=by
 intro n;induction n with
 |zero=>intro k c h hk;omega
 |succ n ih=>
  intro k c h hkn st hk hlow hM hc hcm;have hall:∀ j,j<=k->yz T j:=fun j hj=>by
   by_cases e:j=k
   ·subst e;exact hM
   ·exact(hlow j (by omega)).1
  have hof:=YI hall;have hnu:=zIr hall;have h4':=zHQ hM;have h5':=zHI hM;have hwid:∀ q,q<k->(yj T q).2=(yO T q).length/\(yj T q).1.length=(Wq T q).length/\∀ i∈(yj T q).1,0<=i/\i<((yO T q).length:Int):=fun q hq=>zBU (q+1) q (Q1 _) fun j hj=>hall j (by omega);have h32:∀ q,q<k->(yO T q).length<=32:=fun q hq=>QU (zBF (q+1) q (Q1 _) fun j hj=>hall j (by omega)) (hlow q hq).2;obtain⟨cs,⟨va,rfl,sa,hla⟩,pc,hs⟩:=yH (i:=k) st hk;rw[hnu];rw[hof]at hc;clear hof hnu;generalize T.getD k default=x at *;obtain⟨_,_,_,rfl⟩:=WW.shape sa;refine en ?_;refine VL ?_;intro p h1 e1 o1;refine go ?_;refine VH o1 e1 ?_;intro h2 e2 o2 _;have st2:=st.ext e2;have sa2:=sa.ext e2;by_cases h5:x.kind=5
  ·have hp:=h5' h5;obtain⟨q,hq⟩:∃ q:Nat,x.elem=q:=⟨x.elem.toNat,by omega⟩;have hqk:q<k:=by omega
   rw[QC (by omega),QF h5,hq,QN]at hc |-;have hw:=hwid q hqk;have hlq:=(hlow q hqk).2;have hcm':c<x.many.toNat*(yj T q).1.length:=by
    rw[hw.2.1];simpa [List.length_flatten]using hc
   have hl0:0<(Wq T q).length:=by
    rcases Nat.eq_zero_or_pos (Wq T q).length with e|e
    ·rw[hw.2.1,e]at hcm';simp at hcm'
    ·exact e
   rw[zMc _ _ hcm',hw.2.1];refine go ?_;refine VC 0 rfl rfl ?_;have o2Y:U1 h (inC (zC 0 h2)) p [.int .u8 x.kind,I x.elem,I x.many,_]:=o2;have stY:Wp (inC (zC 0 h2)) vt T:=st2;refine U9 ?_;rw[hq];refine VA (zGd vt T hT n q _ (by omega) stY (by omega) (fun j hj=>hlow j (by omega)) (hlow q hqk).1) ?_;rintro r X ⟨or,eX⟩;refine nE eX ?_;have sr:WJ (inC X) r (Wq T q):=or.sl;obtain⟨r1,r2,r3,rfl⟩:=WW.shape sr;have stX:Wp (inC X) vt T:=Wp.ext (h':=X) stY eX;have hb:ye .rem (I (c:Int)) (I ((Wq T q).length:Int))=some (I ((c % (Wq T q).length:Nat):Int)):=zPS hl0;refine U9 ?_;refine WO.bin zj zj hb ?_;refine U9 ?_;refine VA (ih q (c % (Wq T q).length) _ (by omega) stX (by omega) (fun j hj=>hlow j (by omega)) (hlow q hqk).1 (Nat.mod_lt _ hl0) (by have:=Nat.mod_le c (Wq T q).length;omega)) ?_;rintro _ Y ⟨rfl,eY⟩;refine nE eY ?_;refine U9 ?_;refine gr ?_;have e2X:Ext h2 (outC h2 X):=(zI 0 h2).trans (zV (h:=h2) eX);have e2Y:Ext h2 (outC h2 Y):=e2X.trans (zV (h:=h2) eY);exact⟨rfl,e2.trans e2Y⟩
  by_cases h4:x.kind=4
  ·have hp:=h4' h4;rw[QF h4]at hc |-;have hp8:=hp.1;have hb2:∀ p∈x.parts,(yO T p.toNat).length<=32:=fun p hpp=>by
    have:=hp.2 p hpp;exact h32 p.toNat (by omega)
   have hpw:∀ p∈x.parts,(yj T p.toNat).2=(yO T p.toNat).length/\(yj T p.toNat).1.length=(Wq T p.toNat).length:=fun p hpp=>by
    have:=hp.2 p hpp;exact⟨(hwid p.toNat (by omega)).1,(hwid p.toNat (by omega)).2.1⟩
   replace hM:=WE.mk hM;replace hall:=WE.mk hall;replace h32:=WE.mk h32;replace hlow:=WE.mk hlow;replace hwid:=WE.mk hwid;replace hp:=WE.mk hp;replace hb2:=WE.mk hb2;replace hpw:=WE.mk hpw;replace hc:=WE.mk hc;refine go ?_;refine VD (fun i=>x.parts.length-i) (fun i t h3=>zB t 9=I i/\i<=x.parts.length/\Ext h2 h3/\∃ c' a:Nat,zB t 2=I c'/\zB t 8=I a/\c'<=1000000/\a<=1000/\WE (c=((x.parts.take i).map fun p=>Wq T p.toNat).flatten.length+c'/\a=((x.parts.take i).map fun p=>yO T p.toNat).flatten.length)) 0 ?_ ?_
   ·exact⟨U6,QK _,Ext.refl _,c,0,U6,U6,hcm,by omega,⟨by simp,by simp⟩⟩
   rintro i t h3 hsame ⟨s9,hi,e23,c',a,s2,s8,hcm',ha,hcc⟩;have st3:=st2.ext e23;have sa3:=sa2.ext e23;have o3:=o2.ext e23;refine go ?_;refine VE (fun hcb=> ?_) (fun hcb=> ?_)<;>simp only[DB]at hcb
   ·have hi':i<x.parts.length:=by omega
    have hpi:=hp.out.2 _ (zO hi');obtain⟨q,hq⟩:∃ q:Nat,x.parts.getD i 0=q:=⟨(x.parts.getD i 0).toNat,by omega⟩;have hqk:q<k:=by omega
    have hl32:(Wq T q).length<=32:=(hlow.out q hqk).2;have hf32:(yO T q).length<=32:=h32.out q hqk;refine go ?_;rw[hq];refine VA (zGd vt T hT n q h3 (by omega) st3 (by omega) (fun j hj=>hlow.out j (by omega)) (hlow.out q hqk).1) ?_;rintro r h4 ⟨or,e4⟩;have sr:=or.sl;obtain⟨r1,r2,r3,rfl⟩:=WW.shape sr;have st4:=st3.ext e4;have sa4:=sa3.ext e4;have o4:=o3.ext e4;refine go ?_;refine VE (fun hlt=> ?_) (fun hlt=> ?_)<;>simp only[DB]at hlt
    ·have hlt:c'<(Wq T q).length:=by omega
     have hval:=WE.mk (zJR (x.parts.map fun p=>yj T p.toNat) i c' (by simpa using hi') (by rw[Zx (a:=0) hi',hq,QN,(hwid.out q hqk).2.1];exact hlt));have hnb:=(hwid.out q hqk).2.2 _ (zO (l:=(yj T q).1) (i:=c') (by rw[(hwid.out q hqk).2.1];exact hlt));have hsm:(yj T q).1.getD c' 0+(a:Int)=(Yy (x.parts.map fun p=>yj T p.toNat)).1.getD c 0:=by
      have hv:=hval.out;rw[Zx (a:=0) hi',hq,QN]at hv;obtain⟨hc1,ha1⟩:=hcc.out;have hs1:(((x.parts.map fun p=>yj T p.toNat).take i).map fun x=>x.1.length).sum=((x.parts.take i).map fun p=>Wq T p.toNat).flatten.length:=by
       rw[<-List.map_take,List.map_map,List.length_flatten,List.map_map];congr 1;exact Gc fun p hp=>(hpw.out p (Qp hp)).2
      have hs2:(((x.parts.map fun p=>yj T p.toNat).take i).map fun x=>(x.2:Int)).sum=(a:Int):=by
       rw[<-List.map_take,List.map_map,ha1,List.length_flatten,List.map_map];have:∀ l:List Int,(∀ p∈l,p∈x.parts)->(l.map ((fun x:List Int×Nat=>(x.2:Int))∘fun p=>yj T p.toNat)).sum=((l.map (List.length∘fun p=>yO T p.toNat)).sum:Nat):=fun l=>by
        induction l with
        |nil=>intro _;rfl
        |cons p l ihl=>
         intro hl;have h1:=ihl fun q hq=>hl q (Qq _ hq);have h2:=(hpw.out p (hl p (Qi ..))).1;simp only[Qr,Gy,Function.comp]at h1 |-;omega
       exact this _ fun p hp=>Qp hp
      rw[hs1,hs2]at hv;rw[hc1,hv];omega
     refine go ?_;rw[hq];refine VA (ih q c' h4 (by omega) st4 (by omega) (fun j hj=>hlow.out j (by omega)) (hlow.out q hqk).1 hlt (by omega)) ?_;rintro _ h5 ⟨rfl,e5⟩;generalize(yj T q).1.getD c' 0=y at *;refine gr ?_;exact⟨by rw[<-hsm,Int.add_comm];rfl,e2.trans (e23.trans (e4.trans e5))⟩
    ·have hge:(Wq T q).length<=c':=by omega
     refine go ?_;rw[hq];refine VA (zJV vt T hT n q h4 (by omega) st4 (by omega) (fun j hj=>hlow.out j (by omega)) (hlow.out q hqk).1) ?_;rintro r2 h5 ⟨or2,e5⟩;have sr2:=or2.sl;obtain⟨r1',r2',r3',rfl⟩:=WW.shape sr2;have hsucc:=zAU (f:=fun p=>Wq T p.toNat) hi';have hsucc2:=zAU (f:=fun p=>yO T p.toNat) hi';have hdef:x.parts.getD i default=(q:Int):=hq;rw[hdef]at hsucc hsucc2;simp only[QN]at hsucc hsucc2;have hcc2:c=((x.parts.take (i+1)).map fun p=>Wq T p.toNat).flatten.length+(c'-(Wq T q).length)/\a+(yO T q).length=((x.parts.take (i+1)).map fun p=>yO T p.toNat).flatten.length:=by
      rw[hsucc,hsucc2,QR,QR];have:=hcc.out;exact⟨by omega,by omega⟩
     have hln:=Y0 (l:=x.parts.take (i+1)) (f:=fun p=>yO T p.toNat) fun q hq=>hb2.out q (Qp hq);have htk:(x.parts.take (i+1)).length<=i+1:=List.length_take_le _ _;have ha2:a+(yO T q).length<=1000:=by omega
     clear hsucc hsucc2 hln;replace hcc2:=WE.mk hcc2;refine go ?_;exact zA (i+1) (by omega) ⟨Wc,by omega,e23.trans (e4.trans e5),c'-(Wq T q).length,a+(yO T q).length,by rw[Int.natCast_sub hge];exact U6,by rw[Int.natCast_add];exact U6,by omega,ha2,hcc2⟩
   ·exfalso;have hii:i=x.parts.length:=by omega
    subst hii;have hc2:=hc.out;have hcc2:=hcc.out;rw[Qk]at hcc2;omega
  ·rw[QC h4,QC h5]at hc |-;have hc0:c=0:=by simp at hc;exact hc
   subst hc0;refine gr ?_;exact⟨rfl,e2⟩
end Go.Proofs.YtfnndahpddkniaaGreatDoor
set_option maxRecDepth 100000
namespace Go.Am
theorem X0{P:Program}{tab:Wo}{t:U5 Value}{ds:List Deferred}{rd:Option Nat}{l:List (U3×List Nat)}{Q:WH->U0->Prop}{α:Type}{c b d1 d2 m N0:Nat}{cl:Bool}{R:U0->List Value->α->Prop}{hB hS X:U0}{v w:Value}{xs:List α}{cs zero:List Value}(a:α)(Dn:Nat->Prop){x y:Operand}
  (eX:Ext (Am.inC (zC 1 hS)) X) (o:OwnR c R b hS v xs) (e0:Ext hB hS) (hm:hS.mark<=hB.n) (hb:hB.n<=b) (hbn:b<=hS.n) (hc0:0<c) (hl:xs.length<=100000)
  (d:Bl R X cs a Dn) (hD:∀ k,Dn k->b<=k/\k<X.n) (hv:∀ g n k,v=.slice (some ⟨g,0,none⟩) n k->¬Dn g) (hDs:¬Dn hS.n)
  (k:∀ Y v' lit,Ext hB (outC hS Y)->OwnR c R b (outC hS Y) v' (xs++[a])->WP P tab m N0 l (hS.n+1) false ⟨(t.set d1 lit).set d2 v',ds,rd⟩ (Am.inC Y) Q)
  (hx:WB t x w:=by exact zj) (hw:w.cells=cs.toArray:=by rfl) (hc:cs.length=c:=by rfl) (h1:zK cs=true:=by rfl) (hz:zero.length=c:=by rfl) (hy:∀ u,WB (t.set d1 u) y v:=by intro u;exact zj) (hm0:m=hS.mark:=by rfl) (hne:l≠[]:=by exact List.cons_ne_nil _ _):
  WP P tab m N0 ((⟨some d1,none,.buildSlice 1 c zero [(0,c,x)]⟩,[])::(⟨some d2,none,.append c y (.tmp d1)⟩,[])::l) hS.n cl ⟨t,ds,rd⟩ (Am.inC X) Q:=by
 subst hm0;have hx:ev t x=w:=hx;have hnX:hS.n+1<=X.n:=eX.n;have hn0:=e0.n;rw[WP,QF (show Nat.beq (zH (Wn.buildSlice 1 c zero [(0,c,x)])) 3=true from rfl)];refine⟨rfl,.inl ⟨rfl,by omega,.row cs true 0,_,by simp only[yh,zw,Qr,Gb,hx,zAH hw hc hz,QI];rfl,?_⟩⟩;generalize hH1:(Am.inC (Am.inC X)).lay hS.n (.row cs true 0)=H1;have n1:H1.n=X.n:=by rw[<-hH1];rfl
 have get1:∀ c',H1.get c'=if c'=hS.n then some (.row cs true 0)else X.get c':=fun c'=>by rw[<-hH1];exact zQ _ _ _ _
 have getX:∀ k,k<hS.n->X.get k=hS.get k:=fun k hk=>eX.get k (by show k<hS.n+1;omega);have oX1:OwnR c R b (Am.inC H1) v xs:=o.upd (fun k _ hk=>by show H1.get k=_;rw[get1,QC (by omega),getX k hk]) (by show hS.n<=H1.n;omega);have d1':Bl R (Am.inC H1) cs a Dn:=d.mono (fun _ h=>h) (fun k o hd e=>by
  show H1.get k=_;rw[get1,QC (fun e2:k=hS.n=>by subst e2;exact hDs hd)];exact e) (by show X.n<=H1.n;omega)
 obtain⟨v',H2,q1,q2,q3,q4,q5,q6,q7,q8,n',k',g',q9,q10⟩:=Yw (H:=Am.inC H1) (gl:=hS.n) oX1 hc hc0 h1 hl (by show b<=H1.n;omega) d1' (fun k hd=>⟨(hD k hd).1,by have:=(hD k hd).2;show k<H1.n;omega⟩) hv (QE _) (by show hS.n<H1.n;omega) (fun _ _=>rfl) (by show H1.get hS.n=_;rw[get1,QF rfl]);rw[WP,QC (show ¬Nat.beq (zH (Wn.append c y (.tmp d1))) 3=true from Bool.noConfusion)];have hyv:ev (t.set d1 (.slice (some ⟨hS.n,0,none⟩) 1 c)) y=v:=hy _;have e1:ev (t.set d1 (.slice (some ⟨hS.n,0,none⟩) 1 c)) (.tmp d1)=.slice (some ⟨hS.n,0,none⟩) 1 c:=by simp only[ev,ze,Q0]
 refine WO.op v' H2 rfl (by simp only[U8,hyv,e1,q1]) ?_;have h2n:H2.n=X.n+1:=by rw[q3];show H1.n+1=_;omega
 refine WO.nil ⟨⟨fun c' hc'=> ?_,by show H1.n<=H2.n;omega,.inl rfl⟩,?_⟩
 ·rcases q6 c' hc' with h|h
  ·cases h
  ·omega
 have hvB:∀ k,k<hB.n->∀ n k',v≠ .slice (some ⟨k,0,none⟩) n k':=fun k hk n k' e=>by
  rcases o with⟨e2,_⟩|⟨g,_,_,g1,_,e2,_⟩
  ·rw[e2]at e;cases e
  ·rw[e2]at e;cases e;omega
 have fin:=k H2 v' (.slice (some ⟨hS.n,0,none⟩) 1 c) ⟨by show hB.n<=H2.n;omega,fun k hk=>by
   show H2.get k=_;rw[q4 k (by show k<H1.n;omega) (hvB k hk)];show H1.get k=_;rw[get1,QC (by omega),getX k (by omega)];exact e0.get k hk,fun w k hk=>by
   have hk:H2.n<=k:=hk;refine q8 (fun k2 hk2=> ?_) k (by omega);have hk2:H1.n<=k2:=hk2;show H1.get k2=_;rw[get1,QC (by omega)];exact eX.wf (fun k3 hk3=>e0.wf w k3 (by have:hS.n+1<=k3:=hk3;omega)) k2 (by omega),e0.mark,fun hmk=>e0.wr hmk⟩ q2
 cases l with
 |nil=>exact absurd rfl hne
 |cons z l=>
  obtain⟨z1,z2⟩:=z;simp only[WP,Qf]at fin |-;exact fin
end Go.Am
namespace Go.Proofs.YtfnndahpddkniaaGreatDoor
open Go.Am
theorem En.as{h:U0}{vt vf:Value}{T:List U2}{F:List WM}(n:Nat)(E:En h vt vf T F):En (Am.inC (zC n h)) vt vf T F:=by
 have E':=E.ext (zI n h);exact⟨E'.tt,QE _,E'.sm,E'.si,E'.st,E'.sf⟩
theorem zLN(h:U0)(vt vf:Value)(T:List U2)(F:List WM)(E:En h vt vf T F)(hsig:∀ g∈F,0<=g.sig/\g.sig<(T.length:Int))(hmy:∀ g∈F,zN g.blocks<=128)(hF:F.length<=8)
  (hty:∀ g∈F,∀ B∈g.blocks,∀ x∈B.ins,ZU x=true->0<=x.ty/\x.ty<(T.length:Int)):
  WC Tryz.prog tb 40 [.agg #[vt,vf]] h fun r h'=>OwnR 3 RSt h.n h' r (zc T F)/\Ext h h':=by
 have hslen:∀ i,(y8 T 0 (F.take i)).length<=1024:=fun i=>by
  have:=zAg (T:=T) (l:=F.take i) (f:=0) fun g hg=>hmy g (Qp hg);have h2:(F.take i).length<=F.length:=by rw[Qj];omega
  omega
 have sm:=E.sm;have hF':=sm.funcs;replace hslen:=WE.mk hslen;replace hsig:=WE.mk hsig;replace hmy:=WE.mk hmy;replace hty:=WE.mk hty;have st0:=E.st;have sf0:=E.sf;obtain⟨t1,t2,t3,rfl⟩:=zD st0;obtain⟨f1,f2,f3,rfl⟩:=zD sf0;refine en ?_;refine VF ?_;intro p h1 e1 o1;replace o1:U1 h h1 p [.slice t1 t2 t3,.slice f1 f2 f3]:=o1;have E1:=E.ext e1;have sf1:=E1.sf;have hm1:=E1.hm;refine go ?_;refine VD (fun i=>F.length-i) (fun i t h2=>zB t 4=I i/\i<=F.length/\Ext h1 h2/\∃ v,zB t 3=v/\OwnR 3 RSt h1.n h2 v (y8 T 0 (F.take i))) 0 ?_ ?_
 ·exact⟨U6,QK _,Ext.refl _,.slice none 0 0,U6,.inl ⟨rfl,rfl⟩⟩
 rintro i t h2 hsame ⟨s4,hi,e2,v,s3,ov⟩;have o2:=o1.ext e2;have E2:=E1.ext e2;have sf2:=E2.sf;refine go ?_;refine VE (fun hb=> ?_) (fun hb=> ?_)<;>simp only[DB]at hb
 ·have hi':i<F.length:=by omega
  have hgm:=zG (l:=F) (i:=i) hi';obtain⟨cs,⟨vb,rfl,sb,hlb⟩,px,hs⟩:=zW (i:=i) sf1 hi';have hsg:=hsig.out _ hgm;have hbl:=sm.blocks _ hgm;have hpl:=sm.parts _ (zG (l:=T) (i:=(F.getD i default).sig.toNat) (by omega));have hsn:y8 T 0 (F.take (i+1))=y8 T 0 (F.take i)++yq T i ((T.getD (F.getD i default).sig.toNat default).parts.length:Int) (F.getD i default).blocks:=by
   rw[YM hi',zAw,Qj,Ge (by omega),Int.zero_add]
  have hinl:=sm.ins _ hgm;have htyg:=hty.out _ hgm;have hmyg:=hmy.out _ hgm;replace hinl:=WE.mk hinl;replace htyg:=WE.mk htyg;generalize hg:F.getD i default=g at *;replace hg:=WE.mk hg;obtain⟨b1,b2,b3,rfl⟩:=zD sb;refine go ?_;refine VD (fun j=>g.blocks.length-j) (fun j t h5=>zB t 5=I j/\j<=g.blocks.length/\Ext h1 h5/\∃ v,zB t 3=v/\OwnR 3 RSt h1.n h5 v (y8 T 0 (F.take i)++yq T i ((T.getD g.sig.toNat default).parts.length:Int) (g.blocks.take j))) 0 ?_ ?_
  ·exact⟨U6,QK _,e2,v,U6,by simpa [yq]using ov⟩
  rintro j t' h5 hsame' ⟨s5,hj,e5,v',s3',ov'⟩;have o5:=o1.ext e5;have pc:=(px _ e5).1;have sf5:=Wd.ext sf1 e5;have sb5:=Wi.ext sb e5;refine go ?_;refine VE (fun hb'=> ?_) (fun hb'=> ?_)<;>simp only[DB]at hb'
  ·have hj':j<g.blocks.length:=by omega
   have hBm:=zG (l:=g.blocks) (i:=j) hj';obtain⟨csB,⟨vi,rfl,si,hli⟩,pxB,hsB⟩:=zW (i:=j) sb hj';have pcB:=(pxB _ e5).1;have hil:=hinl.out _ hBm;have hsnB:yq T i ((T.getD g.sig.toNat default).parts.length:Int) (g.blocks.take (j+1))=yq T i ((T.getD g.sig.toNat default).parts.length:Int) (g.blocks.take j)++ZF T i ((T.getD g.sig.toNat default).parts.length+zN (g.blocks.take j)) (g.blocks.getD j default).ins:=by
    rw[YM hj',zA3]
   have hm0:0<=zN (g.blocks.take j)/\zN (g.blocks.take j)<=128:=by
    have:=zFF g.blocks j;omega
   have hsB:=zAp (T:=T) (f:=(i:Int)) (l:=g.blocks.take j) (n:=((T.getD g.sig.toNat default).parts.length:Int));have htyB:=htyg.out _ hBm;replace htyB:=WE.mk htyB;generalize g.blocks.getD j default=B at *;obtain⟨i1,i2,i3,rfl⟩:=zD si;refine go ?_;refine VD (fun q=>B.ins.length-q) (fun q t h8=>zB t 7=I q/\q<=B.ins.length/\Ext h1 h8/\∃ v,zB t 3=v/\OwnR 3 RSt h1.n h8 v (y8 T 0 (F.take i)++yq T i ((T.getD g.sig.toNat default).parts.length:Int) (g.blocks.take j)++ZF T i ((T.getD g.sig.toNat default).parts.length+zN (g.blocks.take j)) (B.ins.take q))) 0 ?_ ?_
   ·exact⟨U6,QK _,e5,v',U6,by simpa [ZF]using ov'⟩
   rintro q t'' h8 hsame'' ⟨s7,hq,e8,v'',s3'',ov''⟩;have o8:=o1.ext e8;have si8:=BB.ext si e8;refine go ?_;refine VE (fun hb''=> ?_) (fun hb''=> ?_)<;>simp only[DB]at hb''
   ·have hq':q<B.ins.length:=by omega
    have hxm:=zG (l:=B.ins) (i:=q) hq';obtain⟨csX,⟨xa,xf,rfl,sxa,sxf,hxa,hxf,ho⟩,pxX,hsX⟩:=zW (i:=q) si hq';have pcX:=(pxX _ e8).1;have hsnI:∀ n:Int,ZF T i n (B.ins.take (q+1))=ZF T i n (B.ins.take q)++(if ZU (B.ins.getD q default)then[⟨i,n+q,(T.getD (B.ins.getD q default).ty.toNat default).elem⟩]else[]):=fun n=>by
     rw[YM hq',zBI,Qj,Ge (by omega)]
    have htyx:=htyB.out _ hxm;have hmk:ZU (B.ins.getD q default)=(decide ((B.ins.getD q default).op=11)||decide ((B.ins.getD q default).op=12)):=rfl;generalize B.ins.getD q default=x at *;by_cases hor:x.op=11\/x.op=12
    ·have hmk1:ZU x=true:=by rw[hmk];simpa using hor
     have hx:=htyx hmk1;have st8:=(E1.ext e8).st;obtain⟨csT,⟨ya,rfl,sya,hya⟩,pxT,hsT⟩:=zW (i:=x.ty.toNat) st8 (by omega);obtain⟨bT,nT,kT,eT,lT⟩:=YG st8 (i:=x.ty.toNat) (by omega);obtain⟨bI,nI,kI,eI,lI⟩:=YG si8 hq';have E8:=E1.ext e8;have EY:=E8.as 1;have o8Y:U1 h (inC (zC 1 h8)) p [.slice t1 t2 t3,.slice f1 f2 f3]:=VG (o8.ext (zI 1 h8));have hsI:=zAe (T:=T) (f:=(i:Int)) (l:=B.ins.take q) (n:=(T.getD g.sig.toNat default).parts.length+zN (g.blocks.take j));have hlq:(B.ins.take q).length<=q:=List.length_take_le _ _;have hsi:=hslen.out i;have hm8:h8.mark<=h1.n:=by rw[e8.mark];exact hm1
     rcases hor with h11|h12;all_goals
      refine go ?_
      refine VC 1 rfl rfl ?_
      refine U9 ?_
      refine VA (zDw _ _ _ T F i q j EY (by omega) (by rw[QN,hg.out];exact hsg) (by rw[QN,hg.out];exact hj') (by omega)) ?_
      rintro r X ⟨hr,eX⟩
      rw[QN,hg.out]at hr
      subst hr
      refine nE eX ?_
      have e8X:Ext h8 (outC h8 X):=(zI 1 h8).trans (zV (h:=h8) eX)
      have o8X:U1 h (inC X) p [.slice t1 t2 t3,.slice f1 f2 f3]:=U1.ext (h':=X) o8Y eX
      have siX:BB (inC X) (.slice i1 i2 i3) B.ins:=BB.ext (h':=outC h8 X) si8 e8X
      have stX:Wp (inC X) (.slice t1 t2 t3) T:=Wp.ext (h':=outC h8 X) st8 e8X
      have pcIX:We (inC X) (.slice i1 i2 i3) (q*7) _:=(pxX _ (e8.trans e8X)).2
      have pcTX:We (inC X) (.slice t1 t2 t3) (x.ty.toNat*4) _:=(pxT _ e8X).2
      refine U9 ?_
      refine Ym (j:=0) o8 (GU _) ?_
      refine U9 ?_
      refine zFq (v:= .slice i1 i2 i3) (j:=q*7+1) ⟨bI,nI,kI,eI,Nat.lt_succ_of_lt lI⟩ ?_
      refine U9 ?_
      refine zFq (v:= .slice t1 t2 t3) (j:=x.ty.toNat*4+1) ⟨bT,nT,kT,eT,Nat.lt_succ_of_lt lT⟩ ?_
      refine U9 ?_
      refine X0 (hB:=h1) (b:=h1.n) (⟨i,(T.getD g.sig.toNat default).parts.length+zN (g.blocks.take j)+q,(T.getD x.ty.toNat default).elem⟩:Wv) (fun _=>False) eX ov'' e8 hm8 (QE _) e8.n (by decide) (by simp only[QR];omega) (fun _ _ _=>rfl) (fun _ h=>h.elim) (fun _ _ _ _ h=>h) (fun h=>h) ?_
      intro Y v12 lit e12 o12
      refine U9 ?_
      exact zA (q+1) (by omega) ⟨Wc,by omega,e12,v12,U6,by rw[hsnI,hmk1,QF rfl,<-Ql];exact o12⟩
    ·have hmk0:ZU x=false:=by rw[hmk];simpa using hor
     have h11:¬x.op=11:=fun e=>hor (.inl e);have h12:¬x.op=12:=fun e=>hor (.inr e);refine go ?_;refine zA (q+1) (by omega) ⟨Wc,by omega,e8,v'',U6,?_⟩;rw[hsnI,hmk0];simpa using ov''
   ·have hqq:q=B.ins.length:=by omega
    subst hqq;rw[Qk]at ov'';refine go ?_;refine zA (j+1) (by omega) ⟨Wc,by omega,e8,v'',U6,?_⟩;rw[hsnB,<-Ql];exact ov''
  ·have hjj:j=g.blocks.length:=by omega
   subst hjj;rw[Qk]at ov';refine go ?_;refine zA (i+1) (by omega) ⟨Wc,by omega,e5,v',U6,?_⟩;rw[hsn];exact ov'
 ·have hii:i=F.length:=by omega
  subst hii;rw[Qk]at ov;refine gr ?_;exact⟨ov.base e1.n,e1.trans e2⟩
end Go.Proofs.YtfnndahpddkniaaGreatDoor
set_option maxRecDepth 100000
namespace Go.Proofs.YtfnndahpddkniaaGreatDoor
open Go.Am
section
variable {h:U0}{vt vf:Value}{T:List U2}{F:List WM}
theorem UV{X:U0}(E:En X vt vf T F):En (Am.inC X) vt vf T F:=⟨E.tt,QE _,E.sm,E.si,E.st,E.sf⟩
theorem zJL(E:En h vt vf T F)(hs:yS T F=0):WC Tryz.prog tb 40 [.agg #[vt,vf]] h fun r h'=>OwnR 3 RSt h.n h' r (zc T F)/\Ext h h':=by
 obtain⟨hp,hw⟩:=yw hs;obtain⟨hc,hF1,hF8,hfn⟩:=yX hp;have hg:∀ g∈F,(0<=g.sig/\g.sig<(T.length:Int))/\zN g.blocks<=128:=fun g hg=>by
  obtain⟨i,hi,rfl⟩:=Zb hg;have Z:=zGl hp (f:=(i:Int)) (by omega);have h1:=Z.sig;have h2:=Z.many;unfold zJ at h2;rw[QN]at h1 h2;exact⟨h1,h2⟩
 refine zLN h vt vf T F E (fun g q=>(hg g q).1) (fun g q=>(hg g q).2) hF8 fun g hg B hB x hx hm=> ?_;obtain⟨f,hf,rfl⟩:=Zb hg;obtain⟨b,hb,rfl⟩:=Zb hB;obtain⟨i,hi,rfl⟩:=Zb hx;have:=zGW hs hf hb hi hm;refine this.2.resolve_left fun e=> ?_;have h1:=this.1;unfold Wh at h1;rw[e]at h1;cases h1
theorem zNd(E:En h vt vf T F):WC Tryz.prog tb 50 [.agg #[vt,vf]] h fun r h'=>r=I (zC7 F)/\Ext h h':=by
 obtain⟨f1,f2,f3,rfl⟩:=zD E.sf;have hF:=E.sm.funcs;refine en ?_;refine VF ?_;intro p h1 e1 o1;replace o1:U1 h h1 p [vt,.slice f1 f2 f3]:=o1;have sf1:=(E.ext e1).sf;refine gr ?_;exact⟨rfl,e1⟩
theorem zIN(E:En h vt vf T F)(hs:yS T F=0){vS:Value}(sS:Bk h vS (zc T F))(n:Nat)(hn:n<=(zc T F).length):WC Tryz.prog tb 48 [.agg #[vt,vf],vS,I n] h fun r h'=>r=I ((zy T F).take n).sum/\Ext h h':=by
 have hcc:=(yX (yw hs).1).1;have hl:=zBu hcc;have hsty:=Yj hs;have hsl:=YK hs;have hT:=E.sm.types;have hfb:∀ y∈zy T F,0<=y/\y<=1000:=fun y hy=>by
  unfold zy at hy;obtain⟨s,hs,rfl⟩:=Q8.1 hy;have:=hsty s hs;have h1:=zBF (T:=T) (s.ty.toNat+1) s.ty.toNat (Q1 _) fun j hj=>(hl j (by omega)).1;have h2:=(hl s.ty.toNat (by omega)).2;omega
 have hfl:(zy T F).length=(zc T F).length:=by unfold zy;simp
 obtain⟨t1,t2,t3,rfl⟩:=zD E.st;obtain⟨s1,s2,s3,rfl⟩:=zD sS;replace hl:=WE.mk hl;replace hsty:=WE.mk hsty;replace hfb:=WE.mk hfb;refine en ?_;refine VF ?_;intro p h1 e1 o1;replace o1:U1 h h1 p [.slice t1 t2 t3,vf]:=o1;have sS1:=Bk.ext sS e1;refine go ?_;refine VD (fun i=>n-i) (fun i t h2=>zB t 8=I i/\i<=n/\Ext h1 h2/\zB t 7=I ((zy T F).take i).sum) 0 ?_ ?_
 ·exact⟨U6,QK _,Ext.refl _,U6⟩
 rintro i t h2 hsame ⟨s8,hi,e2,s7⟩;have hsb:=zCk (l:=(zy T F).take i) fun y hy=>hfb.out y (Qp hy);have hli:((zy T F).take i).length<=i:=List.length_take_le _ _;refine go ?_;refine VE (fun hc=> ?_) (fun hc=> ?_)<;>simp only[DB]at hc
 ·have hi':i<n:=by omega
  have hx:=hfb.out _ (zO (l:=zy T F) (i:=i) (by omega));have hsum:((zy T F).take (i+1)).sum=((zy T F).take i).sum+(zy T F).getD i 0:=by
   rw[Q4,QB (by omega),G5];simp[List.getD,QB (show i<(zy T F).length by omega)]
  have hty:=hsty.out _ (zG (l:=zc T F) (i:=i) (by omega));have hfi:(zy T F).getD i 0=((yO T ((zc T F).getD i default).ty.toNat).length:Int):=by
   unfold zy;rw[Zx (a:=default) (by omega)]
  have e12:=e1.trans e2;have o2:=o1.ext e2;refine go ?_;refine VC 0 rfl rfl ?_;have o2Y:U1 h (inC (zC 0 h2)) p [.slice t1 t2 t3,vf]:=o2;have stY:Wp (inC (zC 0 h2)) (.slice t1 t2 t3) T:=(E.ext e12).st;have sSY:Bk (inC (zC 0 h2)) (.slice s1 s2 s3) (zc T F):=Bk.ext (h':=h2) sS e12;obtain⟨csS,hRS,pcS,hsS⟩:=zb (i:=i) sSY (by omega);generalize(zc T F).getD i default=x at *;have hRS:csS=[I x.fn,I x.nr,I x.ty]:=hRS;subst hRS;obtain⟨k,hk⟩:∃ k:Nat,x.ty=k:=⟨x.ty.toNat,by omega⟩;rw[hk]at hty pcS;rw[hk,QN]at hfi;refine U9 ?_;refine VA (zJV _ T (by omega) (k+1) k _ (by omega) stY (by omega) (fun j hj=>hl.out j (by omega)) (hl.out k (by omega)).1) ?_;rintro r X ⟨or,eX⟩;refine nE eX ?_;have sr:WJ (inC X) r (yO T k):=or.sl;obtain⟨r1,r2,r3,rfl⟩:=WW.shape sr;have eq2:=(zI 0 h2).trans (zV (h:=h2) eX);refine U9 ?_;refine zA (i+1) (by omega) ⟨Wc,by omega,e2.trans eq2,?_⟩;rw[hsum,hfi];exact U6
 ·have hii:i=n:=by omega
  subst hii;refine gr ?_;exact⟨rfl,e1.trans e2⟩
noncomputable def zFb(T:List U2)(F:List WM)(M:List Ba)(v:BW):Int:=
 if v.kind=3 then v.n else if v.block=0 then 0 else zC7 F+(((zy T F).take (M.getD (v.block-1).toNat default).site.toNat).sum+(yj T ((zc T F).getD (M.getD (v.block-1).toNat default).site.toNat default).ty.toNat).1.getD v.pos.toNat 0)
theorem zDl(E:En h vt vf T F)(hs:yS T F=0){vS vm:Value}(sS:Bk h vS (zc T F)){M:List Ba}(sM:Wk h vm M)(hM:M.length<=1000)(v:BW)
  (hok:v.kind=3\/v.block=0\/(1<=v.block/\v.block<=(M.length:Int))/\(0<=(M.getD (v.block-1).toNat default).site/\(M.getD (v.block-1).toNat default).site<((zc T F).length:Int))/\0<=v.pos/\v.pos<((Wq T ((zc T F).getD (M.getD (v.block-1).toNat default).site.toNat default).ty.toNat).length:Int)):
  WC Tryz.prog tb 42 [.agg #[vt,vf],vS,vm,.agg #[.int .u8 v.kind,I v.n,I v.block,I v.pos]] h fun r h'=>r=I (zFb T F M v)/\Ext h h':=by
 have hcc:=(yX (yw hs).1).1;have hl:=zBu hcc;have hsty:=Yj hs;have hsl:=YK hs;have hT:=E.sm.types;have hF:=E.sm.funcs;unfold zFb;obtain⟨t1,t2,t3,rfl⟩:=zD E.st;obtain⟨s1,s2,s3,rfl⟩:=zD sS;obtain⟨m1,m2,m3,rfl⟩:=zD sM;refine en ?_;refine VF ?_;intro p h1 e1 o1;replace o1:U1 h h1 p [.slice t1 t2 t3,vf]:=o1;refine go ?_;refine VF ?_;intro p7 h2 e2 o2;replace o2:U1 h1 h2 p7 [.int .u8 v.kind,I v.n,I v.block,I v.pos]:=o2;have e02:=e1.trans e2;by_cases k3:v.kind=3
 ·rw[QF k3];refine gr ?_;exact⟨rfl,e02⟩
 rw[QC k3];by_cases b0:v.block=0
 ·rw[QF b0];refine gr ?_;exact⟨rfl,e02⟩
 rw[QC b0];obtain⟨hb,hst,hpo⟩:=(hok.resolve_left k3).resolve_left b0;have sM2:Wk h2 (.slice m1 m2 m3) M:=Wk.ext sM e02;obtain⟨csM,⟨vc,rfl,sc,hlc⟩,pcM,hsM⟩:=zb (i:=(v.block-1).toNat) sM2 (by omega);generalize M.getD (v.block-1).toNat default=b at *;obtain⟨c1,c2,c3,rfl⟩:=zD sc;have hty:=hsty _ (zG (l:=zc T F) (i:=b.site.toNat) (by omega));replace hl:=WE.mk hl;replace hsty:=WE.mk hsty;refine go ?_;refine VL ?_;intro p9 h3 e3 o3;refine go ?_;refine VH o3 e3 ?_;intro h4 e4 o4 _;have e24:=e4;have o14:=(o1.ext e2).ext e4;have o24:=o2.ext e4;have e04:=e02.trans e4;have E4:=E.ext e04;have sS4:Bk h4 (.slice s1 s2 s3) (zc T F):=Bk.ext sS e04;refine go ?_;refine VC 0 rfl rfl ?_;have o1Y:U1 h (inC (zC 0 h4)) p [.slice t1 t2 t3,vf]:=o14;refine U9 ?_;refine VA (zNd (E4.as 0)) ?_;rintro _ X ⟨rfl,eX⟩;refine nE eX ?_;have o1X:U1 h (inC X) p [.slice t1 t2 t3,vf]:=U1.ext (h':=X) o1Y eX;have o4X:U1 h2 (inC X) p9 [I b.site,I b.ty,I b.depth,.bool b.alive,.slice c1 c2 c3]:=U1.ext (h':=X) (VG (o4.ext (zI 0 h4))) eX;have o2X:U1 h1 (inC X) p7 [.int .u8 v.kind,I v.n,I v.block,I v.pos]:=U1.ext (h':=X) (VG (o24.ext (zI 0 h4))) eX;have EX:En (inC X) (.slice t1 t2 t3) vf T F:=UV ((E4.as 0).ext eX);have sSX:Bk (inC X) (.slice s1 s2 s3) (zc T F):=Bk.ext (h':=X) (show Bk (inC (zC 0 h4)) _ _ from sS4) eX;have e4X:Ext h4 (outC h4 X):=(zI 0 h4).trans (zV (h:=h4) eX);obtain⟨sn,hsn⟩:∃ k:Nat,b.site=k:=⟨b.site.toNat,by omega⟩;refine U9 ?_;refine zMZ o14 (QE _) ?_;refine U9 ?_;refine Ym (j:=0) o4 (QE _) ?_;rw[hsn]at o4X;refine U9 ?_;rw[hsn,QN]at hpo hty;rw[hsn,QN];refine VA (zIN EX hs sSX sn (by omega)) ?_;rintro _ Y ⟨rfl,eY⟩;refine nE eY ?_;have o1Z:U1 h (inC Y) p [.slice t1 t2 t3,vf]:=U1.ext (h':=Y) o1X eY;have o4Z:U1 h2 (inC Y) p9 [I (sn:Int),I b.ty,I b.depth,.bool b.alive,.slice c1 c2 c3]:=U1.ext (h':=Y) o4X eY;have o2Z:U1 h1 (inC Y) p7 [.int .u8 v.kind,I v.n,I v.block,I v.pos]:=U1.ext (h':=Y) o2X eY;have EZ:En (inC Y) (.slice t1 t2 t3) vf T F:=UV (EX.ext eY);have sSZ:Bk (inC Y) (.slice s1 s2 s3) (zc T F):=Bk.ext (h':=Y) sSX eY;have e4Y:Ext h4 (outC h4 Y):=e4X.trans (zV (h:=h4) eY);obtain⟨csS,hRS,pcS,hsS⟩:=zb (i:=sn) sSZ (by omega);obtain⟨bS,nS,kS,eS,lS⟩:=YG sS4 (i:=sn) (by omega);have hfb:∀ y∈(zy T F).take sn,0<=y/\y<=1000:=fun y hy=>by
  have hy:=Qp hy;unfold zy at hy;obtain⟨s,hs,rfl⟩:=Q8.1 hy;have:=hsty.out s hs;have h1:=zBF (T:=T) (s.ty.toNat+1) s.ty.toNat (Q1 _) fun j hj=>(hl.out j (by omega)).1;have h2:=(hl.out s.ty.toNat (by omega)).2;omega
 have hsb:=zCk hfb;have hlt:((zy T F).take sn).length<=sn:=List.length_take_le _ _;have hob:1<=zC7 F/\zC7 F<=10000:=by unfold zC7;omega
 rw[hsn]at o4;generalize(zc T F).getD sn default=x at *;have hRS:csS=[I x.fn,I x.nr,I x.ty]:=hRS;subst hRS;have hw:=zBU (x.ty.toNat+1) x.ty.toNat (Q1 _) fun j hj=>(hl.out j (by omega)).1;have hnb:=hw.2.2 _ (zO (l:=(yj T x.ty.toNat).1) (i:=v.pos.toNat) (by rw[hw.2.1];omega));have h32:=(hl.out x.ty.toNat (by omega)).2;have hfd:=zBF (T:=T) (x.ty.toNat+1) x.ty.toNat (Q1 _) fun j hj=>(hl.out j (by omega)).1;obtain⟨k,hk⟩:∃ k:Nat,x.ty=k:=⟨x.ty.toNat,by omega⟩;obtain⟨c,hc⟩:∃ k:Nat,v.pos=k:=⟨v.pos.toNat,by omega⟩;rw[hk,QN]at hpo hnb h32 hfd;rw[hk]at hty pcS;rw[hc,QN]at hnb;rw[hk,hc,QN,QN];generalize((zy T F).take sn).sum=S at *;replace hw:=WE.mk hw;refine U9 ?_;refine Ym (j:=0) o14 (QE _) ?_;refine U9 ?_;refine Ym (j:=0) o4 (QE _) ?_;refine U9 ?_;refine zFq (v:= .slice s1 s2 s3) (j:=sn*3+2) ⟨bS,nS,kS,eS,lS⟩ ?_;refine U9 ?_;refine Ym (j:=3) o24 (QE _) ?_;refine U9 ?_;rw[hc];refine VA (zNt _ T (by omega) (k+1) k c _ (by omega) EZ.st (by omega) (fun j hj=>hl.out j (by omega)) (hl.out k (by omega)).1 (by omega) (by omega)) ?_;rintro _ Z ⟨rfl,eZ⟩;refine nE eZ ?_;have e4Z:Ext h4 (outC h4 Z):=e4Y.trans (zV (h:=h4) eZ);generalize(yj T k).1.getD c 0=y at *;refine U9 ?_;refine gr ?_;exact⟨by rw[<-Int.add_assoc];rfl,e04.trans e4Z⟩
end
end Go.Proofs.YtfnndahpddkniaaGreatDoor
set_option maxRecDepth 100000
namespace Go.Proofs.YtfnndahpddkniaaGreatDoor
open Go.Am
section
variable {h:U0}{vt vf:Value}{T:List U2}{F:List WM}
theorem zKl(E:En h vt vf T F){vm:Value}{M:List Ba}(sM:Wk h vm M)(hM:M.length<=1000)(v:BW):
  WC Tryz.prog tb 13 [.agg #[vt,vf],vm,.agg #[.int .u8 v.kind,I v.n,I v.block,I v.pos]] h fun r h'=>r=.tuple #[I (zA7 T F M v).1,I (zA7 T F M v).2]/\Ext h h':=by
 have hF:=E.sm.funcs;have hT:=E.sm.types;unfold zA7;obtain⟨t1,t2,t3,rfl⟩:=zD E.st;obtain⟨f1,f2,f3,rfl⟩:=zD E.sf;obtain⟨m1,m2,m3,rfl⟩:=zD sM;refine en ?_;refine VF ?_;intro p h1 e1 o1;replace o1:U1 h h1 p [.slice t1 t2 t3,.slice f1 f2 f3]:=o1;refine go ?_;refine VF ?_;intro p5 h2 e2 o2;replace o2:U1 h1 h2 p5 [.int .u8 v.kind,I v.n,I v.block,I v.pos]:=o2;have o12:=o1.ext e2;have e02:=e1.trans e2;refine go ?_;refine VA (zHg h2 (E.ext e02)) ?_;rintro _ h3 ⟨rfl,e3⟩;have o23:=o2.ext e3;have o13:=o12.ext e3;have e03:=e02.trans e3;by_cases hs:yS T F=0;case neg=>
  have hs':yS T F≠0:=hs;rw[QF hs];refine gr ?_;exact⟨rfl,e03⟩
 rw[QC (fun e=>e hs),hs];have hcc:=(yX (yw hs).1).1;have hl:=zBu hcc;have hsty:=Yj hs;have hsl:=YK hs;by_cases kk:v.kind≠3/\v.kind≠2
 ·rw[QC (by omega),QC (by omega),QF kk];refine gr ?_;exact⟨rfl,e03⟩
 have E3:=E.ext e03;have fin:∀ (w:Int×Int),True:=fun _=>trivial;by_cases k3:v.kind=3
 ·refine go ?_;refine VA (zJL E3 hs) ?_;rintro v9 h4 ⟨oS,e4⟩;have o24:=o23.ext e4;have o14:=o13.ext e4;have e04:=e03.trans e4;have sS:Bk h4 v9 (zc T F):=oS.sl;have sM4:Wk h4 (.slice m1 m2 m3) M:=Wk.ext sM e04;have sf4:=(E.ext e04).sf;obtain⟨s1,s2,s3,rfl⟩:=zD sS;by_cases hn:0<=v.n/\v.n<=(F.length:Int)
  ·rw[QF ⟨k3,hn⟩];refine go ?_;refine VA (zDl (E.ext e04) hs sS sM4 hM v (.inl k3)) ?_;rintro _ h5 ⟨rfl,e5⟩;refine gr ?_;exact⟨by unfold zFb;rw[QF k3];rfl,e04.trans e5⟩
  ·rw[QC (fun q=>hn q.2),QC (by omega),QC (by omega),QF (.inl k3)];by_cases n0:v.n<0
   ·refine gr ?_;exact⟨rfl,e04⟩
   ·have n1:(F.length:Int)<v.n:=by omega
    refine gr ?_;exact⟨rfl,e04⟩
 have k2:v.kind=2:=by omega
 rw[QC (fun q=>k3 q.1)];refine go ?_;refine VA (zJL E3 hs) ?_;rintro v9 h4 ⟨oS,e4⟩;have o24:=o23.ext e4;have o14:=o13.ext e4;have e04:=e03.trans e4;have E4:=E.ext e04;have sS:Bk h4 v9 (zc T F):=oS.sl;have sM4:Wk h4 (.slice m1 m2 m3) M:=Wk.ext sM e04;obtain⟨s1,s2,s3,rfl⟩:=zD sS;by_cases b0:v.block=0
 ·rw[QF ⟨k2,b0⟩];refine go ?_;refine VA (zDl E4 hs sS sM4 hM v (.inr (.inl b0))) ?_;rintro _ h5 ⟨rfl,e5⟩;refine gr ?_;exact⟨by unfold zFb;rw[QC k3,QF b0];rfl,e04.trans e5⟩
 rw[QC (fun q=>b0 q.2),QC (fun q=>q.2 k2)];have o2Y:U1 h1 (inC (zC 0 h4)) p5 [.int .u8 v.kind,I v.n,I v.block,I v.pos]:=o24;have o1Y:U1 h (inC (zC 0 h4)) p [.slice t1 t2 t3,.slice f1 f2 f3]:=o14;have sMY:Wk (inC (zC 0 h4)) (.slice m1 m2 m3) M:=sM4;have sSY:Bk (inC (zC 0 h4)) (.slice s1 s2 s3) (zc T F):=sS;have stY:Wp (inC (zC 0 h4)) (.slice t1 t2 t3) T:=E4.st;refine go ?_;refine VC 0 rfl rfl ?_;by_cases hb:1<=v.block/\v.block<=(M.length:Int);case neg=>
  rw[QF (.inr (.inl hb))];by_cases b1:v.block<0
  ·refine U9 ?_;refine zBJ ZT ?_;refine U9 ?_;rw[Z4];refine gr ?_;exact⟨rfl,e04⟩
  ·have b2:(M.length:Int)<v.block:=by omega
   refine U9 ?_;refine zBJ ZT ?_;refine U9 ?_;rw[Z4];refine gr ?_;exact⟨rfl,e04⟩
 obtain⟨csM,⟨vc,rfl,sc,hlc⟩,pcM,hsM⟩:=zb (i:=(v.block-1).toNat) sMY (by omega);have hok:=fun(h5:U0) (E5:En h5 (.slice t1 t2 t3) (.slice f1 f2 f3) T F) (sS5:Bk h5 (.slice s1 s2 s3) (zc T F)) (sM5:Wk h5 (.slice m1 m2 m3) M) q1 q2=>zDl E5 hs sS5 sM5 hM v (.inr (.inr ⟨hb,q1,q2⟩));have hel:zFb T F M v=_:=(by unfold zFb;rw[QC k3,QC b0]);replace hok:=WE.mk hok;replace hel:=WE.mk hel;generalize M.getD (v.block-1).toNat default=b at *;obtain⟨c1,c2,c3,rfl⟩:=zD sc;by_cases hst:0<=b.site/\b.site<((zc T F).length:Int);case neg=>
  rw[QF (.inr (.inr hst))];by_cases b1:b.site<0
  ·refine U9 ?_;refine zBJ ZT ?_;refine U9 ?_;rw[Z4];refine gr ?_;exact⟨rfl,e04⟩
  ·have b2:((zc T F).length:Int)<=b.site:=by omega
   refine U9 ?_;refine zBJ ZT ?_;refine U9 ?_;rw[Z4];refine gr ?_;exact⟨rfl,e04⟩
 rw[QC (fun q=>q.elim k3 fun q=>q.elim (fun q=>q hb) fun q=>q hst)];have hty:=hsty _ (zG (l:=zc T F) (i:=b.site.toNat) (by omega));obtain⟨csS,hRS,pcS,hsS⟩:=zb (i:=b.site.toNat) sSY (by omega);generalize(zc T F).getD b.site.toNat default=x at *;have hRS:csS=[I x.fn,I x.nr,I x.ty]:=hRS;subst hRS;by_cases p0:v.pos<0
 ·rw[QF (fun q=>by omega)];refine U9 ?_;refine zBJ ZT ?_;refine U9 ?_;rw[Z4];refine gr ?_;exact⟨rfl,e04⟩
 obtain⟨k,hk⟩:∃ k:Nat,x.ty=k:=⟨x.ty.toNat,by omega⟩;have hl1:=(hl k (by omega)).1;have hl2:=(hl k (by omega)).2;replace hl:=WE.mk hl;replace hsty:=WE.mk hsty;rw[hk]at pcS;refine U9 ?_;refine VA (zGd _ T (by omega) (k+1) k _ (by omega) stY (by omega) (fun j hj=>hl.out j (by omega)) hl1) ?_;rintro r X ⟨or,eX⟩;refine nE eX ?_;have sr:WJ (inC X) r (Wq T k):=or.sl;obtain⟨r1,r2,r3,rfl⟩:=WW.shape sr;have eq4:Ext h4 (outC h4 X):=(zI 0 h4).trans (zV (h:=h4) eX);have e4X:Ext h4 (outC h4 (inC X)):=eq4;have e05:=e04.trans e4X;by_cases p1:((Wq T k).length:Int)<=v.pos
 ·rw[QF (fun q=>by rw[hk,QN]at q;omega)];refine U9 ?_;refine gr ?_;exact⟨rfl,e05⟩
 ·rw[QC (fun q=>q ⟨by omega,by rw[hk,QN];omega⟩)];refine U9 ?_;generalize outC h4 (inC X)=h5 at *;have o15:=o14.ext e4X;have o25:=o24.ext e4X;have hr:=hok.out h5 (E4.ext e4X) (Bk.ext sS e4X) (Wk.ext sM4 e4X) hst ⟨by omega,by rw[hk,QN];omega⟩;refine go ?_;refine VA hr ?_;rintro _ h6 ⟨rfl,e6⟩;refine gr ?_;exact⟨by rw[hel.out];rfl,e05.trans e6⟩
end
end Go.Proofs.YtfnndahpddkniaaGreatDoor
set_option maxRecDepth 100000
namespace Go.Proofs.YtfnndahpddkniaaGreatDoor
open Go.Am
theorem zHr(h:U0)(v:Value)(l:List Ba)(k:Wk h v l)(hl:(l.length:Int)<=9223372036854775807):WC Tryz.prog tb 9 [v] h fun r h'=>(r=.bool true\/(r=.bool false/\l.length<=40/\∀ i,i<l.length->(l.getD i default).cells.length<=40))/\h=h':=by
 refine en ?_;refine VD (fun i=>l.length-i) (fun i t h1=>h=h1/\zB t 3=I i/\i<=l.length/\i<=50/\WE (∀ j,j<i->(l.getD j default).cells.length<=40)) 0 ?_ ?_
 ·exact⟨rfl,U6,QK _,QK _,⟨fun j hj=>absurd hj (Qh _)⟩⟩
 rintro i t _ hsame ⟨rfl,s3,hi,h50,hI⟩;by_cases c1:(i:Int)<(l.length:Int)
 ·by_cases c2:(i:Int)<50
  ·obtain⟨ca,ra,pca,hsa⟩:=zW k (show i<l.length by omega);obtain⟨va,rfl,sa,na⟩:=ra;have pa:=(pca _ (Ext.refl _)).1;refine go ?_;refine VE (fun hb=> ?_) (fun hb=> ?_)<;>simp only[DB]at hb<;>refine go ?_
   ·refine rt ?_;exact⟨.inl rfl,rfl⟩
   ·refine zA (i+1) (by omega) ⟨rfl,Wc,by omega,by omega,⟨fun j hj=> ?_⟩⟩;by_cases e:j=i
    ·subst e;omega
    ·exact hI.out j (by omega)
  ·have:(40:Int)<(l.length:Int):=by omega
   refine gr ?_;exact⟨.inl (by rw[QT this];rfl),rfl⟩
 ·have e:i=l.length:=by omega
  subst e;by_cases c3:(40:Int)<(l.length:Int)
  ·refine gr ?_;exact⟨.inl (by rw[QT c3];rfl),rfl⟩
  ·refine gr ?_;exact⟨.inr ⟨by rw[QQ c3];rfl,by omega,hI.out⟩,rfl⟩
end Go.Proofs.YtfnndahpddkniaaGreatDoor
set_option maxRecDepth 100000
namespace Go.Proofs.YtfnndahpddkniaaGreatDoor
open Go.Am
theorem zKJ{h:U0}{v:Value}{l:List BW}(s:SlV h v l):∃ a n k,v=.slice a n k:=by
 obtain⟨_,c,_⟩:=s;exact WW.shape c
theorem zJW{α:Type}[Inhabited α]{l:List α}{i:Nat}{a:α}(h:l[i]?=some a):l.getD i default=a:=by rw[QH,h];rfl
theorem zIU{α:Type}{c:Nat}{R:U0->List Value->α->Prop}{h:U0}{v:Value}{T:List α}(s:Ww c R h v T):∃ a n k,v=.slice a n k:=let⟨_,a,_⟩:=s;a.shape
theorem zPE{α:Type}[Inhabited α]{l:List α}{i:Nat}(h:i<l.length):l.getD i default∈l:=by
 rw[zJW (QB h)];exact List.getElem_mem h
theorem zIY{α:Type}[Inhabited α]{l:List α}{i:Nat}(h:i<l.length):l.take (i+1)=l.take i++[l.getD i default]:=by
 rw[Q4,QB h,zJW (QB h)];rfl
theorem zOR{h0 h:U0}{p:Value}{cs:List Value}(o:U1 h0 h p cs):∀ g,p=.pointer (some ⟨g,0,none⟩)->h0.n<=g/\g<h.n:=by
 obtain⟨g,a,b,rfl,_⟩:=o;intro g' e;cases e;exact⟨a,b⟩
theorem zLe{α:Type}{c b:Nat}{R:U0->List Value->α->Prop}{h:U0}{v:Value}{xs:List α}(o:OwnR c R b h v xs){g n k:Nat}(e:v=.slice (some ⟨g,0,none⟩) n k):b<=g/\g<h.n:=by
 rcases o with⟨e2,_⟩|⟨g1,_,_,g2,g3,e2,_⟩
 ·rw[e2]at e;cases e
 ·rw[e2]at e;cases e;exact⟨g2,g3⟩
theorem RVal.one{h cs a}(r:RVal h cs a):zK cs=true:=by rw[show cs=_ from r];rfl
theorem zLs{b:Nat}{h:U0}{x:Ba}{w:Value}(o:OwnR 4 RVal b h w x.cells)(hl:(x.cells.length:Int)<=9223372036854775807):Bl RMb h [I x.site,I x.ty,I x.depth,.bool x.alive,w] x (fun k=>b<=k/\k<h.n):=
 fun hx hk hn=>⟨w,rfl,o.dep (fun k o a b e=>hk k o ⟨a,b⟩ e) hn,hl⟩
theorem zK6(h:U0)(v:Value)(L:List Ba)(s:Wk h v L)(hL:L.length<=1000)(hp:∀ x∈L,x.cells.length<=1000):WC Tryz.prog tb 11 [v] h fun r h'=>OwnR 5 RMb h.n h' r L/\Ext h h':=by
 refine en ?_;replace hp:=WE.mk hp;refine go ?_;refine VD (fun i=>L.length-i) (fun i t h1=>Ext h h1/\zB t 4=I i/\i<=L.length/\∃ w,zB t 3=w/\OwnR 5 RMb h.n h1 w (L.take i)) 0 ?_ ?_
 ·exact⟨Ext.refl _,U6,QK _,_,U6,OwnR.nil⟩
 rintro i t h1 hsame ⟨e1,s4,hi,w,s3,ow⟩;have st1:=Wk.ext s e1;refine go ?_;refine VE (fun hc=> ?_) (fun hc=> ?_)<;>simp only[DB]at hc
 ·have hi':i<L.length:=by omega
  obtain⟨cs,⟨va,rfl,sa,hla⟩,pc,hs⟩:=zW st1 hi';have pc:=(pc _ (Ext.refl _)).1;have hpl:=hp.out _ (zPE (l:=L) hi');have hsucc:=zIY (l:=L) hi';generalize L.getD i default=x at *;obtain⟨aa,an,ak,rfl⟩:=zKJ sa;refine go ?_;refine VL ?_;intro p h2 e2 o2;have hpn:=zOR o2;refine go ?_;refine VH o2 e2 ?_;intro h3 e3 o3 u3;have sa3:=SlV.ext sa e3;have e23:h2.n<=h3.n:=u3.1;refine go ?_;refine UY RVal ?_;intro v4 h4 e4 o4;have o3:=o3.ext e4;have sa4:=SlV.ext sa3 e4;refine go ?_;refine Xf (hB:=h3) o4 sa4 (by decide) (fun cs a r hx _ _=>r) (fun cs a r=>r.one) e4 (QE _) e4.n (by omega) ?_;intro v5 h5 e5 o5;obtain⟨b5,n5,k5,rfl⟩:=zIU o5.sl;have o3:=(by assumption:U1 h1 h3 p _).ext e5;refine go ?_;refine VT (cs:=[.slice b5 n5 k5]) (j:=4) (hl:=by simp[zi]) o3 (e3.trans e5) ?_;intro h6 e6 o6 u6;have o5':=OwnR.upd o5 (fun k hk1 hk2=>u6.2 k hk2 (fun e=>by have:=(hpn k e).2;omega)) u6.1;have e06:=e1.trans e6;refine go ?_;have hn6:h3.n<=h6.n:=by have:=e5.n;have:=u6.1;omega
  have hn1:h1.n<=h3.n:=e3.n;refine Vw x (fun k=>h3.n<=k/\k<h6.n) (ow.ext e6) e06 (QE _) (by have:=e1.n;omega) (by decide) (by rw[Qj];omega) (zLs o5' hla) (fun k hk=>⟨by have:=e1.n;omega,hk.2⟩) (fun g n k e hk=>by have:=(zLe ow e).2;omega) ?_;intro v7 h7 lit e7 o7 _ _;refine go ?_;exact zA (i+1) (by omega) ⟨e7,Wc,by omega,v7,U6,by rw[hsucc];exact o7⟩
 ·have hii:i=L.length:=by omega
  subst hii;rw[Qk]at ow;refine gr ?_;exact⟨ow,e1⟩
end Go.Proofs.YtfnndahpddkniaaGreatDoor
