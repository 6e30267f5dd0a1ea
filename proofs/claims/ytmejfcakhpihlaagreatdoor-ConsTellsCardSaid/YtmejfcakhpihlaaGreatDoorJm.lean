/- Walks of functions, plain laws; proves no statement. -/
import Derived.Test.YtmejfcakhpihlaaGreatDoorJl
set_option linter.all false
set_option maxHeartbeats 4000000
set_option maxRecDepth 100000
namespace Go.Proofs.YtmejfcakhpihlaaGreatDoor
open Go.Am
theorem zNN(h:WA)(x:Wj):WC Tryz.prog tb 85 [.int .u8 x.op] h fun r h'=>r=.bool (yz x)/\h=h':=by
 refine en ?_;by_cases h1:x.op=11
 ·refine gr ?_;exact⟨by unfold yz;simp[h1];rfl,rfl⟩
 ·refine gr ?_;exact⟨by unfold yz;simp[h1];rfl,rfl⟩
theorem zMF(h:WA)(vt vf:Value)(T:List WE)(F:List Wa)(E:Env h vt vf T F)(bH:∀ g∈F,0<=g.sig/\g.sig<(T.length:Int))(gI:∀ g∈F,zJ g.blocks<=128)(hF:F.length<=8)
  (bm:∀ g∈F,∀ B∈g.blocks,∀ x∈B.ins,yz x=true->0<=x.ty/\x.ty<(T.length:Int)):
  WC Tryz.prog tb 49 [.agg #[vt,vf]] h fun r h'=>OwnR 3 RSt h.n h' r (zR T F)/\Ext h h':=by
 have fp:∀ i,(y8 T 0 (F.take i)).length<=1024:=fun i=>by
  have:=zA7 (T:=T) (l:=F.take i) (f:=0) fun g hg=>gI g (Q5 hg);have h2:(F.take i).length<=F.length:=by rw[Qn];omega
  omega
 have sm:=E.sm;have vJ:=sm.funcs;replace fp:=WK.mk fp;replace bH:=WK.mk bH;replace gI:=WK.mk gI;replace bm:=WK.mk bm;have Ca:=E.st;have DE:=E.sf;obtain⟨t1,t2,t3,rfl⟩:=zD Ca;obtain⟨f1,f2,f3,rfl⟩:=zD DE;refine en ?_;refine VF ?_;intro p h1 e1 o1;replace o1:WB h h1 p [.slice t1 t2 t3,.slice f1 f2 f3]:=o1;have E1:=E.ext e1;have fV:=E1.sf;refine go ?_;refine VD (fun i=>F.length-i) (fun i t h2=>zC t 13=I i/\i<=F.length/\Ext h1 h2/\∃ v,zC t 2=v/\OwnR 3 RSt h1.n h2 v (y8 T 0 (F.take i))) 0 ?_ ?_
 ·exact⟨WH,QK _,Ext.refl _,.slice none 0 0,WH,.inl ⟨rfl,rfl⟩⟩
 rintro i t h2 ab ⟨OP,hi,e2,v,s2,ov⟩;have o2:=o1.ext e2;have E2:=E1.ext e2;have cW:=E2.sf;have bC:=E2.st;refine go ?_;refine VE (fun hb=> ?_) (fun hb=> ?_)<;>simp only[DB]at hb
 ·have ae:i<F.length:=by omega
  have gF:=zE (l:=F) (i:=i) ae;obtain⟨cs,⟨vb,rfl,sb,cD⟩,px,hs⟩:=zP (i:=i) fV ae;have pc:=(px _ e2).1;have dC:=bH.out _ gF;have jG:=sm.blocks _ gF;have bD:=sm.parts _ (zE (l:=T) (i:=(F.getD i default).sig.toNat) (by omega));have bp:y8 T 0 (F.take (i+1))=y8 T 0 (F.take i)++yq T i ((T.getD (F.getD i default).sig.toNat default).parts.length:Int) (F.getD i default).blocks:=by
   rw[ZP ae,zBT,Qn,Gg (by omega),Int.zero_add]
  have ji:=sm.ins _ gF;have jj:=bm.out _ gF;have IF:=gI.out _ gF;replace ji:=WK.mk ji;replace jj:=WK.mk jj;generalize F.getD i default=g at *;obtain⟨b1,b2,b3,rfl⟩:=zD sb;refine go ?_;refine WO.al ?_;intro p4 h3 e3 o3;refine go ?_;refine VH o3 e3 ?_;intro h4 e4 o4 _;have bV:=e2.trans e4;have ry:=Wv.ext sb bV;have pC:=bC.ext e4;have rm:=o2.ext e4;obtain⟨kQ,⟨va,rfl,sa,br⟩,dR,mh⟩:=yM (i:=g.sig.toNat) pC (by omega);obtain⟨a1,a2,a3,rfl⟩:=Wi.shape sa;have RM:=OwnR.ext ov e4;refine go ?_;refine VD (fun j=>g.blocks.length-j) (fun j t h5=>zC t 29=I j/\j<=g.blocks.length/\Ext h1 h5/\zC t 5=I ((T.getD g.sig.toNat default).parts.length+zJ (g.blocks.take j))/\∃ v,zC t 2=v/\OwnR 3 RSt h1.n h5 v (y8 T 0 (F.take i)++yq T i ((T.getD g.sig.toNat default).parts.length:Int) (g.blocks.take j))) 0 ?_ ?_
  ·exact⟨WH,QK _,e2.trans e4,by rw[show zJ (g.blocks.take 0)=0 by simp[zJ],Int.add_zero];exact WH,v,WH,by simpa [yq]using RM⟩
  rintro j t' h5 mY ⟨s29,hj,e5,s5,v',s2',uz⟩;have o5:=o1.ext e5;have E5:=E1.ext e5;have AH:=Wv.ext sb e5;refine go ?_;refine VE (fun cY=> ?_) (fun cY=> ?_)<;>simp only[DB]at cY
  ·have fD:j<g.blocks.length:=by omega
   have jh:=zE (l:=g.blocks) (i:=j) fD;obtain⟨pE,⟨vi,rfl,si,fc⟩,IG,mo⟩:=zP (i:=j) sb fD;have kR:=(IG _ e5).1;have dG:=ji.out _ jh;have uA:yq T i ((T.getD g.sig.toNat default).parts.length:Int) (g.blocks.take (j+1))=yq T i ((T.getD g.sig.toNat default).parts.length:Int) (g.blocks.take j)++ZC T i ((T.getD g.sig.toNat default).parts.length+zJ (g.blocks.take j)) (g.blocks.getD j default).ins:=by
    rw[ZP fD,zBf]
   have bU:zJ (g.blocks.take (j+1))=zJ (g.blocks.take j)+((g.blocks.getD j default).ins.length:Int):=by
    rw[ZP fD];unfold zJ;simp
   have eo:0<=zJ (g.blocks.take j)/\zJ (g.blocks.take j)<=128:=by
    have:=zBm g.blocks j;omega
   have mo:=zA9 (T:=T) (f:=(i:Int)) (l:=g.blocks.take j) (n:=((T.getD g.sig.toNat default).parts.length:Int));have jk:=jj.out _ jh;replace jk:=WK.mk jk;generalize g.blocks.getD j default=B at *;obtain⟨i1,i2,i3,rfl⟩:=zD si;refine go ?_;refine WO.al ?_;intro p7 h6 e6 o7;refine go ?_;refine VH o7 e6 ?_;intro h7 e7 o7 _;have et:=e5.trans e7;have He:=BB.ext si et;have RN:=OwnR.ext uz e7;refine go ?_;refine VD (fun q=>B.ins.length-q) (fun q t h8=>zC t 36=I q/\q<=B.ins.length/\Ext h1 h8/\zC t 5=I ((T.getD g.sig.toNat default).parts.length+zJ (g.blocks.take j)+q)/\∃ v,zC t 2=v/\OwnR 3 RSt h1.n h8 v (y8 T 0 (F.take i)++yq T i ((T.getD g.sig.toNat default).parts.length:Int) (g.blocks.take j)++ZC T i ((T.getD g.sig.toNat default).parts.length+zJ (g.blocks.take j)) (B.ins.take q))) 0 ?_ ?_
   ·exact⟨WH,QK _,et,by rw[show((0:Nat):Int)=0 from rfl,Int.add_zero];exact WH,v',WH,by simpa [ZC]using RN⟩
   rintro q II h8 jK ⟨s36,hq,e8,RO,Cd,RP,gC⟩;have o8:=o1.ext e8;have rM:=BB.ext si e8;have wK:=(E1.ext e8).st;refine go ?_;refine VE (fun mZ=> ?_) (fun mZ=> ?_)<;>simp only[DB]at mZ
   ·have cE:q<B.ins.length:=by omega
    have kJ:=zE (l:=B.ins) (i:=q) cE;obtain⟨wD,⟨xa,xf,rfl,cr,cz,vG,DF,ho⟩,DG,wE⟩:=zP (i:=q) si cE;have fN:=(DG _ e8).1;have m7:∀ n:Int,ZC T i n (B.ins.take (q+1))=ZC T i n (B.ins.take q)++(if yz (B.ins.getD q default)then[⟨i,n+q,(T.getD (B.ins.getD q default).ty.toNat default).elem⟩]else[]):=fun n=>by
     rw[ZP cE,zBQ,Qn,Gg (by omega)]
    have uB:=jk.out _ kJ;generalize B.ins.getD q default=x at *;obtain⟨k7,k9,ld,rfl⟩:=Wi.shape cr;obtain⟨mJ,mK,mL,rfl⟩:=Wi.shape cz;refine go ?_;refine WO.al ?_;intro p9 h9 e9 o9;refine go ?_;refine VH (cs:=[.int .u8 x.op,I x.ty,I x.a,I x.b,I x.n,.slice k7 k9 ld,.slice mJ mK mL]) o9 e9 ?_;intro gV bJ fg _;refine go ?_;refine VA (zNN gV x) ?_;rintro _ _ ⟨rfl,rfl⟩;have qj:=e8.trans bJ;cases cT:yz x with
    |true=>
     have hx:=uB cT;have tN:=o8.ext bJ;have IJ:=(E1.ext qj).st;obtain⟨kQ,⟨ya,rfl,uh,LG⟩,RQ,RR⟩:=yM (i:=x.ty.toNat) IJ (by omega);obtain⟨y1,y2,y3,rfl⟩:=Wi.shape uh;have Fj:=zA3 (T:=T) (f:=(i:Int)) (l:=B.ins.take q) (n:=(T.getD g.sig.toNat default).parts.length+zJ (g.blocks.take j));have jH:(B.ins.take q).length<=q:=List.length_take_le _ _;have vQ:=fp.out i;refine go ?_;refine V7 (hB:=h1) (b:=h1.n) (⟨i,(T.getD g.sig.toNat default).parts.length+zJ (g.blocks.take j)+q,(T.getD x.ty.toNat default).elem⟩:W2) (fun _=>False) (OwnR.ext gC bJ) qj (QE _) qj.n (by decide) (by simp only[QM];omega) (fun _ _ _=>rfl) (fun _ h=>h.elim) (fun _ _ _ _ h=>h) ?_;intro IK dB lit az dH HI RS;refine go ?_;refine zA (q+1) (by omega) ⟨Wn,by omega,az,?_,IK,WH,?_⟩
     ·rw[show((T.getD g.sig.toNat default).parts.length:Int)+zJ (g.blocks.take j)+((q+1:Nat):Int)=(T.getD g.sig.toNat default).parts.length+zJ (g.blocks.take j)+q+1 by omega];exact WH
     ·rw[m7,cT,QF rfl,<-QT];exact dH
    |false=>
     refine go ?_;refine zA (q+1) (by omega) ⟨Wn,by omega,qj,?_,Cd,WH,?_⟩
     ·rw[show((T.getD g.sig.toNat default).parts.length:Int)+zJ (g.blocks.take j)+((q+1:Nat):Int)=(T.getD g.sig.toNat default).parts.length+zJ (g.blocks.take j)+q+1 by omega];exact WH
     ·rw[m7,cT];simpa using OwnR.ext gC bJ
   ·have iW:q=B.ins.length:=by omega
    subst iW;rw[Qg]at gC;refine go ?_;refine zA (j+1) (by omega) ⟨Wn,by omega,e8,?_,Cd,WH,?_⟩
    ·rw[bU,<-Int.add_assoc];exact WH
    ·rw[uA,<-QT];exact gC
  ·have re:j=g.blocks.length:=by omega
   subst re;rw[Qg]at uz;refine go ?_;refine zA (i+1) (by omega) ⟨Wn,by omega,e5,v',WH,?_⟩;rw[bp];exact uz
 ·have aK:i=F.length:=by omega
  subst aK;rw[Qg]at ov;refine gr ?_;exact⟨ov.base e1.n,e1.trans e2⟩
theorem zG2{T:List WE}{F:List Wa}(hs:z8 T F=0){f:Nat}(hf:f<F.length){b:Nat}(hb:b<(F.getD f default).blocks.length){i:Nat}(hi:i<((F.getD f default).blocks.getD b default).ins.length)(hm:yz (((F.getD f default).blocks.getD b default).ins.getD i default)=true):
  Ww T 2 (((F.getD f default).blocks.getD b default).ins.getD i default).ty=true/\W7 T (((F.getD f default).blocks.getD b default).ins.getD i default).ty:=by
 obtain⟨hp,hw⟩:=z9 hs;have Z:=zBL hp (f:=(f:Int)) (by omega);have W:=(hw f (by omega) (by omega)).2.2 b (by omega) (by show(b:Int)<((F.getD ((f:Int)).toNat default).blocks.length:Int);rw[QL];omega);have h1:=W.1 i (by show i<(((F.getD ((f:Int)).toNat default).blocks.getD ((b:Int)).toNat default).ins.length);rw[QL,QL];exact hi);have hV:=Z.V ((F.getD f default).blocks.getD b default) (by show _∈(F.getD ((f:Int)).toNat default).blocks;rw[QL];exact zE hb) _ (zE hi);refine⟨?_,hV.ty⟩;unfold YO zAE at h1;have h2:=h1.2.1;rw[show((zF F f).getD ((b:Int)).toNat default).ins.getD i default=((F.getD f default).blocks.getD b default).ins.getD i default from by unfold zF;rw[QL,QL]]at h2;generalize((F.getD f default).blocks.getD b default).ins.getD i default=x at *;unfold yz at hm;simp only[GN,Qd]at hm;unfold yD at h2;rw[QC (by omega),QC (by omega),QC (by omega),QF hm]at h2;exact h2
theorem Zl{α:Type}[Inhabited α]{l:List α}{x:α}(h:x∈l):∃ i,i<l.length/\l.getD i default=x:=by
 obtain⟨i,hi,rfl⟩:=JD h;exact⟨i,hi,by simp[List.getD,QB hi]⟩
theorem zNP(h:WA)(vt vf:Value)(T:List WE)(F:List Wa)(E:Env h vt vf T F):
  WC Tryz.prog tb 25 [.agg #[vt,vf]] h fun r h'=>(∃ v,r=.tuple #[v,I (z8 T F)]/\OwnR 3 RSt h.n h' v (if z8 T F=0 then zR T F else[]))/\Ext h h':=by
 refine en ?_;refine VF ?_;intro p h1 e1 o1;replace o1:WB h h1 p [vt,vf]:=o1;have E1:=E.ext e1;refine go ?_;refine VA (zKw h1 vt vf T F E1) ?_;rintro _ h2 ⟨rfl,e2⟩;have o2:=o1.ext e2;have E2:=E1.ext e2;by_cases hs:z8 T F=0;case neg=>
  rw[QC hs];refine gr ?_;exact⟨⟨_,rfl,.inl ⟨rfl,rfl⟩⟩,e1.trans e2⟩
 rw[QF hs];obtain⟨hp,hw⟩:=z9 hs;obtain⟨hc,lN,ig,hfn⟩:=yN hp;have hg:∀ g∈F,(0<=g.sig/\g.sig<(T.length:Int))/\zJ g.blocks<=128:=fun g hg=>by
  obtain⟨i,hi,rfl⟩:=Zl hg;have Z:=zBL hp (f:=(i:Int)) (by omega);have h1:=Z.sig;have h2:=Z.many;unfold zF at h2;rw[QL]at h1 h2;exact⟨h1,h2⟩
 have bm:∀ g∈F,∀ B∈g.blocks,∀ x∈B.ins,yz x=true->0<=x.ty/\x.ty<(T.length:Int):=fun g hg B hB x hx hm=>by
  obtain⟨f,hf,rfl⟩:=Zl hg;obtain⟨b,hb,rfl⟩:=Zl hB;obtain⟨i,hi,rfl⟩:=Zl hx;have:=zG2 hs hf hb hi hm;refine this.2.resolve_left fun e=> ?_;have h1:=this.1;unfold Ww at h1;rw[e]at h1;cases h1
 have dC:∀ g∈F,0<=g.sig/\g.sig<(T.length:Int):=fun g q=>(hg g q).1;have gI:∀ g∈F,zJ g.blocks<=128:=fun g q=>(hg g q).2;rw[hs];replace hg:=WK.mk hg;replace hfn:=WK.mk hfn;refine go ?_;refine VA (zMF h2 vt vf T F E2 dC gI ig bm) ?_;rintro v h3 ⟨ov,e3⟩;refine gr ?_;exact⟨⟨v,rfl,ov.base (e1.trans e2).n⟩,e1.trans (e2.trans e3)⟩
end Go.Proofs.YtmejfcakhpihlaaGreatDoor
set_option maxRecDepth 100000
namespace Go.Proofs.YtmejfcakhpihlaaGreatDoor
open Go.Am
section
variable {hB h h' h2:WA}{p vR vF vS v':Value}{rs fs l:List Int}{ss:List W2}
end
theorem zLc{α:Type}{R:WA->List Value->α->Prop}{h0 h:WA}{c:Nat}{v:Value}{xs:List α}(o:OwnR c R h0.n h v xs):zBI h0 v:=fun b hb=>by
 rcases o with⟨rfl,_⟩|⟨g,_,_,g1,_,rfl,_⟩
 ·cases hb
 ·cases hb;exact g1
def zz(T:List WE)(F:List Wa):List Int:=F.map fun g=>((T.getD g.sig.toNat default).parts.length:Int)+zJ g.blocks
def ZV(T:List WE)(F:List Wa):List Int:=(zR T F).map fun s=>((yG T s.ty.toNat).length:Int)
theorem zOe{T:List WE}{F:List Wa}(hp:ZE T F=0){i:Nat}(hi:i<F.length):Y9 T F i=(((T.getD (F.getD i default).sig.toNat default).parts.length:Int)+zJ (F.getD i default).blocks,0):=by
 have cO:yL T F i=(((T.getD (F.getD i default).sig.toNat default).parts.length:Int),0):=by
  unfold yL;rw[QC (fun e=>e hp),QF (by unfold zd;simp;omega),QL]
 unfold Y9;rw[cO];simp
theorem zEV{T:List WE}{f:Int}{s:W2}:∀ {l:List Wj} {n:Int},s∈ZC T f n l->∃ x∈l,yz x=true/\s.ty=(T.getD x.ty.toNat default).elem
 |[],_,h=>by cases h
 |x::l,n,h=>by
  unfold ZC at h;rcases Qs.1 h with h|h
  ·split at h
   ·rename_i hm;rw[QZ]at h;subst h;exact⟨x,Qj ..,hm,rfl⟩
   ·cases h
  ·obtain⟨y,a,b⟩:=zEV h;exact⟨y,Qu _ a,b⟩
theorem zEl{T:List WE}{f:Int}{s:W2}:∀ {l:List Wc} {n:Int},s∈yq T f n l->∃ b∈l,∃ x∈b.ins,yz x=true/\s.ty=(T.getD x.ty.toNat default).elem
 |[],_,h=>by cases h
 |x::l,n,h=>by
  unfold yq at h;rcases Qs.1 h with h|h
  ·exact⟨x,Qj ..,zEV h⟩
  ·obtain⟨y,a,b⟩:=zEl h;exact⟨y,Qu _ a,b⟩
theorem zFR{T:List WE}{s:W2}:∀ {l:List Wa} {f:Int},s∈y8 T f l->∃ g∈l,∃ b∈g.blocks,∃ x∈b.ins,yz x=true/\s.ty=(T.getD x.ty.toNat default).elem
 |[],_,h=>by cases h
 |x::l,n,h=>by
  unfold y8 at h;rcases Qs.1 h with h|h
  ·exact⟨x,Qj ..,zEl h⟩
  ·obtain⟨y,a,b⟩:=zFR h;exact⟨y,Qu _ a,b⟩
theorem zBt{T:List WE}{F:List Wa}(hs:z8 T F=0):∀ s∈zR T F,0<=s.ty/\s.ty<(T.length:Int):=fun s h=>by
 obtain⟨g,hg,B,hB,x,hx,hm,he⟩:=zFR h;obtain⟨f,hf,rfl⟩:=Zl hg;obtain⟨b,hb,rfl⟩:=Zl hB;obtain⟨i,hi,rfl⟩:=Zl hx;obtain⟨h1,h2⟩:=zG2 hs hf hb hi hm;have hc:=(yN (z9 hs).1).1;have h3:=zDM hc h2;unfold BT at h3;rw[QF h1,<-he]at h3;rcases h3 with h3|h3
 ·unfold Ww at h1;simp only[QN,Qd]at h1;have hm:=zBl hc (h2.resolve_left h1.1).1 (h2.resolve_left h1.1).2;unfold ZM zD7 at hm;omega
 ·exact h3
theorem zBH{T:List WE}{F:List Wa}(hs:z8 T F=0):(zR T F).length<=1024:=by
 have hp:=(z9 hs).1;obtain⟨hc,lN,ig,hfn⟩:=yN hp;have:=zA7 (T:=T) (l:=F) (f:=0) fun g hg=>by
  obtain⟨i,hi,rfl⟩:=Zl hg;have h2:=(zBL hp (f:=(i:Int)) (by omega)).many;unfold zF at h2;rw[QL]at h2;exact h2
 unfold zR;omega
end Go.Proofs.YtmejfcakhpihlaaGreatDoor
set_option maxRecDepth 100000
namespace Go.Proofs.YtmejfcakhpihlaaGreatDoor
open Go.Am
theorem zAK:∀ {l:List Int},(∀ x∈l,0<=x/\x<=1000)->0<=l.sum/\l.sum<=1000*l.length
 |[],_=>by simp
 |x::l,h=>by
  have:=zAK fun y hy=>h y (Qu _ hy);have:=h x (Qj ..);simp only[JE,GF];omega
section
variable {h0 h:WA}{vR vF vS:Value}{Rg Fl:List Int}{S:List W2}
end
section
variable {h:WA}{vt vf:Value}{T:List WE}{F:List Wa}
def zy(T:List WE)(F:List Wa):Int:=(zz T F).sum
def zGy(T:List WE)(F:List Wa):Int:=(zz T F).sum+F.length
def zPr(F:List Wa):Int:=1+F.length
def zQ8(T:List WE)(F:List Wa)(s i:Int):Prop:=(0<=s/\s<((ZV T F).length:Int))/\0<=i/\i<(ZV T F).getD s.toNat 0
instance (T:List WE) (F:List Wa) (s i:Int):Decidable (zQ8 T F s i):=by unfold zQ8;infer_instance
end
end Go.Proofs.YtmejfcakhpihlaaGreatDoor
set_option maxRecDepth 100000
namespace Go.Proofs.YtmejfcakhpihlaaGreatDoor
open Go.Am
section
variable {h:WA}{vt vf:Value}{T:List WE}{F:List Wa}
end
section
variable {h:WA}{vt vf:Value}{T:List WE}{F:List Wa}
end
end Go.Proofs.YtmejfcakhpihlaaGreatDoor
set_option maxRecDepth 100000
namespace Go.Proofs.YtmejfcakhpihlaaGreatDoor
open Go.Am
theorem zGf(vt:Value)(T:List WE)(hT:(T.length:Int)<=1000):∀ (n k:Nat) (h:WA),k<n->Wu h vt T->k<T.length->zEB T k->ZM T k->
  WC Tryz.prog tb 155 [vt,I k] h fun r h'=>WL h h' r (yG T k)/\Ext h h':=by
 intro n;induction n with
 |zero=>intro k h hk;omega
 |succ n ih=>
  intro k h xc st hk ag hM;have aF:∀ j,j<=k->ZM T j:=fun j hj=>by
   by_cases e:j=k
   ·subst e;exact hM
   ·exact(ag j (by omega)).1
  have ft:=zAR aF;have jM:=zFO hM;have Cb:=zIQ hM;have gR:∀ q,q<k->(yG T q).length<=32:=fun q hq=>QP (zAa (q+1) q (Q4 _) fun j hj=>aF j (by omega)) (ag q hq).2;obtain⟨cs,⟨va,rfl,sa,br⟩,pc,hs⟩:=yM (i:=k) st hk;rw[ft];clear ft;generalize T.getD k default=x at *;obtain⟨_,_,_,rfl⟩:=Wi.shape sa;refine en ?_;refine WO.al ?_;intro p h1 e1 o1;refine go ?_;refine VH o1 e1 ?_;intro h2 e2 o2 _;have bC:=st.ext e2;have pZ:=sa.ext e2;by_cases h5:x.kind=5
  ·have hp:=Cb h5;obtain⟨q,hq⟩:∃ q:Nat,x.elem=q:=⟨x.elem.toNat,by omega⟩;have gA:q<k:=by omega
   rw[QC (by omega),QF h5,hq,QL];refine go ?_;rw[hq];refine VA (ih q h2 (by omega) bC (by omega) (fun j hj=>ag j (by omega)) (ag q gA).1) ?_;rintro r h3 ⟨or,e3⟩;refine gr ?_;refine⟨?_,e2.trans e3⟩;rcases or with o|o
   ·exact .inl o
   ·exact .inr (o.since e2)
  by_cases h4:x.kind=4
  ·have hp:=jM h4;rw[QF h4];have gx:∀ p∈x.parts,(yG T p.toNat).length<=32:=fun p dv=>by
    have:=hp.2 p dv;exact gR p.toNat (by omega)
   replace hM:=WK.mk hM;replace aF:=WK.mk aF;replace gR:=WK.mk gR;replace ag:=WK.mk ag;have Ds:=hp.1;replace hp:=WK.mk hp;replace gx:=WK.mk gx;refine go ?_;refine VD (fun i=>x.parts.length-i) (fun i t h3=>zC t 7=I i/\i<=x.parts.length/\Ext h2 h3/\∃ w,zC t 6=w/\WL h2 h3 w (((x.parts.take i).map fun p=>yG T p.toNat).flatten)) 0 ?_ ?_
   ·exact⟨WH,QK _,Ext.refl _,.slice none 0 0,WH,.inl ⟨rfl,by simp⟩⟩
   rintro i t h3 ab ⟨s7,hi,d7,w,s6,ow⟩;have gS:=bC.ext d7;have i7:=pZ.ext d7;have o3:=o2.ext d7;refine go ?_;refine VE (fun hc=> ?_) (fun hc=> ?_)<;>simp only[DB]at hc
   ·have ae:i<x.parts.length:=by omega
    have nM:=hp.out.2 _ (zM ae);have au:=zDc (f:=fun p=>yG T p.toNat) ae;have tY:=zBN (l:=x.parts.take i) (f:=fun p=>yG T p.toNat) fun q hq=>gx.out q (Q5 hq);have eD:=gx.out _ (zM ae);have AI:(x.parts.take i).length<=i:=List.length_take_le _ _;obtain⟨q,hq⟩:∃ q:Nat,x.parts.getD i 0=q:=⟨(x.parts.getD i 0).toNat,by omega⟩;have gA:q<k:=by omega
    refine go ?_;rw[hq];refine VA (ih q h3 (by omega) gS (by omega) (fun j hj=>ag.out j (by omega)) (ag.out q gA).1) ?_;rintro r h4 ⟨or,e4⟩;refine go ?_;have mQ:x.parts.getD i default=(q:Int):=hq;rw[mQ]at au;simp only[QL]at au;have df:(yG T q).length<=32:=by rw[hq]at eD;exact eD
    refine VN (ow.ext e4) or.sl (d7.trans e4) (by omega) ?_;intro v5 h5 e5 o5;refine go ?_;exact zA (i+1) (by omega) ⟨Wn,by omega,e5,v5,WH,by rw[au];exact o5⟩
   ·have aK:i=x.parts.length:=by omega
    subst aK;rw[Qg]at ow;refine gr ?_;exact⟨ow.since e2,e2.trans d7⟩
  ·rw[QC h4,QC h5];refine go ?_;refine WO.bl [(k:Int)] ?_;intro v h3 e3 o3;refine gr ?_;exact⟨.inr (o3.since e2),e2.trans e3⟩
end Go.Proofs.YtmejfcakhpihlaaGreatDoor
set_option maxRecDepth 100000
namespace Go.Am
theorem Vj{P:Program}{tab:Wy}{t:WG Value}{ds:List Deferred}{rd:Option Nat}{l:List (WF×List Nat)}{Q:WR->WA->Prop}{α:Type}{c b d1 d2 m N0:Nat}{cl:Bool}{R:WA->List Value->α->Prop}{hB hS X:WA}{v w:Value}{xs:List α}{cs zero:List Value}(a:α)(Dn:Nat->Prop){x y:Operand}
  (eX:Ext (Am.inC (zB 1 hS)) X) (o:OwnR c R b hS v xs) (e0:Ext hB hS) (hm:hS.mark<=hB.n) (hb:hB.n<=b) (eF:b<=hS.n) (aW:0<c) (hl:xs.length<=100000)
  (d:Ba R X cs a Dn) (hD:∀ k,Dn k->b<=k/\k<X.n) (hv:∀ g n k,v=.slice (some ⟨g,0,none⟩) n k->¬Dn g) (xx:¬Dn hS.n)
  (k:∀ Y v' lit,Ext hB (outC hS Y)->OwnR c R b (outC hS Y) v' (xs++[a])->UpB v hS (outC hS Y)->zBI hS v'->Wb P tab m N0 l (hS.n+1) false ⟨(t.set d1 lit).set d2 v',ds,rd⟩ (Am.inC Y) Q)
  (hx:WM t x w:=by exact zi) (hw:w.cells=cs.toArray:=by rfl) (hc:cs.length=c:=by rfl) (h1:zL cs=true:=by rfl) (hz:zero.length=c:=by rfl) (hy:∀ u,WM (t.set d1 u) y v:=by intro u;exact zi) (eo:m=hS.mark:=by rfl) (aq:l≠[]:=by exact List.cons_ne_nil _ _):
  Wb P tab m N0 ((⟨some d1,none,.buildSlice 1 c zero [(0,c,x)]⟩,[])::(⟨some d2,none,.append c y (.tmp d1)⟩,[])::l) hS.n cl ⟨t,ds,rd⟩ (Am.inC X) Q:=by
 subst eo;have hx:ev t x=w:=hx;have nP:hS.n+1<=X.n:=eX.n;have kz:=e0.n;rw[Wb,QF (show Nat.beq (zI (Wx.buildSlice 1 c zero [(0,c,x)])) 3=true from rfl)];refine⟨rfl,.inl ⟨rfl,by omega,.row cs true 0,_,by simp only[yi,zu,Qm,GP,hx,Zz hw hc hz,QJ];rfl,?_⟩⟩;generalize fU:(Am.inC (Am.inC X)).lay hS.n (.row cs true 0)=H1;have n1:H1.n=X.n:=by rw[<-fU];rfl
 have aH:∀ c',H1.get c'=if c'=hS.n then some (.row cs true 0)else X.get c':=fun c'=>by rw[<-fU];exact zT _ _ _ _
 have cM:∀ k,k<hS.n->X.get k=hS.get k:=fun k hk=>eX.get k (by show k<hS.n+1;omega);have jU:OwnR c R b (Am.inC H1) v xs:=o.upd (fun k _ hk=>by show H1.get k=_;rw[aH,QC (by omega),cM k hk]) (by show hS.n<=H1.n;omega);have pA:Ba R (Am.inC H1) cs a Dn:=d.mono (fun _ h=>h) (fun k o hd e=>by
  show H1.get k=_;rw[aH,QC (fun e2:k=hS.n=>by subst e2;exact xx hd)];exact e) (by show X.n<=H1.n;omega)
 obtain⟨v',H2,q1,q2,q3,q4,q5,q6,q7,q8,n',k',g',q9,me⟩:=Z0 (H:=Am.inC H1) (gl:=hS.n) jU hc aW h1 hl (by show b<=H1.n;omega) pA (fun k hd=>⟨(hD k hd).1,by have:=(hD k hd).2;show k<H1.n;omega⟩) hv (QE _) (by show hS.n<H1.n;omega) (fun _ _=>rfl) (by show H1.get hS.n=_;rw[aH,QF rfl]);rw[Wb,QC (show ¬Nat.beq (zI (Wx.append c y (.tmp d1))) 3=true from Bool.noConfusion)];have iT:ev (t.set d1 (.slice (some ⟨hS.n,0,none⟩) 1 c)) y=v:=hy _;have e1:ev (t.set d1 (.slice (some ⟨hS.n,0,none⟩) 1 c)) (.tmp d1)=.slice (some ⟨hS.n,0,none⟩) 1 c:=by simp only[ev,zb,Q6]
 refine WO.op v' H2 rfl (by simp only[WN,iT,e1,q1]) ?_;have Ki:H2.n=X.n+1:=by rw[q3];show H1.n+1=_;omega
 refine WO.nil ⟨⟨fun c' bM=> ?_,by show H1.n<=H2.n;omega,.inl rfl⟩,?_⟩
 ·rcases q6 c' bM with h|h
  ·cases h
  ·omega
 have xy:∀ k,k<hB.n->∀ n k',v≠ .slice (some ⟨k,0,none⟩) n k':=fun k hk n k' e=>by
  rcases o with⟨e2,_⟩|⟨g,_,_,g1,_,e2,_⟩
  ·rw[e2]at e;cases e
  ·rw[e2]at e;cases e;omega
 have fin:=k H2 v' (.slice (some ⟨hS.n,0,none⟩) 1 c) ⟨by show hB.n<=H2.n;omega,fun k hk=>by
   show H2.get k=_;rw[q4 k (by show k<H1.n;omega) (xy k hk)];show H1.get k=_;rw[aH,QC (by omega),cM k (by omega)];exact e0.get k hk,fun w k hk=>by
   have hk:H2.n<=k:=hk;refine q8 (fun k2 aS=> ?_) k (by omega);have aS:H1.n<=k2:=aS;show H1.get k2=_;rw[aH,QC (by omega)];exact eX.wf (fun k3 cg=>e0.wf w k3 (by have:hS.n+1<=k3:=cg;omega)) k2 (by omega),e0.mark,fun cT=>e0.wr cT⟩ q2 ⟨by show hS.n<=H2.n;omega,fun g hg RT=>by
   show H2.get g=_;rw[q4 g (by show g<H1.n;omega) (fun n k' e=>RT (by rw[e];rfl))];show H1.get g=_;rw[aH,QC (by omega),cM g hg]⟩ (fun q hq=>by
   subst q9;cases hq;have h5:H1.n<=g':=me;exact QP (show hS.n<=H1.n by omega) h5)
 cases l with
 |nil=>exact absurd rfl aq
 |cons z l=>
  obtain⟨z1,z2⟩:=z;simp only[Wb,Qf]at fin |-;exact fin
end Go.Am
namespace Go.Proofs.YtmejfcakhpihlaaGreatDoor
open Go.Am
theorem En.as{h:WA}{vt vf:Value}{T:List WE}{F:List Wa}(n:Nat)(E:En h vt vf T F):En (Am.inC (zB n h)) vt vf T F:=by
 have E':=E.ext (zH n h);exact⟨E'.tt,QE _,E'.sm,E'.si,E'.st,E'.sf⟩
theorem zLD(h:WA)(vt vf:Value)(T:List WE)(F:List Wa)(E:En h vt vf T F)(bH:∀ g∈F,0<=g.sig/\g.sig<(T.length:Int))(gI:∀ g∈F,zJ g.blocks<=128)(hF:F.length<=8)
  (bm:∀ g∈F,∀ B∈g.blocks,∀ x∈B.ins,yz x=true->0<=x.ty/\x.ty<(T.length:Int)):
  WC Tryz.prog tb 151 [.agg #[vt,vf]] h fun r h'=>OwnR 3 RSt h.n h' r (zR T F)/\Ext h h':=by
 have fp:∀ i,(y8 T 0 (F.take i)).length<=1024:=fun i=>by
  have:=zA7 (T:=T) (l:=F.take i) (f:=0) fun g hg=>gI g (Q5 hg);have h2:(F.take i).length<=F.length:=by rw[Qn];omega
  omega
 have sm:=E.sm;have vJ:=sm.funcs;replace fp:=WK.mk fp;replace bH:=WK.mk bH;replace gI:=WK.mk gI;replace bm:=WK.mk bm;have Ca:=E.st;have DE:=E.sf;obtain⟨t1,t2,t3,rfl⟩:=zD Ca;obtain⟨f1,f2,f3,rfl⟩:=zD DE;refine en ?_;refine VF ?_;intro p h1 e1 o1;replace o1:WB h h1 p [.slice t1 t2 t3,.slice f1 f2 f3]:=o1;have E1:=E.ext e1;have fV:=E1.sf;have cH:=E1.hm;refine go ?_;refine VD (fun i=>F.length-i) (fun i t h2=>zC t 4=I i/\i<=F.length/\Ext h1 h2/\∃ v,zC t 3=v/\OwnR 3 RSt h1.n h2 v (y8 T 0 (F.take i))) 0 ?_ ?_
 ·exact⟨WH,QK _,Ext.refl _,.slice none 0 0,WH,.inl ⟨rfl,rfl⟩⟩
 rintro i t h2 ab ⟨s4,hi,e2,v,s3,ov⟩;have o2:=o1.ext e2;have E2:=E1.ext e2;have cW:=E2.sf;refine go ?_;refine VE (fun hb=> ?_) (fun hb=> ?_)<;>simp only[DB]at hb
 ·have ae:i<F.length:=by omega
  have gF:=zE (l:=F) (i:=i) ae;obtain⟨cs,⟨vb,rfl,sb,cD⟩,px,hs⟩:=zP (i:=i) fV ae;have dC:=bH.out _ gF;have jG:=sm.blocks _ gF;have bD:=sm.parts _ (zE (l:=T) (i:=(F.getD i default).sig.toNat) (by omega));have bp:y8 T 0 (F.take (i+1))=y8 T 0 (F.take i)++yq T i ((T.getD (F.getD i default).sig.toNat default).parts.length:Int) (F.getD i default).blocks:=by
   rw[ZP ae,zBT,Qn,Gg (by omega),Int.zero_add]
  have ji:=sm.ins _ gF;have jj:=bm.out _ gF;have IF:=gI.out _ gF;replace ji:=WK.mk ji;replace jj:=WK.mk jj;generalize hg:F.getD i default=g at *;replace hg:=WK.mk hg;obtain⟨b1,b2,b3,rfl⟩:=zD sb;refine go ?_;refine VD (fun j=>g.blocks.length-j) (fun j t h5=>zC t 5=I j/\j<=g.blocks.length/\Ext h1 h5/\∃ v,zC t 3=v/\OwnR 3 RSt h1.n h5 v (y8 T 0 (F.take i)++yq T i ((T.getD g.sig.toNat default).parts.length:Int) (g.blocks.take j))) 0 ?_ ?_
  ·exact⟨WH,QK _,e2,v,WH,by simpa [yq]using ov⟩
  rintro j t' h5 mY ⟨s5,hj,e5,v',s3',uz⟩;have o5:=o1.ext e5;have pc:=(px _ e5).1;have tf:=Wo.ext fV e5;have AH:=Wv.ext sb e5;refine go ?_;refine VE (fun cY=> ?_) (fun cY=> ?_)<;>simp only[DB]at cY
  ·have fD:j<g.blocks.length:=by omega
   have jh:=zE (l:=g.blocks) (i:=j) fD;obtain⟨pE,⟨vi,rfl,si,fc⟩,IG,mo⟩:=zP (i:=j) sb fD;have kR:=(IG _ e5).1;have dG:=ji.out _ jh;have uA:yq T i ((T.getD g.sig.toNat default).parts.length:Int) (g.blocks.take (j+1))=yq T i ((T.getD g.sig.toNat default).parts.length:Int) (g.blocks.take j)++ZC T i ((T.getD g.sig.toNat default).parts.length+zJ (g.blocks.take j)) (g.blocks.getD j default).ins:=by
    rw[ZP fD,zBf]
   have eo:0<=zJ (g.blocks.take j)/\zJ (g.blocks.take j)<=128:=by
    have:=zBm g.blocks j;omega
   have mo:=zA9 (T:=T) (f:=(i:Int)) (l:=g.blocks.take j) (n:=((T.getD g.sig.toNat default).parts.length:Int));have jk:=jj.out _ jh;replace jk:=WK.mk jk;generalize g.blocks.getD j default=B at *;obtain⟨i1,i2,i3,rfl⟩:=zD si;refine go ?_;refine VD (fun q=>B.ins.length-q) (fun q t h8=>zC t 7=I q/\q<=B.ins.length/\Ext h1 h8/\∃ v,zC t 3=v/\OwnR 3 RSt h1.n h8 v (y8 T 0 (F.take i)++yq T i ((T.getD g.sig.toNat default).parts.length:Int) (g.blocks.take j)++ZC T i ((T.getD g.sig.toNat default).parts.length+zJ (g.blocks.take j)) (B.ins.take q))) 0 ?_ ?_
   ·exact⟨WH,QK _,e5,v',WH,by simpa [ZC]using uz⟩
   rintro q II h8 jK ⟨s7,hq,e8,Cd,RU,gC⟩;have o8:=o1.ext e8;have rM:=BB.ext si e8;refine go ?_;refine VE (fun mZ=> ?_) (fun mZ=> ?_)<;>simp only[DB]at mZ
   ·have cE:q<B.ins.length:=by omega
    have kJ:=zE (l:=B.ins) (i:=q) cE;obtain⟨wD,⟨xa,xf,rfl,cr,cz,vG,DF,ho⟩,DG,wE⟩:=zP (i:=q) si cE;have fN:=(DG _ e8).1;have m7:∀ n:Int,ZC T i n (B.ins.take (q+1))=ZC T i n (B.ins.take q)++(if yz (B.ins.getD q default)then[⟨i,n+q,(T.getD (B.ins.getD q default).ty.toNat default).elem⟩]else[]):=fun n=>by
     rw[ZP cE,zBQ,Qn,Gg (by omega)]
    have uB:=jk.out _ kJ;have cT:yz (B.ins.getD q default)=(decide ((B.ins.getD q default).op=11)||decide ((B.ins.getD q default).op=12)):=rfl;generalize B.ins.getD q default=x at *;by_cases pq:x.op=11\/x.op=12
    ·have Ce:yz x=true:=by rw[cT];simpa using pq
     have hx:=uB Ce;have wK:=(E1.ext e8).st;obtain⟨kQ,⟨ya,rfl,uh,LG⟩,RV,mh⟩:=zP (i:=x.ty.toNat) wK (by omega);obtain⟨bT,nT,kT,eT,lT⟩:=YI wK (i:=x.ty.toNat) (by omega);obtain⟨bI,nI,kI,eI,lI⟩:=YI rM cE;have E8:=E1.ext e8;have EY:=E8.as 1;have LX:WB h (inC (zB 1 h8)) p [.slice t1 t2 t3,.slice f1 f2 f3]:=VI (o8.ext (zH 1 h8));have Fj:=zA3 (T:=T) (f:=(i:Int)) (l:=B.ins.take q) (n:=(T.getD g.sig.toNat default).parts.length+zJ (g.blocks.take j));have jH:(B.ins.take q).length<=q:=List.length_take_le _ _;have vQ:=fp.out i;have qm:h8.mark<=h1.n:=by rw[e8.mark];exact cH
     rcases pq with gH|dB;all_goals
      refine go ?_
      refine VC 1 rfl rfl ?_
      refine WJ ?_
      refine VA (zCL _ _ _ T F i q j EY (by omega) (by rw[QL,hg.out];exact dC) (by rw[QL,hg.out];exact fD) (by omega)) ?_
      rintro r X ⟨hr,eX⟩
      rw[QL,hg.out]at hr
      subst hr
      refine nE eX ?_
      have rN:Ext h8 (outC h8 X):=(zH 1 h8).trans (zZ (h:=h8) eX)
      have o8X:WB h (inC X) p [.slice t1 t2 t3,.slice f1 f2 f3]:=WB.ext (h':=X) LX eX
      have Lb:BB (inC X) (.slice i1 i2 i3) B.ins:=BB.ext (h':=outC h8 X) rM rN
      have lh:Wu (inC X) (.slice t1 t2 t3) T:=Wu.ext (h':=outC h8 X) wK rN
      have AM:Wp (inC X) (.slice i1 i2 i3) (q*7) _:=(DG _ (e8.trans rN)).2
      have RW:Wp (inC X) (.slice t1 t2 t3) (x.ty.toNat*4) _:=(RV _ rN).2
      refine WJ ?_
      refine yZ (j:=0) o8 (Qr _) ?_
      refine WJ ?_
      refine zEP (v:= .slice i1 i2 i3) (j:=q*7+1) ⟨bI,nI,kI,eI,Nat.lt_succ_of_lt lI⟩ ?_
      refine WJ ?_
      refine zEP (v:= .slice t1 t2 t3) (j:=x.ty.toNat*4+1) ⟨bT,nT,kT,eT,Nat.lt_succ_of_lt lT⟩ ?_
      refine WJ ?_
      refine Vj (hB:=h1) (b:=h1.n) (⟨i,(T.getD g.sig.toNat default).parts.length+zJ (g.blocks.take j)+q,(T.getD x.ty.toNat default).elem⟩:W2) (fun _=>False) eX gC e8 qm (QE _) e8.n (by decide) (by simp only[QM];omega) (fun _ _ _=>rfl) (fun _ h=>h.elim) (fun _ _ _ _ h=>h) (fun h=>h) ?_
      intro Y IK lit az dH _ _
      refine WJ ?_
      exact zA (q+1) (by omega) ⟨Wn,by omega,az,IK,WH,by rw[m7,Ce,QF rfl,<-QT];exact dH⟩
    ·have IL:yz x=false:=by rw[cT];simpa using pq
     have gH:¬x.op=11:=fun e=>pq (.inl e);have dB:¬x.op=12:=fun e=>pq (.inr e);refine go ?_;refine zA (q+1) (by omega) ⟨Wn,by omega,e8,Cd,WH,?_⟩;rw[m7,IL];simpa using gC
   ·have iW:q=B.ins.length:=by omega
    subst iW;rw[Qg]at gC;refine go ?_;refine zA (j+1) (by omega) ⟨Wn,by omega,e8,Cd,WH,?_⟩;rw[uA,<-QT];exact gC
  ·have re:j=g.blocks.length:=by omega
   subst re;rw[Qg]at uz;refine go ?_;refine zA (i+1) (by omega) ⟨Wn,by omega,e5,v',WH,?_⟩;rw[bp];exact uz
 ·have aK:i=F.length:=by omega
  subst aK;rw[Qg]at ov;refine gr ?_;exact⟨ov.base e1.n,e1.trans e2⟩
end Go.Proofs.YtmejfcakhpihlaaGreatDoor
set_option maxRecDepth 100000
namespace Go.Proofs.YtmejfcakhpihlaaGreatDoor
open Go.Am
section
variable {h:WA}{vt vf:Value}{T:List WE}{F:List Wa}
theorem zJ7(E:En h vt vf T F)(hs:z8 T F=0):WC Tryz.prog tb 151 [.agg #[vt,vf]] h fun r h'=>OwnR 3 RSt h.n h' r (zR T F)/\Ext h h':=by
 obtain⟨hp,hw⟩:=z9 hs;obtain⟨hc,lN,ig,hfn⟩:=yN hp;have hg:∀ g∈F,(0<=g.sig/\g.sig<(T.length:Int))/\zJ g.blocks<=128:=fun g hg=>by
  obtain⟨i,hi,rfl⟩:=Zl hg;have Z:=zBL hp (f:=(i:Int)) (by omega);have h1:=Z.sig;have h2:=Z.many;unfold zF at h2;rw[QL]at h1 h2;exact⟨h1,h2⟩
 refine zLD h vt vf T F E (fun g q=>(hg g q).1) (fun g q=>(hg g q).2) ig fun g hg B hB x hx hm=> ?_;obtain⟨f,hf,rfl⟩:=Zl hg;obtain⟨b,hb,rfl⟩:=Zl hB;obtain⟨i,hi,rfl⟩:=Zl hx;have:=zG2 hs hf hb hi hm;refine this.2.resolve_left fun e=> ?_;have h1:=this.1;unfold Ww at h1;rw[e]at h1;cases h1
theorem zOx(E:En h vt vf T F):WC Tryz.prog tb 154 [.agg #[vt,vf]] h fun r h'=>r=I (zPr F)/\Ext h h':=by
 obtain⟨f1,f2,f3,rfl⟩:=zD E.sf;have hF:=E.sm.funcs;refine en ?_;refine VF ?_;intro p h1 e1 o1;replace o1:WB h h1 p [vt,.slice f1 f2 f3]:=o1;have fV:=(E.ext e1).sf;refine gr ?_;exact⟨rfl,e1⟩
theorem zJu(E:En h vt vf T F)(hs:z8 T F=0){vS:Value}(sS:SlS h vS (zR T F))(n:Nat)(hn:n<=(zR T F).length):WC Tryz.prog tb 153 [.agg #[vt,vf],vS,I n] h fun r h'=>r=I ((ZV T F).take n).sum/\Ext h h':=by
 have fZ:=(yN (z9 hs).1).1;have hl:=zBP fZ;have jl:=zBt hs;have eg:=zBH hs;have hT:=E.sm.types;have rO:∀ y∈ZV T F,0<=y/\y<=1000:=fun y hy=>by
  unfold ZV at hy;obtain⟨s,hs,rfl⟩:=Qw.1 hy;have:=jl s hs;have h1:=zAa (T:=T) (s.ty.toNat+1) s.ty.toNat (Q4 _) fun j hj=>(hl j (by omega)).1;have h2:=(hl s.ty.toNat (by omega)).2;omega
 have cG:(ZV T F).length=(zR T F).length:=by unfold ZV;simp
 obtain⟨t1,t2,t3,rfl⟩:=zD E.st;obtain⟨s1,s2,s3,rfl⟩:=zD sS;replace hl:=WK.mk hl;replace jl:=WK.mk jl;replace rO:=WK.mk rO;refine en ?_;refine VF ?_;intro p h1 e1 o1;replace o1:WB h h1 p [.slice t1 t2 t3,vf]:=o1;have LY:=SlS.ext sS e1;refine go ?_;refine VD (fun i=>n-i) (fun i t h2=>zC t 8=I i/\i<=n/\Ext h1 h2/\zC t 7=I ((ZV T F).take i).sum) 0 ?_ ?_
 ·exact⟨WH,QK _,Ext.refl _,WH⟩
 rintro i t h2 ab ⟨s8,hi,e2,s7⟩;have kg:=zAK (l:=(ZV T F).take i) fun y hy=>rO.out y (Q5 hy);have fc:((ZV T F).take i).length<=i:=List.length_take_le _ _;refine go ?_;refine VE (fun hc=> ?_) (fun hc=> ?_)<;>simp only[DB]at hc
 ·have ae:i<n:=by omega
  have hx:=rO.out _ (zM (l:=ZV T F) (i:=i) (by omega));have eh:((ZV T F).take (i+1)).sum=((ZV T F).take i).sum+(ZV T F).getD i 0:=by
   rw[Q1,QB (by omega),Gq];simp[List.getD,QB (show i<(ZV T F).length by omega)]
  have bm:=jl.out _ (zE (l:=zR T F) (i:=i) (by omega));have fI:(ZV T F).getD i 0=((yG T ((zR T F).getD i default).ty.toNat).length:Int):=by
   unfold ZV;rw[YJ (a:=default) (by omega)]
  have az:=e1.trans e2;have o2:=o1.ext e2;refine go ?_;refine VC 0 rfl rfl ?_;have Lq:WB h (inC (zB 0 h2)) p [.slice t1 t2 t3,vf]:=o2;have oi:Wu (inC (zB 0 h2)) (.slice t1 t2 t3) T:=(E.ext az).st;have DH:SlS (inC (zB 0 h2)) (.slice s1 s2 s3) (zR T F):=SlS.ext (h':=h2) sS az;obtain⟨RX,IM,RY,IN⟩:=zq (i:=i) DH (by omega);generalize(zR T F).getD i default=x at *;have IM:RX=[I x.fn,I x.nr,I x.ty]:=IM;subst IM;obtain⟨k,hk⟩:∃ k:Nat,x.ty=k:=⟨x.ty.toNat,by omega⟩;rw[hk]at bm RY;rw[hk,QL]at fI;refine WJ ?_;refine VA (zGf _ T (by omega) (k+1) k _ (by omega) oi (by omega) (fun j hj=>hl.out j (by omega)) (hl.out k (by omega)).1) ?_;rintro r X ⟨or,eX⟩;refine nE eX ?_;have sr:WQ (inC X) r (yG T k):=or.sl;obtain⟨r1,r2,r3,rfl⟩:=Wi.shape sr;have RZ:=(zH 0 h2).trans (zZ (h:=h2) eX);refine WJ ?_;refine zA (i+1) (by omega) ⟨Wn,by omega,e2.trans RZ,?_⟩;rw[eh,fI];exact WH
 ·have aK:i=n:=by omega
  subst aK;refine gr ?_;exact⟨rfl,e1.trans e2⟩
end
end Go.Proofs.YtmejfcakhpihlaaGreatDoor
set_option maxRecDepth 100000
namespace Go.Proofs.YtmejfcakhpihlaaGreatDoor
open Go.Am
theorem zBj{T:List WE}{F:List Wa}(hs:z8 T F=0):(zz T F).length=F.length/\F.length<=8/\(∀ x∈zz T F,0<=x/\x<=1000)/\∀ i,i<F.length->(0<=(F.getD i default).sig/\(F.getD i default).sig<(T.length:Int))/\(zz T F).getD i 0=((T.getD (F.getD i default).sig.toNat default).parts.length:Int)+zJ (F.getD i default).blocks:=by
 have hp:=(z9 hs).1;obtain⟨hc,lN,ig,hfn⟩:=yN hp;refine⟨by unfold zz;simp,by simpa using ig,fun x hx=> ?_,fun i hi=>⟨?_,?_⟩⟩
 ·unfold zz at hx;obtain⟨g,hg,rfl⟩:=Qw.1 hx;obtain⟨i,hi,rfl⟩:=Zl hg;have Z:=zBL hp (f:=(i:Int)) (by omega);have h1:=Z.many;have h2:=Z.par4;have h3:=zCn (F.getD i default).blocks;unfold zF at h1;unfold zj at h2;rw[QL]at h1 h2;omega
 ·have Z:=zBL hp (f:=(i:Int)) (by omega);have h1:=Z.sig;rw[QL]at h1;exact h1
 ·unfold zz;rw[YJ (a:=default) hi]
theorem zPK{T:List WE}{F:List Wa}(hs:z8 T F=0):(ZV T F).length=(zR T F).length/\(zR T F).length<=1024/\(∀ x∈ZV T F,0<=x/\x<=1000)/\∀ i,i<(zR T F).length->(0<=((zR T F).getD i default).ty/\((zR T F).getD i default).ty<(T.length:Int))/\(ZV T F).getD i 0=((yG T ((zR T F).getD i default).ty.toNat).length:Int):=by
 have hl:=zBP (yN (z9 hs).1).1;have jl:=zBt hs;refine⟨by unfold ZV;simp,zBH hs,fun y hy=> ?_,fun i hi=>⟨jl _ (zE hi),?_⟩⟩
 ·unfold ZV at hy;obtain⟨s,hs,rfl⟩:=Qw.1 hy;have:=jl s hs;have h1:=zAa (T:=T) (s.ty.toNat+1) s.ty.toNat (Q4 _) fun j hj=>(hl j (by omega)).1;have h2:=(hl s.ty.toNat (by omega)).2;omega
 ·unfold ZV;rw[YJ (a:=default) hi]
section
variable {h:WA}{vt vf:Value}{T:List WE}{F:List Wa}
theorem zEc(E:En h vt vf T F)(hs:z8 T F=0)(n:Nat)(hn:n<=F.length):WC Tryz.prog tb 100 [.agg #[vt,vf],I n] h fun r h'=>r=I ((zz T F).take n).sum/\Ext h h':=by
 obtain⟨wL,ig,hb,hc⟩:=zBj hs;replace hb:=WK.mk hb;replace hc:=WK.mk hc;refine en ?_;refine VF ?_;intro p h1 e1 o1;replace o1:WB h h1 p [vt,vf]:=o1;refine go ?_;refine VD (fun i=>n-i) (fun i t h2=>zC t 6=I i/\i<=n/\Ext h1 h2/\zC t 5=I ((zz T F).take i).sum) 0 ?_ ?_
 ·exact⟨WH,QK _,Ext.refl _,WH⟩
 rintro i t h2 ab ⟨s6,hi,e2,s5⟩;have kg:=zAK (l:=(zz T F).take i) fun y hy=>hb.out y (Q5 hy);have fc:((zz T F).take i).length<=i:=List.length_take_le _ _;have o2:=o1.ext e2;refine go ?_;refine VE (fun hq=> ?_) (fun hq=> ?_)<;>simp only[DB]at hq
 ·have hx:=hb.out _ (zM (l:=zz T F) (i:=i) (by omega));have eh:((zz T F).take (i+1)).sum=((zz T F).take i).sum+(zz T F).getD i 0:=by
   rw[Q1,QB (by omega),Gq];simp[List.getD,QB (show i<(zz T F).length by omega)]
  obtain⟨bH,mV⟩:=hc.out i (by omega);refine go ?_;refine VA (zLG h2 vt vf T F i (E.ext (e1.trans e2)) (by omega) (by rw[QL];exact bH)) ?_;rintro _ h3 ⟨rfl,e3⟩;rw[QL,<-mV];refine go ?_;refine zA (i+1) (by omega) ⟨Wn,by omega,e2.trans e3,?_⟩;rw[eh];exact WH
 ·have aK:i=n:=by omega
  subst aK;refine gr ?_;exact⟨rfl,e1.trans e2⟩
theorem zKh(E:En h vt vf T F)(hs:z8 T F=0):WC Tryz.prog tb 156 [.agg #[vt,vf]] h fun r h'=>r=I (zGy T F)/\Ext h h':=by
 obtain⟨wL,ig,hb,hc⟩:=zBj hs;have kg:=zAK hb;replace hb:=WK.mk hb;replace hc:=WK.mk hc;unfold zGy;obtain⟨f1,f2,f3,rfl⟩:=zD E.sf;refine en ?_;refine VF ?_;intro p h1 e1 o1;replace o1:WB h h1 p [vt,.slice f1 f2 f3]:=o1;have fV:=(E.ext e1).sf;refine go ?_;refine VC 0 rfl rfl ?_;have oh:WB h (inC (zB 0 h1)) p [vt,.slice f1 f2 f3]:=o1;have wI:Wo (inC (zB 0 h1)) (.slice f1 f2 f3) F:=fV;have EX:=(E.ext e1).as 0;refine WJ ?_;refine VA (zEc EX hs F.length (QE _)) ?_;rintro _ X ⟨rfl,eX⟩;rw[<-wL,Qg];refine nE eX ?_;have jd:WB h (inC X) p [vt,.slice f1 f2 f3]:=WB.ext (h':=X) oh eX;have dJ:Wo (inC X) (.slice f1 f2 f3) F:=Wo.ext (h':=X) wI eX;refine WJ ?_;refine yZ (j:=1) o1 (QE _) ?_;refine BY ?_;have R0:Ext h1 (outC h1 X):=(zH 0 h1).trans (zZ (h:=h1) eX);exact⟨by rw[wL];rfl,e1.trans R0⟩
end
theorem zKX{T:List WE}{F:List Wa}(hs:z8 T F=0):(∀ x∈zz T F,0<=x/\x<=1000)/\(zz T F).length=F.length/\1<=F.length/\F.length<=8:=by
 have hp:=(z9 hs).1;obtain⟨hc,lN,ig,hfn⟩:=yN hp;refine⟨fun x hx=> ?_,by unfold zz;simp,by omega,by omega⟩;unfold zz at hx;obtain⟨g,hg,rfl⟩:=Qw.1 hx;obtain⟨i,hi,rfl⟩:=Zl hg;have Z:=zBL hp (f:=(i:Int)) (by omega);have h1:=Z.many;have h2:=Z.par4;have h3:=zCn (F.getD i default).blocks;unfold zF at h1;unfold zj at h2;rw[QL]at h1 h2;omega
theorem zNq{l:List Int}{i:Nat}(hi:i<l.length):(l.take (i+1)).sum=(l.take i).sum+l.getD i 0:=by
 rw[Q1,QB hi,Gq];simp[List.getD,QB hi]
end Go.Proofs.YtmejfcakhpihlaaGreatDoor
set_option maxRecDepth 100000
namespace Go.Proofs.YtmejfcakhpihlaaGreatDoor
open Go.Am
theorem zLk(h:WA)(x:WE)(va:Value)(sa:WQ h va x.parts)(h4:x.kind=4):
  WC Tryz.prog tb 195 [.agg #[.int .u8 x.kind,I x.elem,I x.many,va]] h fun r h'=>r=va/\Ext h h':=by
 obtain⟨a1,a2,a3,rfl⟩:=Wi.shape sa;refine en ?_;refine VF ?_;intro p h1 e1 o1;replace o1:WB h h1 p [.int .u8 x.kind,I x.elem,I x.many,.slice a1 a2 a3]:=o1;refine gr ?_;exact⟨rfl,e1⟩
theorem zNT(h:WA)(vt:Value)(T:List WE)(k n:Int)(st:Wu h vt T)(hT:T.length<=100)(hp:∀ x∈T,x.parts.length<=100)(hc:yS T=0)(hk:0<=k/\k<(T.length:Int))(h4:(T.getD k.toNat default).kind=4)(hn:0<=n/\n<((T.getD k.toNat default).parts.length:Int)):
  WC Tryz.prog tb 137 [vt,I k,I n] h fun r h'=>r=.tuple #[I ((T.getD k.toNat default).parts.getD n.toNat 0),I 0]/\Ext h h':=by
 have hm:=zBl hc hk.1 hk.2;have h8:=(zFO hm h4).1;refine en ?_;refine VA (zGO h vt T k st hT hp hc hk) ?_;rintro _ h2 ⟨rfl,e2⟩;have bC:=Wu.ext st e2;obtain⟨cs,⟨va,rfl,sa,br⟩,pc,hs⟩:=yM (i:=k.toNat) bC (by omega);obtain⟨t1,t2,t3,rfl⟩:=zD bC;generalize T.getD k.toNat default=x at *;obtain⟨a1,a2,a3,rfl⟩:=Wi.shape sa;refine go ?_;refine VA (zLk h2 x _ sa h4) ?_;rintro _ h3 ⟨rfl,e3⟩;have i7:=sa.ext e3;refine go ?_;refine WO.bl [n] ?_;intro v4 jM e4 o4;have ht:yv (x.parts.length:Int) [n]=true:=by unfold yv;simp[hn.1,hn.2]
 refine go ?_;refine VA (zAi jM v4 (x.parts.length:Int) [n] o4.sl (by simp)) ?_;rintro _ h5 ⟨rfl,e5⟩;rw[ht];have Fb:=i7.ext (e4.trans e5);refine gr ?_;exact⟨rfl,e2.trans (e3.trans (e4.trans e5))⟩
theorem zNE{h:WA}{v:Value}{l:List Int}{n:Nat}(s:WQ h v l)(hl:0<l.length)(hn:n<=l.length):∃ r,Zp 1 v none (some n) none=some r/\WQ h r (l.take n):=by
 obtain⟨h1,⟨h2,_⟩|⟨g,off,row,rfl,h3,h4,h5⟩⟩:=s
 ·omega
 have hlen:(l.take n).length=n:=by rw[Qn];omega
 refine⟨.slice (some ⟨g,off+0*1,none⟩) (n-0) 1,?_,by simp,.inr ⟨g,off,row,by rw[hlen];simp,h3,?_,h5⟩⟩
 ·have b1:Nat.ble 0 n=true:=QH (QK _);have b2:Nat.ble n l.length=true:=QH hn;simp only[Zp,Gu,GB,b1,b2,Qp,Qv,cond_true,GR]
 ·obtain⟨c1,c2⟩:=zDV h4;rw[ZD (by rw[hlen];omega),List.map_take,c2,hlen,List.take_take,G4,G4,Gg hn]
def stepL(T:List WE)(s n:Int):Int:=(((T.getD s.toNat default).parts.take n.toNat).map fun p=>((yG T p.toNat).length:Int)).sum
theorem zOA(h:WA)(vt:Value)(T:List WE)(k n:Int)(st:Wu h vt T)(hT:T.length<=100)(hp:∀ x∈T,x.parts.length<=100)(hc:yS T=0)(hk:0<=k/\k<(T.length:Int))(h4:(T.getD k.toNat default).kind=4)(hn:0<=n/\n<((T.getD k.toNat default).parts.length:Int))(hm:h.mark<=h.n):
  WC Tryz.prog tb 86 [vt,I k,I n] h fun r h'=>(∃ e,r=.tuple #[I (stepL T k n),e])/\Ext h h':=by
 have gI:=zBl hc hk.1 hk.2;have IP:=zFO gI h4;have ag:=zBP hc;refine en ?_;refine VA (zNT h vt T k n st hT hp hc hk h4 hn) ?_;rintro _ h2 ⟨rfl,e2⟩;have bC:=Wu.ext st e2;obtain⟨cs,⟨va,rfl,sa,br⟩,pc,hs⟩:=yM (i:=k.toNat) bC (by omega);obtain⟨t1,t2,t3,rfl⟩:=zD bC;have rP:stepL T k n=(((T.getD k.toNat default).parts.take n.toNat).map fun p=>((yG T p.toNat).length:Int)).sum:=rfl;rw[rP];have cG:∀ p∈(T.getD k.toNat default).parts,(0<=p/\p<(T.length:Int))/\(yG T p.toNat).length<=32:=fun p dv=>by
  have h1:=IP.2 p dv;have h2:=ag p.toNat (by omega);exact⟨by omega,QP (zAa (p.toNat+1) p.toNat (Q4 _) fun j hj=>(ag j (by omega)).1) h2.2⟩
 clear rP;generalize T.getD k.toNat default=x at *;obtain⟨a1,a2,a3,rfl⟩:=Wi.shape sa;have Ds:=IP.1;clear IP;obtain⟨w,hw,sw⟩:=zNE (n:=n.toNat) sa (by omega) (by omega);have RH:(x.parts.take n.toNat).length=n.toNat:=by rw[Qn];omega
 have uC:∀ p∈x.parts.take n.toNat,(0<=p/\p<(T.length:Int))/\(yG T p.toNat).length<=32:=fun p dv=>cG p (Q5 dv);obtain⟨m,rfl⟩:∃ m:Nat,n=m:=⟨n.toNat,by omega⟩;rw[QL]at *;generalize x.parts.take m=l at *;replace cG:=WK.mk cG;replace uC:=WK.mk uC;replace ag:=WK.mk ag;obtain⟨w1,w2,w3,rfl⟩:=Wi.shape sw;refine go ?_;refine Vu hw ?_;refine go ?_;refine VD (fun i=>l.length-i) (fun i t h3=>zC t 38=I i/\i<=l.length/\Ext h2 h3/\zC t 6=I ((l.take i).map fun p=>((yG T p.toNat).length:Int)).sum/\0<=((l.take i).map fun p=>((yG T p.toNat).length:Int)).sum/\((l.take i).map fun p=>((yG T p.toNat).length:Int)).sum<=32*i) 0 ?_ ?_
 ·exact⟨WH,QK _,Ext.refl _,WH,by simp,by simp⟩
 rintro i t h3 ab ⟨R1,hi,e3,s6,aQ,cZ⟩;have sw3:=sw.ext e3;refine go ?_;refine VE (fun bM=> ?_) (fun bM=> ?_)<;>simp only[DB]at bM
 ·have ae:i<l.length:=by omega
  have hx:=uC.out _ (zM ae);have bp:((l.take (i+1)).map fun p=>((yG T p.toNat).length:Int)).sum=((l.take i).map fun p=>((yG T p.toNat).length:Int)).sum+((yG T (l.getD i 0).toNat).length:Int):=by
   rw[Q1,QB ae,Qx,Gq];congr 1;simp[List.getD,QB ae]
  have d7:=e2.trans e3;refine go ?_;refine VA (zFt h3 _ T (l.getD i 0) (Wu.ext st d7) hT hp hc hx.1 (by rw[d7.mark];exact QP hm d7.n)) ?_;rintro _ h4 ⟨⟨v,rfl,ov⟩,e4⟩;have sv:=ov.sl;obtain⟨v1,v2,v3,rfl⟩:=Wi.shape sv;generalize((l.take i).map fun p=>((yG T p.toNat).length:Int)).sum=a at *;refine go ?_;exact zA (i+1) (by omega) ⟨Wn,by omega,e3.trans e4,by rw[bp];exact WH,by rw[bp];omega,by rw[bp];omega⟩
 ·have aK:i=l.length:=by omega
  subst aK;rw[Qg]at *;refine gr ?_;exact⟨⟨_,rfl⟩,e2.trans e3⟩
end Go.Proofs.YtmejfcakhpihlaaGreatDoor
