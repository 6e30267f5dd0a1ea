/- Walks of functions, plain laws; proves no statement. -/
import Derived.Test.YtfnndahpddkniaaGreatDoorJh
set_option linter.all false
set_option maxHeartbeats 2000000
set_option maxRecDepth 100000
namespace Go.Proofs.YtfnndahpddkniaaGreatDoor
open Go.Am
section
variable {P:Program}{tab:Wo}{t:U5 Value}{ds:List Deferred}{rd:Option Nat}{h:U0}{Q:WH->U0->Prop}{l:List U3}{d:Nat}{ty:TypeId}{x:Operand}{v r:Value}
theorem WO.as{ok:Bool}(hr:zDg P ty ok v=some r)(k:WO P tab l ⟨t.set d r,ds,rd⟩ h Q)(hx:WB t x v:=by exact zP):WO P tab (⟨some d,none,.assert ty ok x⟩::l) ⟨t,ds,rd⟩ h Q:=
 WO.op _ _ rfl (by unfold WB at *;simp only[U8,hx,hr,QI]) k
theorem UJ(hr:zDf P ty v=some r)(k:WO P tab l ⟨t.set d r,ds,rd⟩ h Q)(hx:WB t x v:=by exact zP):WO P tab (⟨some d,none,.typeOf ty x⟩::l) ⟨t,ds,rd⟩ h Q:=
 WO.op _ _ rfl (by unfold WB at *;simp only[U8,hx,hr,QI]) k
theorem Ur{f:FuncId}{name:String}{u:Value}(hm:zBM P ty name=some f)(k:WC P tab f [u] h fun v h'=>WO P tab l ⟨t.set d v,ds,rd⟩ h' Q)(hx:WB t x (.iface ty u):=by exact zP):WO P tab (⟨some d,none,.invoke x name []⟩::l) ⟨t,ds,rd⟩ h Q:=
 WO.invoke hx hm rfl k
theorem Ua{G rt:Nat}{b:Bool}(hb:YX P G rt ty=some b)(k:WO P tab l ⟨t.set d (.bool b),ds,rd⟩ h Q)(hx:WB t x (zF2 G rt ty):=by exact zP):WO P tab (⟨some d,none,.invoke x "Comparable" []⟩::l) ⟨t,ds,rd⟩ h Q:=
 XA hx hb k
end
abbrev tyE:Nat:=33
abbrev zKZ:Value:= .iface tyE (I 120)
theorem zI2(h:U0)(f b:Int):WC Tryz.prog tb 267 [.agg #[I f,I b,I 120]] h fun r h'=>r=zKZ/\Ext h h':=by
 refine en ?_;refine VF ?_;intro p h1 e1 o1;replace o1:U1 h h1 p [I f,I b,I 120]:=o1;refine go ?_;refine VW ?_;refine gr ?_;exact⟨rfl,e1⟩
theorem zO7(h:U0)(f b:Int):WC Tryz.prog tb 140 [Br f b,zKZ,.bool true] h fun r h'=>r=.bool true/\Ext h h':=by
 refine en ?_;refine VD (fun i=>2-i) (fun i t h'=>Ext h h'/\((i=0/\zB t 0=Br f b)\/(i=1/\zB t 0=zKZ))) 0 ?_ ?_
 ·exact⟨Ext.refl _,.inl ⟨rfl,U6⟩⟩
 rintro i t h1 hsame ⟨e1,⟨rfl,s0⟩|⟨rfl,s0⟩⟩
 ·unfold Br at s0;refine go ?_;refine Vn (v:= .bool false) (by kernel_rfl) ?_;refine go ?_;refine WO.as (r:= .tuple #[.nilIface,.bool false]) (by kernel_rfl) ?_;refine go ?_;refine WO.as (r:= .tuple #[.iface tyF (.agg #[I f,I b,I 120]),.bool true]) (by kernel_rfl) ?_;refine go ?_;refine Ur (f:=267) (by kernel_rfl) ?_;refine WC.mono (zI2 h1 f b) ?_;rintro _ h2 ⟨rfl,e2⟩;refine go ?_;simp only[GX,QZ];refine go ?_;exact zA 1 (by omega) ⟨e1.trans e2,.inr ⟨rfl,U6⟩⟩
 ·refine go ?_;refine Vn (v:= .bool true) (by kernel_rfl) ?_;refine gr ?_;exact⟨rfl,e1⟩
theorem zO3(h:U0)(f b:Int):WC Tryz.prog tb 105 [Br f b,zKZ] h fun r h'=>r=.bool true/\Ext h h':=by
 unfold Br;refine en ?_;simp only[GX,QZ];refine go ?_;simp only[GX,QZ];refine go ?_;refine UJ (v:=zKZ) rfl ?_;refine go ?_;refine Ua (b:=true) (by kernel_rfl) ?_;refine go ?_;have hk:=zO7 h f b;unfold Br at hk;refine VA hk ?_;rintro _ h2 ⟨rfl,e2⟩;refine gr ?_;exact⟨rfl,e2⟩
theorem zOT(h:U0):WC Tryz.prog tb 105 [.nilIface,zKZ] h fun r h'=>r=.bool false/\h=h':=by
 refine en ?_;simp only[GX,QZ];refine go ?_;refine Vn (v:= .bool false) (by kernel_rfl) ?_;refine gr ?_;exact⟨rfl,rfl⟩
noncomputable def yS(T:List U2)(F:List WM):Int:=open Classical in if yu T F≠0 then yu T F else if WfP T F then 0 else 120
theorem zKz(h:U0)(vt vf:Value)(T:List U2)(F:List WM)(E:Env h vt vf T F):
  WC Tryz.prog tb 78 [.agg #[vt,vf]] h fun r h'=>r=I (yS T F)/\Ext h h':=by
 unfold yS;have hF:=E.sm.funcs;refine en ?_;refine VF ?_;intro p1 h1 e1 o1;replace o1:U1 h h1 p1 [vt,vf]:=o1;have E1:=E.ext e1;refine go ?_;refine VA (zJx h1 vt vf T F E1.tt E1.hm E1.sm E1.st E1.sf) ?_;rintro _ h2 ⟨rfl,e2⟩;have o2:=o1.ext e2;have E2:=E1.ext e2;have sf2:=E2.sf;by_cases hp:yu T F=0;case neg=>
  rw[QF hp];refine gr ?_;exact⟨rfl,e1.trans e2⟩
 rw[QC (fun e=>e hp),hp];refine go ?_;refine VD (fun i=>F.length-i) (fun i t h'=>Ext h2 h'/\zB t 14=I i/\i<=F.length/\WE (∀ f:Int,0<=f->f<(i:Int)->zHP T F f)) 0 ?_ ?_
 ·exact⟨Ext.refl _,U6,QK _,⟨fun f f0 f1=>by omega⟩⟩
 rintro i t h3 hsame ⟨e3,s14,hi,hI⟩;have o3:=o2.ext e3;have e03:=e1.trans (e2.trans e3);refine go ?_;refine VE (fun hb=> ?_) (fun hb=> ?_)<;>simp only[DB]at hb
 ·have hi':i<F.length:=by omega
  refine go ?_;refine VA (zGT h3 vt vf T F i (E2.ext e3) hp ⟨by omega,by omega⟩) ?_;rintro q h4 ⟨⟨rfl,hq⟩|⟨⟨b,rfl⟩,hq⟩,e4⟩
  ·refine go ?_;refine VW ?_;refine go ?_;refine VA (zOT h4) ?_;rintro _ _ ⟨rfl,rfl⟩;refine go ?_;refine zA (i+1) (by omega) ⟨e3.trans e4,Wc,by omega,⟨fun f f0 f1=> ?_⟩⟩;by_cases hfi:f=i
   ·subst hfi;exact hq
   ·exact hI.out f f0 (by omega)
  ·refine go ?_;refine VW ?_;refine go ?_;refine VA (zO3 h4 i b) ?_;rintro _ h5 ⟨rfl,e5⟩;refine gr ?_;refine⟨?_,e03.trans (e4.trans e5)⟩;rw[QC (fun w=>hq (w i (by omega) (by omega)))];rfl
 ·have hii:i=F.length:=by omega
  refine gr ?_;refine⟨?_,e03⟩;rw[QF (show WfP T F from fun f f0 f1=>hI.out f f0 (by omega))];rfl
theorem yw{T:List U2}{F:List WM}(h:yS T F=0):yu T F=0/\WfP T F:=by
 unfold yS at h;split at h
 ·rename_i hp;exact absurd h hp
 ·rename_i hp;split at h
  ·rename_i hw;exact⟨Classical.not_not.1 hp,hw⟩
  ·cases h
theorem Yl{α:Type}{a b:List α}{i:Nat}{d:α}(h:i<a.length):(a++b).getD i d=a.getD i d:=by
 rw[QH,QH,Q6 h]
theorem Yk{α:Type}{a b:List α}{i:Nat}{d:α}(h:a.length<=i):(a++b).getD i d=b.getD (i-a.length) d:=by
 rw[QH,QH,GH h]
theorem Zx{α β:Type}{l:List α}{i:Nat}{f:α->β}{a:α}{b:β}(h:i<l.length):(l.map f).getD i b=f (l.getD i a):=by
 rw[QH,QH,GT,QB h];rfl
theorem zCD(b:WL)(L:List WL):∀ n,yd (b::L) (n+1)=((List.range b.ins.length).map fun(i:Nat)=>((0:Int),(i:Int)))++(yd L n).map fun p=>(p.1+1,p.2)
 |0=>by simp[yd]
 |n+1=>by
  show yd (b::L) (n+1)++(List.range (L.getD n default).ins.length).map (fun(i:Nat)=>(((n+1:Nat):Int),(i:Int)))=_++(yd L n++(List.range (L.getD n default).ins.length).map fun(i:Nat)=>((n:Int),(i:Int))).map (fun p=>(p.1+1,p.2));rw[zCD b L n,GB,List.map_map,Ql];rfl
theorem zIS(L:List WL):((yd L L.length).length:Int)=zN L:=by
 rw[<-zCj L _ (QE _),Qk,zDz]
theorem zCM:∀ (L:List WL) (k:Int),0<=k->k<zN L->(yd L L.length).getD k.toNat default=zx L k
 |[],k,h0,h1=>by have h1:k<0:=h1;omega
 |b::L,k,h0,h1=>by
  rw[GE,zCD];rw[Zt]at h1;unfold zx;by_cases hk:k<b.ins.length
  ·rw[QC (by omega),Yl (by rw[Qv,G8];omega),Zx (a:=0) (by rw[G8];omega)];rw[QH,List.getElem?_range (by omega)];show((0:Int),((k.toNat:Nat):Int))=_;rw[show((k.toNat:Nat):Int)=k by omega]
  ·rw[QF (by omega),Yk (by rw[Qv,G8];omega),Qv,G8];have hl:=zIS L;rw[Zx (a:=default) (by omega),show k.toNat-b.ins.length=(k-b.ins.length).toNat by omega,zCM L _ (by omega) (by omega)]
theorem zC3:∀ (L:List WL) (k:Int),0<=k->k<zN L->(Ze L).getD k.toNat 0=Yv ((L.getD (zx L k).1.toNat default).ins.getD (zx L k).2.toNat default)
 |[],k,h0,h1=>by have h1:k<0:=h1;omega
 |b::L,k,h0,h1=>by
  have hc:Ze (b::L)=b.ins.map Yv++Ze L:=by unfold Ze;rw[List.flatMap_cons]
  rw[hc];rw[Zt]at h1;unfold zx;by_cases hk:k<b.ins.length
  ·rw[QC (by omega),Yl (by rw[Qv];omega),Zx (a:=default) (by omega)];rfl
  ·rw[QF (by omega),Yk (by rw[Qv];omega),Qv,show k.toNat-b.ins.length=(k-b.ins.length).toNat by omega,zC3 L _ (by omega) (by omega)];have:=(zBQ (l:=L) (a:=k-b.ins.length) (by omega) (by omega)).1;show _=Yv (((b::L).getD ((zx L (k-b.ins.length)).1+1).toNat default).ins.getD _ default);rw[show((zx L (k-b.ins.length)).1+1).toNat=(zx L (k-b.ins.length)).1.toNat+1 by omega,List.getD_cons_succ]
theorem zO4{T:List U2}{F:List WM}{f r:Int}(h0:0<=r)(h1:r<zB0 ((yD T F f).parts.length:Int) (zJ F f)):
  (Bi T F f).getD r.toNat default=if r<((yD T F f).parts.length:Int)then(-1,-1)else zx (zJ F f) (r-((yD T F f).parts.length:Int)):=by
 unfold Bi zDX;unfold zB0 at h1;split
 ·rename_i h;rw[Yl (by rw[G3];omega),zMC (by omega)]
 ·rename_i h;rw[Yk (by rw[G3];omega),G3,show r.toNat-(yD T F f).parts.length=(r-((yD T F f).parts.length:Int)).toNat by omega,zCM _ _ (by omega) (by omega)]
theorem zPT{T:List U2}{F:List WM}{f r:Int}(h0:0<=r)(h1:r<zB0 ((yD T F f).parts.length:Int) (zJ F f)):
  (W2 T F f).getD r.toNat 0=if r<((yD T F f).parts.length:Int)then(yD T F f).parts.getD r.toNat 0 else Yv (((zJ F f).getD (zx (zJ F f) (r-((yD T F f).parts.length:Int))).1.toNat default).ins.getD (zx (zJ F f) (r-((yD T F f).parts.length:Int))).2.toNat default):=by
 unfold W2 zD8;unfold zB0 at h1;split
 ·rename_i h;rw[Yl (by omega)]
 ·rename_i h;rw[Yk (by omega),show r.toNat-(yD T F f).parts.length=(r-((yD T F f).parts.length:Int)).toNat by omega,zC3 _ _ (by omega) (by omega)]
theorem zLL{T:List U2}{F:List WM}{f r:Int}(hp:yu T F=0):yx T F f r=if f<0\/(F.length:Int)<=f\/r<0\/zB0 ((yD T F f).parts.length:Int) (zJ F f)<=r then(0,0,2)else
  if r<((yD T F f).parts.length:Int)then(-1,r,0)else((zx (zJ F f) (r-((yD T F f).parts.length:Int))).1,(zx (zJ F f) (r-((yD T F f).parts.length:Int))).2,0):=by
 unfold yx;by_cases hf:0<=f/\f<(F.length:Int)
 ·have hask:zz T F f=(((yD T F f).parts.length:Int),0):=by
   unfold zz;rw[QC (fun e=>e hp),QF (by unfold zY;simp;omega)];rfl
  rw[hask];rw[QC (fun e=>e rfl)];show(if r<0\/((yD T F f).parts.length:Int)+zN (F.getD f.toNat default).blocks<=r then(0,0,2)else if r<((yD T F f).parts.length:Int)then(-1,r,0)else((zx (zJ F f) (r-((yD T F f).parts.length:Int))).1,(zx (zJ F f) (r-((yD T F f).parts.length:Int))).2,0))=_;by_cases h1:r<0\/((yD T F f).parts.length:Int)+zN (F.getD f.toNat default).blocks<=r
  ·rw[QF h1,QF (by unfold zB0 zJ;omega)]
  ·rw[QC h1,QC (c:=f<0\/_) (by unfold zB0 zJ;omega)]
 ·have hask:zz T F f=(0,2):=by
   unfold zz;rw[QC (fun e=>e hp),QC (by unfold zY;simp;omega)]
  rw[hask,QF (by decide),QF (by omega)]
theorem zL8{T:List U2}{F:List WM}{f r block at':Int}(hp:yu T F=0)(Z:FnIn T F f)(h0:0<=r)(h1:r<zB0 ((yD T F f).parts.length:Int) (zJ F f))(hb:0<=block/\block<((zJ F f).length:Int)):
  (yx T F f r).2.2=0/\(zOJ T F f r block at'↔zBx (WZ (zJ F f)) ((Bi T F f).getD r.toNat default) block at'):=by
 have hf:=Z.hf;have hnx:nxF T F f=WZ (zJ F f):=by unfold nxF;rw[Z.bl 0 (Qe 0) (by have:=Z.n1;omega)]
 have hpl:=zLL (f:=f) (r:=r) hp;rw[QC (by omega)]at hpl;unfold zOJ zBx;rw[hpl,zO4 h0 h1,hnx];by_cases c:r<((yD T F f).parts.length:Int)
 ·rw[QF c,QF c];refine⟨rfl,?_⟩;rw[QC (by show ¬(-1:Int)=block;omega)];simp
 ·rw[QC c,QC c];refine⟨rfl,?_⟩;unfold zB0 at h1;have hw:=zBQ (l:=zJ F f) (a:=r-((yD T F f).parts.length:Int)) (by omega) (by omega);have hne:(zx (zJ F f) (r-((yD T F f).parts.length:Int))).1≠ -1:=by omega
  by_cases d:(zx (zJ F f) (r-((yD T F f).parts.length:Int))).1=block
  ·rw[QF d];exact⟨fun h=>h.elim (fun h=>absurd h hne) fun h=>h.elim (fun h=>h.2) fun h=>absurd d h.2.1,fun h=> .inr (.inl ⟨d,h⟩)⟩
  ·rw[QC d];exact⟨fun h=>h.elim (fun h=>absurd h hne) fun h=>h.elim (fun h=>absurd h.1 d) fun h=> .inr h.2.2,fun h=>h.elim (fun h=>absurd h hne) fun h=> .inr (.inr ⟨hne,d,h⟩)⟩
end Go.Proofs.YtfnndahpddkniaaGreatDoor
set_option maxRecDepth 100000
namespace Go.Proofs.YtfnndahpddkniaaGreatDoor
open Go.Am
theorem zCi(h:U0)(vt:Value)(T:List U2)(k:Int)(st:Wp h vt T)(hT:(T.length:Int)<=1000):
  WC Tryz.prog tb 187 [vt,I k] h fun r h'=>(∃ b,r=.bool b/\(b=true↔PlT T k))/\h=h':=by
 refine en ?_;by_cases h0:0<=k;case neg=>
  refine gr ?_;exact⟨⟨_,rfl,by unfold PlT;simp only[BA];omega⟩,rfl⟩
 by_cases h1:k<(T.length:Int);case neg=>
  refine gr ?_;exact⟨⟨_,rfl,by unfold PlT;simp only[BA];omega⟩,rfl⟩
 obtain⟨cs,⟨va,rfl,sa,hla⟩,pc,hs⟩:=yH (i:=k.toNat) st (by omega);refine go ?_;repeat' (first|(refine VE (fun hb=> ?_) (fun hb=> ?_)<;>(try simp only[DB]at hb)<;>refine go ?_)|(refine VI (fun hb=> ?_) (fun hb=> ?_)<;>(try simp only[DB]at hb)<;>refine go ?_))
 all_goals (refine rt ?_;exact⟨⟨_,rfl,by unfold PlT;simp only[BA];omega⟩,rfl⟩)
theorem zKV(h:U0)(v:Value)(l:List Int)(m:Int)(s:WJ h v l)(hl:(l.length:Int)<=1000000):
  WC Tryz.prog tb 147 [v,I m] h fun r h'=>(∃ b,r=.bool b/\(b=true↔∀ p∈l,0<=p/\p<m))/\h=h':=by
 refine en ?_;refine VD (fun i=>l.length-i) (fun i t h1=>h=h1/\zB t 5=I i/\i<=l.length/\∀ j,j<i->0<=l.getD j 0/\l.getD j 0<m) 0 ?_ ?_
 ·exact⟨rfl,U6,QK _,fun j hj=>absurd hj (Qh _)⟩
 rintro i t _ hsame ⟨rfl,s5,hi,hm⟩;refine go ?_;refine VE (fun hb=> ?_) (fun hb=> ?_)<;>simp only[DB]at hb
 ·have hi':i<l.length:=by omega
  by_cases hok:0<=l.getD i 0/\l.getD i 0<m
  ·refine go ?_;refine zA (i+1) (by omega) ⟨rfl,Wc,by omega,fun j hj=> ?_⟩;by_cases e:j=i
   ·subst e;exact hok
   ·exact hm j (by omega)
  ·have hno:¬∀ p∈l,0<=p/\p<m:=fun hh=>hok (hh _ (zO hi'));by_cases h0:l.getD i 0<0
   ·refine gr ?_;exact⟨⟨_,rfl,by simp only[BA];exact hno⟩,rfl⟩
   ·refine gr ?_;exact⟨⟨_,rfl,by simp only[BA];exact hno⟩,rfl⟩
 ·refine gr ?_;refine⟨⟨_,rfl,?_⟩,rfl⟩;simp only[BA];intro p hp;obtain⟨j,hj,rfl⟩:=Zi hp;exact hm j (by omega)
theorem zLR(h:U0)(vt va:Value)(T:List U2)(x:U2)(st:Wp h vt T)(hT:(T.length:Int)<=1000)(sa:WJ h va x.parts)(hla:(x.parts.length:Int)<=1000000):
  WC Tryz.prog tb 146 [vt,.agg #[.int .u8 x.kind,I x.elem,I x.many,va]] h fun r h'=>(∃ b,r=.bool b/\(b=true↔zCa T x))/\Ext h h':=by
 refine en ?_;refine VF ?_;intro p h1 e1 o1;have st1:=st.ext e1;have sa1:=sa.ext e1;obtain⟨_,_,_,rfl⟩:=WW.shape sa;refine go ?_;refine VD (fun i=>x.parts.length-i) (fun i t h2=>h1=h2/\zB t 5=I i/\i<=x.parts.length/\∀ j,j<i->PlT T (x.parts.getD j 0)) 0 ?_ ?_
 ·exact⟨rfl,U6,QK _,fun j hj=>absurd hj (Qh _)⟩
 rintro i t _ hsame ⟨rfl,s5,hi,hm⟩;refine go ?_;refine VE (fun hb=> ?_) (fun hb=> ?_)<;>simp only[DB]at hb
 ·have hi':i<x.parts.length:=by omega
  refine go ?_;refine VA (zCi h1 vt T (x.parts.getD i 0) st1 hT) ?_;rintro _ _ ⟨⟨b,rfl,hbb⟩,rfl⟩;cases b with
  |true=>
   refine go ?_;refine zA (i+1) (by omega) ⟨rfl,Wc,by omega,fun j hj=> ?_⟩;by_cases e:j=i
   ·subst e;exact hbb.1 rfl
   ·exact hm j (by omega)
  |false=>
   refine gr ?_;exact⟨⟨_,rfl,by simp only[BA];exact fun hh=>absurd (hbb.2 (hh.1 _ (zO hi'))) Bool.noConfusion⟩,e1⟩
 ·have hall:∀ p∈x.parts,PlT T p:=fun p hp=>by
   obtain⟨j,hj,rfl⟩:=Zi hp;exact hm j (by omega)
  replace hall:=WE.mk hall;replace hm:=WE.mk hm;refine go ?_;refine VA (zCi h1 vt T x.elem st1 hT) ?_;rintro _ _ ⟨⟨b,rfl,hbb⟩,rfl⟩;replace hbb:=WE.mk hbb;have key:∀ q:Bool,(q=true↔b=true/\(x.parts.length:Int)<=4/\x.many=0)->(q=true↔zCa T x):=fun q hq=>by
   rw[hq];unfold zCa;rw[hbb.out];refine⟨fun h=>⟨hall.out,h.1,by omega,h.2.2⟩,fun h=>⟨h.2.1,by omega,h.2.2.2⟩⟩
  cases b with
  |false=>
   refine gr ?_;exact⟨⟨_,rfl,key _ (by simp)⟩,e1⟩
  |true=>
   refine go ?_;repeat' (first|(refine VE (fun hb=> ?_) (fun hb=> ?_)<;>(try simp only[DB]at hb)<;>refine go ?_)|(refine VI (fun hb=> ?_) (fun hb=> ?_)<;>(try simp only[DB]at hb)<;>refine go ?_))
   all_goals (refine rt ?_;exact⟨⟨_,rfl,key _ (by simp only[BA,true_and];omega)⟩,e1⟩)
theorem zMg{T:List U2}{x:U2}{k:Nat}:zDS T x k↔(x.kind=1/\x.elem=0/\x.many=0/\(x.parts.length:Int)=0)\/
 (x.kind=2/\0<=x.elem/\x.elem<(T.length:Int)/\x.many=0/\(x.parts.length:Int)=0)\/(x.kind=3/\zCa T x)\/
 (x.kind=4/\x.elem=0/\x.many=0/\1<=(x.parts.length:Int)/\(x.parts.length:Int)<=8/\∀ p∈x.parts,0<=p/\p<(k:Int))\/
 (x.kind=5/\0<=x.elem/\x.elem<(k:Int)/\1<=x.many/\x.many<=16/\(x.parts.length:Int)=0):=by
 unfold zDS;have h0:(x.parts.length:Int)=0↔x.parts.length=0:=by omega
 have h1:1<=(x.parts.length:Int)↔1<=x.parts.length:=by omega
 have h8:(x.parts.length:Int)<=8↔x.parts.length<=8:=by omega
 rw[h0,h1,h8]
theorem zGr(h:U0)(vt:Value)(T:List U2)(k:Nat)(st:Wp h vt T)(hT:(T.length:Int)<=1000)(hk:k<T.length)(hpl:((T.getD k default).parts.length:Int)<=1000000):
  WC Tryz.prog tb 110 [vt,I k] h fun r h'=>(∃ b,r=.bool b/\(b=true↔yz T k))/\Ext h h':=by
 obtain⟨cs,⟨va,rfl,sa,hla⟩,pc,hs⟩:=yH (i:=k) st hk;unfold yz;generalize T.getD k default=x at *;have hmx:=WE.mk (zMg (T:=T) (x:=x) (k:=k));obtain⟨_,_,_,rfl⟩:=WW.shape sa;refine en ?_;refine VL ?_;intro p h1 e1 o1;refine go ?_;refine VH o1 e1 ?_;intro h2 e2 o2 _;have st2:=st.ext e2;have sa2:=sa.ext e2;by_cases h1:x.kind=1
 ·skip;refine go ?_;repeat' (first|(refine VE (fun hb=> ?_) (fun hb=> ?_)<;>(try simp only[DB]at hb)<;>refine go ?_)|(refine VI (fun hb=> ?_) (fun hb=> ?_)<;>(try simp only[DB]at hb)<;>refine go ?_))
  all_goals (refine rt ?_;exact⟨⟨_,rfl,by rw[hmx.out];simp only[BA];omega⟩,e2⟩)
 by_cases h2:x.kind=2
 ·skip;refine go ?_;repeat' (first|(refine VE (fun hb=> ?_) (fun hb=> ?_)<;>(try simp only[DB]at hb)<;>refine go ?_)|(refine VI (fun hb=> ?_) (fun hb=> ?_)<;>(try simp only[DB]at hb)<;>refine go ?_))
  all_goals (refine rt ?_;exact⟨⟨_,rfl,by rw[hmx.out];simp only[BA];omega⟩,e2⟩)
 by_cases h3:x.kind=3
 ·refine go ?_;refine VA (zLR _ vt _ T x st2 hT sa2 hpl) ?_;rintro _ h5 ⟨⟨b,rfl,hbb⟩,e5⟩;refine gr ?_;refine⟨⟨_,rfl,?_⟩,e2.trans e5⟩;rw[hbb,hmx.out];refine⟨fun h=> .inr (.inr (.inl ⟨h3,h⟩)),fun h=> ?_⟩;rcases h with h|h|h|h|h
  ·omega
  ·omega
  ·exact h.2
  ·omega
  ·omega
 by_cases h4:x.kind=4
 ·refine go ?_;refine VI (fun hd=> ?_) (fun hd=> ?_)<;>simp only[DB]at hd;case refine_2=>
   refine gr ?_;refine⟨⟨_,rfl,?_⟩,e2⟩;rw[hmx.out];simp only[BA];omega
  refine go ?_;refine VI (fun hd2=> ?_) (fun hd2=> ?_)<;>simp only[DB]at hd2;case refine_2=>
   refine gr ?_;refine⟨⟨_,rfl,?_⟩,e2⟩;rw[hmx.out];simp only[BA];omega
  refine go ?_;refine VI (fun hd3=> ?_) (fun hd3=> ?_)<;>simp only[DB]at hd3;case refine_2=>
   refine gr ?_;refine⟨⟨_,rfl,?_⟩,e2⟩;rw[hmx.out];simp only[BA];omega
  refine go ?_;refine VI (fun hd4=> ?_) (fun hd4=> ?_)<;>simp only[DB]at hd4;case refine_2=>
   refine gr ?_;refine⟨⟨_,rfl,?_⟩,e2⟩;rw[hmx.out];simp only[BA];omega
  refine go ?_;refine VA (zKV _ _ x.parts k sa2 hpl) ?_;rintro _ _ ⟨⟨b,rfl,hbb⟩,rfl⟩;refine gr ?_;refine⟨⟨_,rfl,?_⟩,e2⟩;rw[hbb,hmx.out];refine⟨fun h=> .inr (.inr (.inr (.inl ⟨h4,hd,hd2,hd3,hd4,h⟩))),fun h=> ?_⟩;rcases h with h|h|h|h|h
  ·omega
  ·omega
  ·omega
  ·exact h.2.2.2.2.2
  ·omega
 by_cases h5:x.kind=5
 ·skip;refine go ?_;repeat' (first|(refine VE (fun hb=> ?_) (fun hb=> ?_)<;>(try simp only[DB]at hb)<;>refine go ?_)|(refine VI (fun hb=> ?_) (fun hb=> ?_)<;>(try simp only[DB]at hb)<;>refine go ?_))
  all_goals (refine rt ?_;exact⟨⟨_,rfl,by rw[hmx.out];simp only[BA];omega⟩,e2⟩)
 ·refine gr ?_;refine⟨⟨_,rfl,?_⟩,e2⟩;rw[hmx.out];simp only[BA];omega
theorem Y0{α:Type}{l:List α}{f:α->List Int}(h:∀ x∈l,(f x).length<=32):(l.map f).flatten.length<=32*l.length:=by
 induction l with
 |nil=>simp
 |cons a l ih=>
  have:=h a (by simp);have:=ih fun x hx=>h x (by simp[hx]);simp only[Qr,GR,QR,GE];omega
theorem zAU{α:Type}[Inhabited α]{l:List α}{f:α->List Int}{i:Nat}(h:i<l.length):((l.take (i+1)).map f).flatten=((l.take i).map f).flatten++f (l.getD i default):=by
 rw[Q4,QB h,GB,List.flatten_append];simp[List.getD,QB h]
theorem zGd(vt:Value)(T:List U2)(hT:(T.length:Int)<=1000):∀ (n k:Nat) (h:U0),k<n->Wp h vt T->k<T.length->zCl T k->yz T k->
  WC Tryz.prog tb 41 [vt,I k] h fun r h'=>U7 h h' r (Wq T k)/\Ext h h':=by
 intro n;induction n with
 |zero=>intro k h hk;omega
 |succ n ih=>
  intro k h hkn st hk hlow hM;have hof:=YI (T:=T) (k:=k) fun j hj=>by
   by_cases e:j=k
   ·subst e;exact hM
   ·exact(hlow j (by omega)).1
  obtain⟨cs,⟨va,rfl,sa,hla⟩,pc,hs⟩:=yH (i:=k) st hk;unfold yz zDS at hM;rw[hof];clear hof;generalize T.getD k default=x at *;obtain⟨_,_,_,rfl⟩:=WW.shape sa;refine en ?_;refine VL ?_;intro p h1 e1 o1;refine go ?_;refine VH o1 e1 ?_;intro h2 e2 o2 _;have st2:=st.ext e2;have sa2:=sa.ext e2;by_cases h4:x.kind=4
  ·have hp:x.parts.length<=8/\∀ p∈x.parts,0<=p/\p<(k:Int):=by
    rcases hM with h|h|h|h|h
    ·omega
    ·omega
    ·omega
    ·exact⟨h.2.2.2.2.1,h.2.2.2.2.2⟩
    ·omega
   have hbd:∀ p∈x.parts,(Wq T p.toNat).length<=32:=fun p hpp=>by
    have:=hp.2 p hpp;exact(hlow p.toNat (by omega)).2
   simp only[h4,Q0];replace hM:=WE.mk hM;replace hlow:=WE.mk hlow;have hp8:=hp.1;replace hp:=WE.mk hp;replace hbd:=WE.mk hbd;refine go ?_;refine VD (fun i=>x.parts.length-i) (fun i t h3=>zB t 7=I i/\i<=x.parts.length/\Ext h2 h3/\∃ w,zB t 6=w/\U7 h2 h3 w (((x.parts.take i).map fun p=>Wq T p.toNat).flatten)) 0 ?_ ?_
   ·exact⟨U6,QK _,Ext.refl _,.slice none 0 0,U6,.inl ⟨rfl,by simp⟩⟩
   rintro i t h3 hsame ⟨s7,hi,e23,w,s6,ow⟩;have st3:=st2.ext e23;have sa3:=sa2.ext e23;have o3:=o2.ext e23;refine go ?_;refine VE (fun hc=> ?_) (fun hc=> ?_)<;>simp only[DB]at hc
   ·have hi':i<x.parts.length:=by omega
    have hpi:=hp.out.2 _ (zO hi');have hsucc:=zAU (f:=fun p=>Wq T p.toNat) hi';have hln:=Y0 (l:=x.parts.take i) (f:=fun p=>Wq T p.toNat) fun q hq=>hbd.out q (Qp hq);have hl1:=hbd.out _ (zO hi');have htk:(x.parts.take i).length<=i:=List.length_take_le _ _;have hcast:I (x.parts.getD i 0)=I ((x.parts.getD i 0).toNat:Int):=by rw[Int.toNat_of_nonneg hpi.1]
    obtain⟨q,hq⟩:∃ q:Nat,x.parts.getD i 0=q:=⟨(x.parts.getD i 0).toNat,by omega⟩;have hqk:q<k:=by omega
    refine go ?_;rw[hq];refine VA (ih q h3 (by omega) st3 (by omega) (fun j hj=>hlow.out j (by omega)) (hlow.out q hqk).1) ?_;rintro r h4 ⟨or,e4⟩;refine go ?_;have hdef:x.parts.getD i default=(q:Int):=hq;rw[hdef]at hsucc;simp only[QN]at hsucc;have hl2:(Wq T q).length<=32:=by rw[hq]at hl1;exact hl1
    refine VO (ow.ext e4) or.sl (e23.trans e4) (by omega) ?_;intro v5 h5 e5 o5;refine go ?_;exact zA (i+1) (by omega) ⟨Wc,by omega,e5,v5,U6,by rw[hsucc];exact o5⟩
   ·have hii:i=x.parts.length:=by omega
    subst hii;rw[Qk]at ow;refine gr ?_;exact⟨ow.since e2,e2.trans e23⟩
  by_cases h5:x.kind=5
  ·have hp:0<=x.elem/\x.elem<(k:Int)/\1<=x.many/\x.many<=16:=by omega
   obtain⟨q,hq⟩:∃ q:Nat,x.elem=q:=⟨x.elem.toNat,by omega⟩;obtain⟨m,hm⟩:∃ m:Nat,x.many=m:=⟨x.many.toNat,by omega⟩;have hqk:q<k:=by omega
   have hlq:=(hlow q hqk).2;simp only[h5,Q0,GX,show ¬((5:Int)=4) by decide,hq,hm,QN];replace hM:=WE.mk hM;replace hlow:=WE.mk hlow;have hm16:m<=16:=by omega
   refine go ?_;refine VD (fun i=>m-i) (fun i t h3=>zB t 9=I i/\i<=m/\Ext h2 h3/\∃ w,zB t 8=w/\U7 h2 h3 w (List.replicate i (Wq T q)).flatten) 0 ?_ ?_
   ·exact⟨U6,QK _,Ext.refl _,.slice none 0 0,U6,.inl ⟨rfl,by simp⟩⟩
   rintro i t h3 hsame ⟨s7,hi,e23,w,s6,ow⟩;have st3:=st2.ext e23;have o3:=o2.ext e23;refine go ?_;rw[hm];refine go ?_;refine VE (fun hc=> ?_) (fun hc=> ?_)<;>simp only[DB]at hc
   ·have hi':i<m:=by omega
    have hln:=zAk i (Wq T q);have hmul:i*(Wq T q).length<=16*32:=Nat.mul_le_mul (by omega) hlq;refine go ?_;rw[hq];refine VA (ih q h3 (by omega) st3 (by omega) (fun j hj=>hlow.out j (by omega)) (hlow.out q hqk).1) ?_;rintro r h4 ⟨or,e4⟩;refine go ?_;refine VO (ow.ext e4) or.sl (e23.trans e4) (by omega) ?_;intro v5 h5 e5 o5;refine go ?_;refine zA (i+1) (by omega) ⟨Wc,by omega,e5,v5,U6,?_⟩;rw[List.replicate_succ',List.flatten_append];simpa using o5
   ·have hii:i=m:=by omega
    subst hii;refine gr ?_;exact⟨ow.since e2,e2.trans e23⟩
  ·rw[QC h4,QC h5];refine go ?_;refine WO.bl [(k:Int)] ?_;intro v h3 e3 o3;refine gr ?_;exact⟨.inr (o3.since e2),e2.trans e3⟩
theorem zKi(h:U0)(vt:Value)(T:List U2)(st:Wp h vt T)(hT:(T.length:Int)<=1000)(hpl:∀ x∈T,x.parts.length<=1000000):
  WC Tryz.prog tb 86 [vt] h fun r h'=>r=I (yQ T)/\Ext h h':=by
 refine en ?_;rw[zAs];replace hpl:=WE.mk hpl;by_cases h16:16<(T.length:Int)
 ·refine gr ?_;rw[QF (by omega)];exact⟨rfl,Ext.refl _⟩
 rw[QC (by omega)];refine go ?_;refine VD (fun i=>T.length-i) (fun i t h1=>Ext h h1/\zB t 3=I i/\i<=T.length/\WE (zCl T i)) 0 ?_ ?_
 ·exact⟨Ext.refl _,U6,QK _,⟨fun j hj=>absurd hj (Qh _)⟩⟩
 rintro i t h1 hsame ⟨e1,s3,hi,hlow⟩;have st1:=st.ext e1;refine go ?_;refine VE (fun hc=> ?_) (fun hc=> ?_)<;>simp only[DB]at hc
 ·have hi':i<T.length:=by omega
  refine go ?_;refine VA (zGr h1 vt T i st1 hT hi' (by have:=hpl.out _ (zG (l:=T) hi');omega)) ?_;rintro _ h2 ⟨⟨b,rfl,hbb⟩,e2⟩;have st2:=st1.ext e2;have no:¬(yz T i/\(Wq T i).length<=32)->¬zCl T T.length:=fun hn hl=>hn (hl i hi');cases b with
  |false=>
   have hf:¬zCl T T.length:=no fun hh=>absurd (hbb.2 hh.1) Bool.noConfusion;refine gr ?_;rw[QC hf];exact⟨rfl,e1.trans e2⟩
  |true=>
   have hM:=hbb.1 rfl;refine go ?_;refine VA (zGd vt T hT (i+1) i h2 (by omega) st2 hi' hlow.out hM) ?_;rintro r h3 ⟨or,e3⟩;have sr:=or.sl;have e03:=(e1.trans e2).trans e3;refine go ?_;refine VE (fun hd=> ?_) (fun hd=> ?_)<;>simp only[DB]at hd
   ·have hf:¬zCl T T.length:=no fun hh=>by have:=hh.2;omega
    refine gr ?_;rw[QC hf];exact⟨rfl,e03⟩
   ·refine go ?_;refine zA (i+1) (by omega) ⟨e03,Wc,by omega,⟨fun j hj=> ?_⟩⟩;by_cases e:j=i
    ·subst e;exact⟨hM,by omega⟩
    ·exact hlow.out j (by omega)
 ·have hii:i=T.length:=by omega
  subst hii;refine gr ?_;rw[QF hlow.out];exact⟨rfl,e1⟩
end Go.Proofs.YtfnndahpddkniaaGreatDoor
set_option maxRecDepth 100000
namespace Go.Proofs.YtfnndahpddkniaaGreatDoor
open Go.Am
theorem zJ3(h:U0)(op:Int):WC Tryz.prog tb 151 [.int .u8 op] h fun r h'=>(∃ b,r=.bool b/\(b=true↔zBa op))/\h=h':=by
 refine en ?_;repeat' (first|(refine VE (fun hb=> ?_) (fun hb=> ?_)<;>(try simp only[DB]at hb)<;>refine go ?_)|(refine VI (fun hb=> ?_) (fun hb=> ?_)<;>(try simp only[DB]at hb)<;>refine go ?_))
 all_goals (refine rt ?_;exact⟨⟨_,rfl,by unfold zBa;simp only[BA];omega⟩,rfl⟩)
theorem zNJ(h:U0)(op:Int)(ho:0<=op):WC Tryz.prog tb 151 [.int .u8 op] h fun r h'=>r=.bool (zZ op).2.1/\h=h':=by
 refine(zJ3 h op).mono ?_;rintro _ _ ⟨⟨b,rfl,hb⟩,rfl⟩;exact⟨congrArg _ (by rw[GV,hb,(YR ho).1]),rfl⟩
theorem zJq(h:U0)(op:Int)(ho:0<=op):WC Tryz.prog tb 150 [.int .u8 op] h fun r h'=>r=.bool (zZ op).1/\h=h':=by
 refine WC.mono (Q:=fun r h'=>(∃ b,r=.bool b/\(b=true↔zBf op))/\h=h') ?_ ?_
 ·refine en ?_;refine VA (zJ3 h op) ?_;rintro _ _ ⟨⟨b,rfl,hb⟩,rfl⟩;cases b with
  |true=>
   have hT:=hb.1 rfl;refine gr ?_;exact⟨⟨_,rfl,⟨fun _=> .inl hT,fun _=>rfl⟩⟩,rfl⟩
  |false=>
   have hT:¬zBa op:=fun hh=>absurd (hb.2 hh) Bool.noConfusion;unfold zBf;refine go ?_;repeat' (first|(refine VE (fun hb=> ?_) (fun hb=> ?_)<;>(try simp only[DB]at hb)<;>refine go ?_)|(refine VI (fun hb=> ?_) (fun hb=> ?_)<;>(try simp only[DB]at hb)<;>refine go ?_))
   all_goals (refine rt ?_;exact⟨⟨_,rfl,by simp only[BA,hT,false_or];omega⟩,rfl⟩)
 ·rintro _ _ ⟨⟨b,rfl,hb⟩,rfl⟩;exact⟨congrArg _ (by rw[GV,hb,(YR ho).2.1]),rfl⟩
theorem zJm(h:U0)(op:Int)(ho:0<=op):WC Tryz.prog tb 152 [.int .u8 op] h fun r h'=>r=.bool (zZ op).2.2.2.1/\h=h':=by
 refine WC.mono (Q:=fun r h'=>(∃ b,r=.bool b/\(b=true↔zBb op))/\h=h') ?_ ?_
 ·refine en ?_;repeat' (first|(refine VE (fun hb=> ?_) (fun hb=> ?_)<;>(try simp only[DB]at hb)<;>refine go ?_)|(refine VI (fun hb=> ?_) (fun hb=> ?_)<;>(try simp only[DB]at hb)<;>refine go ?_))
  all_goals (refine rt ?_;exact⟨⟨_,rfl,by unfold zBb;simp only[BA];omega⟩,rfl⟩)
 ·rintro _ _ ⟨⟨b,rfl,hb⟩,rfl⟩;exact⟨congrArg _ (by rw[GV,hb,(YR ho).2.2.1]),rfl⟩
theorem zAc(h:U0)(op:Int)(ho:0<=op):WC Tryz.prog tb 153 [.int .u8 op] h fun r h'=>r=.bool (zZ op).2.2.2.2.2/\h=h':=by
 refine WC.mono (Q:=fun r h'=>(∃ b,r=.bool b/\(b=true↔zLb op))/\h=h') ?_ ?_
 ·refine en ?_;repeat' (first|(refine VE (fun hb=> ?_) (fun hb=> ?_)<;>(try simp only[DB]at hb)<;>refine go ?_)|(refine VI (fun hb=> ?_) (fun hb=> ?_)<;>(try simp only[DB]at hb)<;>refine go ?_))
  all_goals (refine rt ?_;exact⟨⟨_,rfl,by unfold zLb;simp only[BA];omega⟩,rfl⟩)
 ·rintro _ _ ⟨⟨b,rfl,hb⟩,rfl⟩;exact⟨congrArg _ (by rw[GV,hb,(YR ho).2.2.2.1]),rfl⟩
theorem yZ{h:U0}{va:Value}{l:List Int}(s:WJ h va l):∃ a n k,va=.slice a n k:=WW.shape s
theorem zD9(h:U0)(x:WY)(cs:List Value)(hcs:Wt h cs x)(hx:x.args.length<=20):
  WC Tryz.prog tb 115 [.agg cs.toArray] h fun r h'=>U7 h h' r (yJ x)/\Ext h h':=by
 obtain⟨va,vfr,rfl,sa,sfr,hla,hlf,ho,ho2⟩:=hcs;obtain⟨aa,an,ak,rfl⟩:=yZ sa;obtain⟨fa,fn,fk,rfl⟩:=yZ sfr;refine en ?_;refine VF ?_;intro p h1 e1 o1;have sa1:=sa.ext e1;refine go ?_;refine VA (zJq h1 x.op ho) ?_;rintro _ _ ⟨rfl,rfl⟩;unfold yJ;refine go ?_;refine VK (fun t h'=>Ext h1 h'/\∃ w,zB t 3=w/\U7 h1 h' w (if(zZ x.op).1 then[x.a]else[])) ?_ ?_
 ·cases hA:(zZ x.op).1 with
  |true=>
   refine go ?_;refine WO.bl [x.a] ?_;intro v h2 e2 o2;refine go ?_;refine VO (v:= .slice none 0 0) (xs:=[]) (h0:=h1) (.inl ⟨rfl,rfl⟩) o2.sl e2 (by simp) ?_;intro v3 h3 e3 o3;refine go ?_;exact zE ⟨e3,v3,U6,o3⟩
  |false=>
   refine go ?_;exact zE ⟨Ext.refl _,_,U6,.inl ⟨rfl,rfl⟩⟩
 rintro t2 h2 hs2 ⟨e2,w2,q2,ow2⟩;have o2:=o1.ext e2;have l2:(if(zZ x.op).1 then[x.a]else[]).length<=1:=by split<;>simp
 generalize(if(zZ x.op).1 then[x.a]else[])=lA at *;refine go ?_;refine VA (zNJ h2 x.op ho) ?_;rintro _ _ ⟨rfl,rfl⟩;refine go ?_;refine VK (fun t h'=>Ext h1 h'/\∃ w,zB t 3=w/\U7 h1 h' w (lA++if(zZ x.op).2.1 then[x.b]else[])) ?_ ?_
 ·cases hB:(zZ x.op).2.1 with
  |true=>
   refine go ?_;refine WO.bl [x.b] ?_;intro v h3 e3 o3;refine go ?_;refine VO (ow2.ext e3) o3.sl (e2.trans e3) (by simp only[QX];omega) ?_;intro v4 h4 e4 o4;refine go ?_;exact zE ⟨e4,v4,U6,o4⟩
  |false=>
   refine go ?_;exact zE ⟨e2,_,U6,by simpa using ow2⟩
 rintro t3 h3 hs3 ⟨e3,w3,q3,ow3⟩;have o3:=o1.ext e3;have sa3:=sa1.ext e3;have l3:(lA++if(zZ x.op).2.1 then[x.b]else[]).length<=2:=by split<;>simp<;>omega
 rw[<-Ql];generalize(lA++if(zZ x.op).2.1 then[x.b]else[])=lB at *;refine go ?_;refine VA (zJm h3 x.op ho) ?_;rintro _ _ ⟨rfl,rfl⟩;refine go ?_;cases hG:(zZ x.op).2.2.2.1 with
 |true=>
  refine go ?_;refine VO ow3 sa3 e3 (by omega) ?_;intro v4 h4 e4 o4;refine gr ?_;exact⟨o4.since e1,e1.trans e4⟩
 |false=>
  refine gr ?_;exact⟨(by simpa using ow3.since e1:U7 h h3 w3 _),e1.trans e3⟩
theorem Yh(h:U0)(v:Value)(l:List Int)(m:Int)(s:WJ h v l)(hl:(l.length:Int)<=1000000):
  WC Tryz.prog tb 148 [v,I m] h fun r h'=>(∃ b,r=.bool b/\(b=true↔BU l m))/\h=h':=by
 refine en ?_;refine VD (fun i=>l.length-i) (fun i t h1=>h=h1/\zB t 5=I i/\i<=l.length/\∀ j,j<i->0<=l.getD j 0/\l.getD j 0<m) 0 ?_ ?_
 ·exact⟨rfl,U6,QK _,fun j hj=>absurd hj (Qh _)⟩
 rintro i t _ hsame ⟨rfl,s5,hi,hm⟩;refine go ?_;refine VE (fun hb=> ?_) (fun hb=> ?_)<;>simp only[DB]at hb
 ·have hi':i<l.length:=by omega
  by_cases hok:0<=l.getD i 0/\l.getD i 0<m
  ·refine go ?_;refine zA (i+1) (by omega) ⟨rfl,Wc,by omega,fun j hj=> ?_⟩;by_cases e:j=i
   ·subst e;exact hok
   ·exact hm j (by omega)
  ·have hno:¬BU l m:=fun hh=>hok (hh _ (zO hi'));by_cases h0:l.getD i 0<0
   ·refine gr ?_;exact⟨⟨_,rfl,by simp only[BA];exact hno⟩,rfl⟩
   ·refine gr ?_;exact⟨⟨_,rfl,by simp only[BA];exact hno⟩,rfl⟩
 ·refine gr ?_;refine⟨⟨_,rfl,?_⟩,rfl⟩;simp only[BA];intro p hp;obtain⟨j,hj,rfl⟩:=Zi hp;exact hm j (by omega)
theorem zM4(h:U0)(vt vf:Value)(T:List U2)(F:List WM)(x:WY)(cs:List Value)(st:Wp h vt T)(sf:Wd h vf F)(hF:F.length<=1000)(hcs:Wt h cs x):
  WC Tryz.prog tb 149 [.agg #[vt,vf],.agg cs.toArray] h fun r h'=>(∃ b,r=.bool b/\(b=true↔zGi x F.length))/\Ext h h':=by
 obtain⟨va,vfr,rfl,sa,sfr,hla,hlf,ho,ho2⟩:=hcs;obtain⟨aa,an,ak,rfl⟩:=yZ sa;obtain⟨fa,fn,fk,rfl⟩:=yZ sfr;obtain⟨ta,tn,tk,rfl⟩:=zD st;obtain⟨ga,gn,gk,rfl⟩:=zD sf;refine en ?_;refine VF ?_;intro p h1 e1 o1;refine go ?_;refine VF ?_;intro q h2 e2 o2;have o1:=o1.ext e2;have e12:=e1.trans e2;have sf2:=Wd.ext sf e12;unfold zGi;by_cases k1:x.op=1
 ·rw[QF k1];refine gr ?_;exact⟨⟨_,rfl,by simp⟩,e12⟩
 rw[QC k1];by_cases k3:x.op=3
 ·rw[QF (.inl k3)];skip;refine go ?_;repeat' (first|(refine VE (fun hb=> ?_) (fun hb=> ?_)<;>(try simp only[DB]at hb)<;>refine go ?_)|(refine VI (fun hb=> ?_) (fun hb=> ?_)<;>(try simp only[DB]at hb)<;>refine go ?_))
  all_goals (refine rt ?_;exact⟨⟨_,rfl,by simp only[BA];omega⟩,e12⟩)
 by_cases k18:x.op=18
 ·rw[QF (.inr k18)];skip;refine go ?_;repeat' (first|(refine VE (fun hb=> ?_) (fun hb=> ?_)<;>(try simp only[DB]at hb)<;>refine go ?_)|(refine VI (fun hb=> ?_) (fun hb=> ?_)<;>(try simp only[DB]at hb)<;>refine go ?_))
  all_goals (refine rt ?_;exact⟨⟨_,rfl,by simp only[BA];omega⟩,e12⟩)
 rw[QC (by omega)];by_cases k14:x.op=14
 ·rw[QF k14];skip;refine go ?_;repeat' (first|(refine VE (fun hb=> ?_) (fun hb=> ?_)<;>(try simp only[DB]at hb)<;>refine go ?_)|(refine VI (fun hb=> ?_) (fun hb=> ?_)<;>(try simp only[DB]at hb)<;>refine go ?_))
  all_goals (refine rt ?_;exact⟨⟨_,rfl,by simp only[BA];omega⟩,e12⟩)
 rw[QC k14];refine gr ?_;exact⟨⟨_,rfl,by simp only[BA]⟩,e12⟩
theorem zJJ(h:U0)(vt vf:Value)(T:List U2)(F:List WM)(x:WY)(cs:List Value)(regs many:Int)(st:Wp h vt T)(sf:Wd h vf F)(hT:T.length<=1000)(hF:F.length<=1000)(hcs:Wt h cs x)(hx:x.args.length<=20/\x.frm.length<=20):
  WC Tryz.prog tb 111 [.agg #[vt,vf],.agg cs.toArray,I regs,I many] h fun r h'=>r=.bool (Bo x ⟨T.length,F.length,regs,many⟩)/\Ext h h':=by
 obtain⟨va,vfr,rfl,sa,sfr,hla,hlf,ho,ho2⟩:=id hcs;obtain⟨aa,an,ak,rfl⟩:=yZ sa;obtain⟨fa,fn,fk,rfl⟩:=yZ sfr;obtain⟨ta,tn,tk,rfl⟩:=zD st;obtain⟨ga,gn,gk,rfl⟩:=zD sf;refine WC.mono (Q:=fun r h'=>(∃ b,r=.bool b/\(b=true↔MayI x ⟨T.length,F.length,regs,many⟩))/\Ext h h') ?_ ?_;case refine_2=>
  rintro _ _ ⟨⟨b,rfl,hb⟩,e⟩;exact⟨congrArg _ (by rw[GV,hb,zA2 ho]),e⟩
 have hu:(yJ x).length<=22:=by unfold yJ;split<;>split<;>split<;>simp<;>omega
 refine en ?_;refine VF ?_;intro p h1 e1 o1;refine go ?_;refine VF ?_;intro q h2 e2 o2;have o1:=o1.ext e2;have e12:=e1.trans e2;by_cases k1:1<=x.op;case neg=>
  refine gr ?_;exact⟨⟨_,rfl,by simp only[BA];exact fun m=>k1 m.op.1⟩,e12⟩
 by_cases k22:x.op<=22;case neg=>
  refine gr ?_;exact⟨⟨_,rfl,by simp only[BA];exact fun m=>k22 m.op.2⟩,e12⟩
 refine go ?_;refine VA (zD9 h2 x _ (hcs.ext e12) hx.1) ?_;rintro u h3 ⟨ou,e3⟩;have o1:=o1.ext e3;have o2:=o2.ext e3;have e13:=e12.trans e3;refine go ?_;refine VA (Yh h3 u _ regs ou.sl (by omega)) ?_;rintro _ _ ⟨⟨b1,rfl,hb1⟩,rfl⟩;cases b1 with
 |false=>
  refine gr ?_;exact⟨⟨_,rfl,by simp only[BA];exact fun m=>absurd (hb1.2 m.uses) Bool.noConfusion⟩,e13⟩
 |true=>
 have U:=WE.mk (hb1.1 rfl);clear hb1;refine go ?_;refine VA (zM4 h3 _ _ T F x _ (st.ext e13) (Wd.ext sf e13) hF (hcs.ext e13)) ?_;rintro _ h4 ⟨⟨b2,rfl,hb2⟩,e4⟩;have o1:=o1.ext e4;have o2:=o2.ext e4;have e14:=e13.trans e4;have sa4:=sa.ext e14;have sfr4:=sfr.ext e14;have st4:=st.ext e14;cases b2 with
 |false=>
  refine gr ?_;exact⟨⟨_,rfl,by simp only[BA];exact fun m=>absurd (hb2.2 m.num) Bool.noConfusion⟩,e14⟩
 |true=>
 have V:=WE.mk (hb2.1 rfl);clear hb2 e1 e2 e12 e3 e13 e4 ou;refine go ?_;refine VA (zJq h4 x.op ho) ?_;rintro _ _ ⟨rfl,rfl⟩;refine VR 29 (fun t' h'=>h4=h'/\∃ b,zB t' 61=.bool b/\(b=false↔((zZ x.op).1=true\/x.a=0)/\((zZ x.op).2.1=true\/x.b=0)/\((zZ x.op).2.2.2.1=true\/(x.args.length:Int)<=0))) ?_ ?_<;>simp only[Qm,Q5,GA,Q3]
 ·refine VR 6 (fun t' h'=>h4=h'/\∃ b,zB t' 38=.bool b/\(b=false↔((zZ x.op).1=true\/x.a=0))) ?_ ?_<;>simp only[Qm,Q5,GA,Q3]
  ·cases hA:(zZ x.op).1 with
   |true=>
    refine go ?_;exact⟨rfl,rfl,rfl,_,U6,by simp⟩
   |false=>
    refine go ?_;exact⟨rfl,rfl,rfl,_,U6,by simp⟩
  rintro t5 _ hs5 ⟨rfl,b5,q38,hb5⟩;refine VR 11 (fun t' h'=>h4=h'/\∃ b,zB t' 49=.bool b/\(b=false↔((zZ x.op).1=true\/x.a=0)/\((zZ x.op).2.1=true\/x.b=0))) ?_ ?_<;>simp only[Qm,Q5,GA,Q3]
  ·cases b5 with
   |true=>
    refine go ?_;exact⟨rfl,rfl,rfl,_,U6,by rw[<-hb5];simp⟩
   |false=>
    refine go ?_;refine VA (zNJ h4 x.op ho) ?_;rintro _ _ ⟨rfl,rfl⟩;have h5:=hb5.1 rfl;cases hB:(zZ x.op).2.1 with
    |true=>
     refine go ?_;exact⟨rfl,rfl,rfl,_,U6,by simp[h5]⟩
    |false=>
     refine go ?_;exact⟨rfl,rfl,rfl,_,U6,by simp[h5]⟩
  rintro t6 _ hs6 ⟨rfl,b6,q49,hb6⟩;rw[<-and_assoc,<-hb6];cases b6 with
  |true=>
   refine go ?_;exact⟨rfl,rfl,rfl,_,U6,by simp⟩
  |false=>
   refine go ?_;refine VA (zJm h4 x.op ho) ?_;rintro _ _ ⟨rfl,rfl⟩;cases hG:(zZ x.op).2.2.2.1 with
   |true=>
    refine go ?_;exact⟨rfl,rfl,rfl,_,U6,by simp⟩
   |false=>
    refine go ?_;exact⟨rfl,rfl,rfl,_,U6,by simp only[BA,true_and,QZ,false_or];omega⟩
 rintro t5 _ hs5 ⟨rfl,b5,q61,hb5⟩;cases b5 with
 |true=>
  refine gr ?_;refine⟨⟨_,rfl,?_⟩,e14⟩;simp only[BA];exact fun m=>absurd (hb5.2 ⟨m.a,m.b,m.g⟩) Bool.noConfusion
 |false=>
 have W:=WE.mk (hb5.1 rfl);clear hb5;refine go ?_;refine VA (zAc h4 x.op ho) ?_;rintro _ _ ⟨rfl,rfl⟩;refine VR 24 (fun t' h'=>h4=h'/\∃ b,zB t' 88=.bool b/\(b=false↔if(zZ x.op).2.2.2.2.2 then 0<=x.ty/\x.ty<(T.length:Int)else x.ty=0)) ?_ ?_<;>simp only[Qm,Q5,GA,Q3]
 ·cases hS:(zZ x.op).2.2.2.2.2 with
  |true=>
   simp only[Q0];by_cases c1:x.ty<0
   ·refine go ?_;exact⟨rfl,rfl,rfl,_,U6,by simp only[BA];omega⟩
   by_cases c2:(T.length:Int)<=x.ty
   ·refine go ?_;exact⟨rfl,rfl,rfl,_,U6,by simp only[BA];omega⟩
   ·refine go ?_;refine VA (zAc h4 x.op ho) ?_;rintro _ _ ⟨rfl,rfl⟩;refine go ?_;exact⟨rfl,rfl,rfl,_,U6,by simp only[BA];omega⟩
  |false=>
   simp only[QZ,GX];refine go ?_;refine VA (zAc h4 x.op ho) ?_;rintro _ _ ⟨rfl,rfl⟩;refine go ?_;exact⟨rfl,rfl,rfl,_,U6,by simp⟩
 rintro t6 _ hs6 ⟨rfl,b6,q88,hb6⟩;cases b6 with
 |true=>
  refine gr ?_;refine⟨⟨_,rfl,?_⟩,e14⟩;simp only[BA];exact fun m=>absurd (hb6.2 m.ans) Bool.noConfusion
 |false=>
 have X:=WE.mk (hb6.1 rfl);clear hb6;have hf:=(YR ho).2.2.2.2.1;have mk:∀ q:Bool,(q=true↔if(zZ x.op).2.2.2.2.1 then(x.frm.length:Int)=x.args.length/\1<=(x.frm.length:Int)/\(x.frm.length:Int)<=16/\BU x.frm many else(x.frm.length:Int)=0/\(x.args.length:Int)<=4)->(q=true↔MayI x ⟨T.length,F.length,regs,many⟩):=fun q hq=>by
  rw[hq];exact⟨fun h=>⟨⟨k1,k22⟩,U.out,V.out,W.out.1,W.out.2.1,W.out.2.2,X.out,h⟩,fun m=>m.frm⟩
 replace mk:=WE.mk mk;by_cases k:x.op=22
 ·rw[hf.2 k]at mk;simp only[Q0]at mk;by_cases c1:(x.frm.length:Int)=x.args.length;case neg=>
   refine gr ?_;exact⟨⟨_,rfl,mk.out _ (by simp only[BA];exact fun h=>c1 h.1)⟩,e14⟩
  by_cases c2:1<=(x.frm.length:Int);case neg=>
   refine gr ?_;exact⟨⟨_,rfl,mk.out _ (by simp only[BA];exact fun h=>c2 h.2.1)⟩,e14⟩
  by_cases c3:(x.frm.length:Int)<=16;case neg=>
   refine gr ?_;exact⟨⟨_,rfl,mk.out _ (by simp only[BA];exact fun h=>c3 h.2.2.1)⟩,e14⟩
  refine go ?_;refine VA (Yh h4 _ x.frm many sfr4 (by omega)) ?_;rintro _ _ ⟨⟨b,rfl,hb⟩,rfl⟩;refine gr ?_;exact⟨⟨_,rfl,mk.out _ (by rw[hb];exact⟨fun h=>⟨c1,c2,c3,h⟩,fun h=>h.2.2.2⟩)⟩,e14⟩
 ·have hf0:(zZ x.op).2.2.2.2.1=false:=by cases hh:(zZ x.op).2.2.2.2.1 with
   |false=>rfl
   |true=>exact absurd (hf.1 hh) k
  rw[hf0]at mk;simp only[QZ,GX]at mk;by_cases c1:(x.frm.length:Int)=0;case neg=>
   refine gr ?_;exact⟨⟨_,rfl,mk.out _ (by simp only[BA];exact fun h=>c1 h.1)⟩,e14⟩
  refine gr ?_;exact⟨⟨_,rfl,mk.out _ (by simp only[BA];omega)⟩,e14⟩
theorem zH5(h:U0)(x:BY)(T F regs many:Int):
  WC Tryz.prog tb 112 [.agg #[.int .u8 x.kind,I x.a,I x.to,I x.els],I regs,I many] h fun r h'=>r=.bool (Bx x ⟨T,F,regs,many⟩)/\Ext h h':=by
 refine WC.mono (Q:=fun r h'=>(∃ b,r=.bool b/\(b=true↔(x.kind=1/\x.a=0/\x.els=0/\BU [x.to] many)\/(x.kind=2/\BU [x.a] regs/\BU [x.to,x.els] many)\/(x.kind=3/\x.to=0/\x.els=0/\BU [x.a] regs)))/\Ext h h') ?_ ?_;case refine_2=>
  rintro _ _ ⟨⟨b,rfl,hb⟩,e⟩;exact⟨congrArg _ (by rw[GV,hb,zGx]),e⟩
 refine en ?_;refine VF ?_;intro p h1 e1 o1;by_cases k1:x.kind=1
 ·by_cases c1:x.a=0;case neg=>
   refine gr ?_;exact⟨⟨_,rfl,by simp only[BA];omega⟩,e1⟩
  by_cases c2:x.els=0;case neg=>
   refine gr ?_;exact⟨⟨_,rfl,by simp only[BA];omega⟩,e1⟩
  refine go ?_;refine WO.bl [x.to] ?_;intro v h2 e2 o2;refine go ?_;refine VA (Yh h2 v _ many o2.sl (by simp)) ?_;rintro _ _ ⟨⟨b,rfl,hb⟩,rfl⟩;refine gr ?_;refine⟨⟨_,rfl,?_⟩,e1.trans e2⟩;rw[hb];simp[k1,c1,c2]
 by_cases k2:x.kind=2
 ·refine go ?_;refine WO.bl [x.a] ?_;intro v h2 e2 o2;have o1:=o1.ext e2;refine go ?_;refine VA (Yh h2 v _ regs o2.sl (by simp)) ?_;rintro _ _ ⟨⟨b,rfl,hb⟩,rfl⟩;cases b with
  |false=>
   have hn:¬BU [x.a] regs:=fun hh=>absurd (hb.2 hh) Bool.noConfusion;refine gr ?_;refine⟨⟨_,rfl,?_⟩,e1.trans e2⟩;simp[k2,hn]
  |true=>
   have hn:=hb.1 rfl;refine go ?_;refine WO.bl [x.to,x.els] ?_;intro v h3 e3 o3;refine go ?_;refine VA (Yh h3 v _ many o3.sl (by simp)) ?_;rintro _ _ ⟨⟨b,rfl,hb⟩,rfl⟩;refine gr ?_;refine⟨⟨_,rfl,?_⟩,(e1.trans e2).trans e3⟩;rw[hb];simp[k2,hn]
 by_cases k3:x.kind=3
 ·by_cases c1:x.to=0;case neg=>
   refine gr ?_;exact⟨⟨_,rfl,by simp only[BA];omega⟩,e1⟩
  by_cases c2:x.els=0;case neg=>
   refine gr ?_;exact⟨⟨_,rfl,by simp only[BA];omega⟩,e1⟩
  refine go ?_;refine WO.bl [x.a] ?_;intro v h2 e2 o2;refine go ?_;refine VA (Yh h2 v _ regs o2.sl (by simp)) ?_;rintro _ _ ⟨⟨b,rfl,hb⟩,rfl⟩;refine gr ?_;refine⟨⟨_,rfl,?_⟩,e1.trans e2⟩;rw[hb];simp[k3,c1,c2]
 ·refine gr ?_;exact⟨⟨_,rfl,by simp only[BA];omega⟩,e1⟩
end Go.Proofs.YtfnndahpddkniaaGreatDoor
set_option maxRecDepth 100000
namespace Go.Proofs.YtfnndahpddkniaaGreatDoor
open Go.Am
theorem _root_.Go.Am.Ext.reg{h h':U0}(e:Ext (inC (zC 0 h)) h'):Ext h (outC h (inC h')):=by
 have x:Ext h (outC h h'):=Ext.outC e;exact x
theorem zEX(h:U0)(vt vf vb:Value)(T:List U2)(F:List WM)(sig:Int)(st:Wp h vt T)(sf:Wd h vf F)(hb:∃ a n k,vb=.slice a n k)(hs:0<=sig/\sig<(T.length:Int))(hp:(T.getD sig.toNat default).parts.length<=1000):
  WC Tryz.prog tb 72 [.agg #[vt,vf],.agg #[I sig,vb]] h fun r h'=>r=I ((T.getD sig.toNat default).parts.length:Int)/\Ext h h':=by
 obtain⟨ta,tn,tk,rfl⟩:=zD st;obtain⟨ga,gn,gk,rfl⟩:=zD sf;obtain⟨ba,bn,bk,rfl⟩:=hb;refine en ?_;refine VF ?_;intro p h1 e1 o1;refine go ?_;refine VF ?_;intro q h2 e2 o2;have o1:=o1.ext e2;have st2:=(st.ext e1).ext e2;obtain⟨cs,⟨va,rfl,sa,hla⟩,pc,hss⟩:=yH (i:=sig.toNat) st2 (by omega);refine gr ?_;exact⟨rfl,e1.trans e2⟩
theorem zEf(l:List WL){i:Nat}(h:i<l.length):zN (l.take (i+1))=zN (l.take i)+((l.getD i default).ins.length:Int):=by
 unfold zN;rw[Q4,QB h];simp only[GB,G5,Option.toList_some,Qr,Gb,Gy,List.sum_nil,List.getD,QB h,GD,Int.add_zero]
theorem zEq{l:List WL}(h:∀ b∈l,b.ins.length<=1000):0<=zN l/\zN l<=1000*l.length:=by
 unfold zN;induction l with
 |nil=>simp
 |cons b l ih=>
  have h1:=h b (by simp);have:=ih fun x hx=>h x (by simp[hx]);simp only[Qr,Gy,GE];omega
theorem zD6(h:U0)(v:Value)(l:List WL)(s:Wi h v l)(hl:l.length<=1000)(hi:∀ b∈l,b.ins.length<=1000):
  WC Tryz.prog tb 73 [v] h fun r h'=>r=I (zN l)/\h=h':=by
 refine en ?_;refine VD (fun i=>l.length-i) (fun i t h1=>h=h1/\zB t 4=I i/\i<=l.length/\zB t 3=I (zN (l.take i))) 0 ?_ ?_
 ·exact⟨rfl,U6,QK _,U6⟩
 rintro i t _ hsame ⟨rfl,s4,hin,s3⟩;have hbd:=zEq (l:=l.take i) fun b hb=>hi b (Qp hb);have htl:(l.take i).length<=i:=List.length_take_le _ _;refine go ?_;refine VE (fun hc=> ?_) (fun hc=> ?_)<;>simp only[DB]at hc
 ·have hi':i<l.length:=by omega
  obtain⟨cs,⟨vi,rfl,si,hli⟩,pc,hs⟩:=zb s hi';have hmt:=zEf l hi';have hin2:=hi _ (zG (l:=l) hi');refine go ?_;exact zA (i+1) (by omega) ⟨rfl,Wc,by omega,by rw[hmt];exact U6⟩
 ·have hii:i=l.length:=by omega
  subst hii;rw[Qk]at s3;refine gr ?_;exact⟨rfl,rfl⟩
theorem zGp(h:U0)(vt vf:Value)(T:List U2)(F:List WM)(f:WM)(cs:List Value)(sm:W0 T F)(si:zEV F)(hf:f∈F)(hm:h.mark<=h.n)(st:Wp h vt T)(sf:Wd h vf F)(hcs:RFn h cs f):
  WC Tryz.prog tb 87 [.agg #[vt,vf],.agg cs.toArray] h fun r h'=>r=.bool (BL T F.length f)/\Ext h h':=by
 obtain⟨vb,rfl,sb,hlb⟩:=hcs;obtain⟨ta,tn,tk,rfl⟩:=zD st;obtain⟨ga,gn,gk,rfl⟩:=zD sf;obtain⟨ba,bn,bk,rfl⟩:=zD sb;have hT:=sm.types;have hF:=sm.funcs;have hB:=sm.blocks f hf;have hI:=sm.ins f hf;have hX:=si f hf;have hmany:=zEq hI;refine en ?_;refine VF ?_;intro p h1 e1 o1;refine go ?_;refine VF ?_;intro q h2 e2 o2;have o1:=o1.ext e2;have e12:=e1.trans e2;have st2:=st.ext e12;have sf2:=Wd.ext sf e12;have sb2:=Wi.ext sb e12;have hm2:=zq e12 hm;have bad:Bw T f=true->BL T F.length f=false:=fun h=>by unfold BL;rw[QF h]
 have badI:Bw T f=true↔¬((0<=f.sig/\f.sig<(T.length:Int))/\(T.getD f.sig.toNat default).kind=3/\(1<=(f.blocks.length:Int)/\(f.blocks.length:Int)<=16)/\zN f.blocks<=128):=by
  unfold Bw zY;simp only[GG,Gk,Bool.and_eq_false_iff,Gf,Qc];omega
 by_cases c1:0<=f.sig;case neg=>
  refine gr ?_;exact⟨by rw[bad (badI.2 fun h=>c1 h.1.1)];rfl,e12⟩
 by_cases c2:f.sig<(T.length:Int);case neg=>
  refine gr ?_;exact⟨by rw[bad (badI.2 fun h=>c2 h.1.2)];rfl,e12⟩
 have hpart:=sm.parts _ (zG (l:=T) (i:=f.sig.toNat) (by omega));obtain⟨csT,⟨vp,rfl,sp,hlp⟩,pcT,hsT⟩:=yH (i:=f.sig.toNat) st2 (by omega);by_cases c3:(T.getD f.sig.toNat default).kind=3;case neg=>
  refine gr ?_;exact⟨by rw[bad (badI.2 fun h=>c3 h.2.1)];simp[one,c3],e12⟩
 by_cases c4:1<=(f.blocks.length:Int);case neg=>
  refine gr ?_;exact⟨by rw[bad (badI.2 fun h=>c4 h.2.2.1.1)];rfl,e12⟩
 by_cases c5:(f.blocks.length:Int)<=16;case neg=>
  refine gr ?_;exact⟨by rw[bad (badI.2 fun h=>c5 h.2.2.1.2)];rfl,e12⟩
 refine go ?_;refine VA (zD6 h2 _ f.blocks sb2 hB hI) ?_;rintro _ _ ⟨rfl,rfl⟩;by_cases c6:zN f.blocks<=128;case neg=>
  refine gr ?_;exact⟨by rw[bad (badI.2 fun h=>c6 h.2.2.2)];rfl,e12⟩
 have hbadF:Bw T f=false:=by
  cases hh:Bw T f with
  |false=>rfl
  |true=>exact absurd ⟨⟨c1,c2⟩,c3,⟨c4,c5⟩,c6⟩ (badI.1 hh)
 have hfn:BL T F.length f= !(f.blocks.any fun b=>Ya b (Bq T F.length f)):=by unfold BL;rw[hbadF];rfl
 rw[hfn];clear bad badI hbadF hfn;refine go ?_;refine VC 0 rfl rfl ?_;have o1X:U1 h (inC (zC 0 h2)) p [_,_]:=o1;have o2X:U1 h1 (inC (zC 0 h2)) q [_,_]:=o2;have stX:Wp (inC (zC 0 h2)) _ T:=st2;have sfX:Wd (inC (zC 0 h2)) _ F:=sf2;have sbX:Wi (inC (zC 0 h2)) _ f.blocks:=sb2;refine U9 ?_;refine VA (zEX (inC (zC 0 h2)) _ _ _ T F f.sig stX sfX ⟨_,_,_,rfl⟩ ⟨c1,c2⟩ (by omega)) ?_;rintro _ h3 ⟨rfl,e3⟩;refine nE e3 ?_;have o2Y:U1 h1 (inC h3) q [I f.sig,.slice ba bn bk]:=by have:=o2X.ext e3;exact this
 have sbY:Wi (inC h3) (.slice ba bn bk) f.blocks:=by have:=Wi.ext sbX e3;exact this
 refine U9 ?_;refine zDc o2 (QE _) ?_;refine U9 ?_;refine VA (zD6 (inC h3) _ f.blocks sbY hB hI) ?_;rintro _ _ ⟨rfl,rfl⟩;refine nQ ?_;refine U9 ?_;have e5:Ext h2 (outC h2 (inC h3)):=e3.reg;obtain⟨h5,hh5⟩:∃ h5,h5=outC h2 (inC h3):=⟨_,rfl⟩;rw[<-hh5]at e5;rw[<-hh5];clear o1X o2X stX sfX sbX o2Y sbY e3 hh5;have o1:=o1.ext e5;have o2:=o2.ext e5;have e15:=e12.trans e5;have st5:=st2.ext e5;have sf5:=Wd.ext sf2 e5;have sb5:=Wi.ext sb2 e5;have hsz:Bq T F.length f=⟨T.length,F.length,((T.getD f.sig.toNat default).parts.length:Int)+zN f.blocks,f.blocks.length⟩:=rfl;rw[hsz];clear hsz pcT sp e12 e1 e2;generalize((T.getD f.sig.toNat default).parts.length:Int)+zN f.blocks=regs at *;obtain⟨s,hs⟩:∃ s:Bm,s=⟨T.length,F.length,regs,f.blocks.length⟩:=⟨_,rfl⟩;rw[<-hs];refine go ?_;refine VD (fun i=>f.blocks.length-i) (fun i t h6=>Ext h5 h6/\zB t 6=I i/\i<=f.blocks.length/\WE (∀ j,j<i->Ya (f.blocks.getD j default) s=false)) 0 ?_ ?_
 ·exact⟨Ext.refl _,U6,QK _,⟨fun j hj=>absurd hj (Qh _)⟩⟩
 rintro i t h6 hsame ⟨e6,s6,hi,hall⟩;have o1:=o1.ext e6;have o2:=o2.ext e6;have e16:=e15.trans e6;have st6:=st5.ext e6;have sf6:=Wd.ext sf5 e6;have sb6:=Wi.ext sb5 e6;refine go ?_;refine VE (fun hc=> ?_) (fun hc=> ?_)<;>simp only[DB]at hc;case refine_2=>
  have hany:(f.blocks.any fun b=>Ya b s)=false:=YC fun b hb=>by
   obtain⟨j,hj,rfl⟩:=ZX hb;exact hall.out j (by omega)
  refine gr ?_;exact⟨by rw[hany];rfl,e16⟩
 have hi':i<f.blocks.length:=by omega
 obtain⟨csB,⟨vi,rfl,sn,hln⟩,pcB,hsB⟩:=zb sb6 hi';have hmemB:=zG (l:=f.blocks) hi';have hIB:=hI _ hmemB;have hXB:=hX _ hmemB;have bad:Ya (f.blocks.getD i default) s=true->(!f.blocks.any fun b=>Ya b s)=false:=fun hb=>by
  rw[Gz.2 ⟨_,hmemB,hb⟩];rfl
 generalize hB0:f.blocks.getD i default=B at *;refine go ?_;refine VD (fun k=>B.ins.length-k) (fun k t h7=>Ext h6 h7/\zB t 7=I k/\k<=B.ins.length/\WE (∀ j,j<k->Bo (B.ins.getD j default) s=true)) 0 ?_ ?_
 ·exact⟨Ext.refl _,U6,QK _,⟨fun j hj=>absurd hj (Qh _)⟩⟩
 rintro k t2 h7 hsame2 ⟨e7,s7,hk,hallk⟩;have o1:=o1.ext e7;have o2:=o2.ext e7;have e17:=e16.trans e7;have st7:=st6.ext e7;have sf7:=Wd.ext sf6 e7;have sb7:=Wi.ext sb6 e7;obtain⟨csB,hcsB,pcB,hsB⟩:=zb sb7 hi';rw[hB0]at hcsB;obtain⟨vi,rfl,sn,hln⟩:=hcsB;refine go ?_;refine VE (fun hd=> ?_) (fun hd=> ?_)<;>simp only[DB]at hd
 ·have hk':k<B.ins.length:=by omega
  have hmemI:=zG (l:=B.ins) hk';obtain⟨csI,hcsI,pcI,hsI⟩:=zb sn hk';obtain⟨va,vfr,rfl,sa,sfr,hla,hlf,ho,ho2⟩:=id hcsI;refine go ?_;refine VC 0 rfl rfl ?_;have o1X:U1 h (inC (zC 0 h7)) p [_,_]:=o1;have o2X:U1 h1 (inC (zC 0 h7)) q [_,_]:=o2;have stX:Wp (inC (zC 0 h7)) _ T:=st7;have sfX:Wd (inC (zC 0 h7)) _ F:=sf7;have sbX:Wi (inC (zC 0 h7)) _ f.blocks:=sb7;obtain⟨csX,hcsX,pcX,hsX⟩:=zb sbX hi';rw[hB0]at hcsX;obtain⟨viX,rfl,snX,hlnX⟩:=hcsX;obtain⟨csIX,riX,pcIX,hsIX⟩:=zb snX hk';obtain⟨vaX,vfrX,rfl,saX,sfrX,_,_,_,_⟩:=id riX;obtain⟨xa,xn,xk,rfl⟩:=yZ saX;obtain⟨ya,yn,yk,rfl⟩:=yZ sfrX;refine U9 ?_;refine VA (zJJ (inC (zC 0 h7)) _ _ T F (B.ins.getD k default) _ regs f.blocks.length stX sfX (by omega) (by omega) riX (hXB _ hmemI)) ?_;rintro _ h8 ⟨rfl,e8⟩;refine nE e8 ?_;refine U9 ?_;have e9:Ext h7 (outC h7 (inC h8)):=e8.reg;obtain⟨h9,hh9⟩:∃ h9,h9=outC h7 (inC h8):=⟨_,rfl⟩;rw[<-hh9]at e9;rw[<-hh9];rw[<-hs];clear o1X o2X stX sfX sbX pcX snX pcIX riX e8 hh9 saX sfrX;cases hins:Bo (B.ins.getD k default) s with
  |false=>
   refine gr ?_;refine⟨?_,e17.trans e9⟩;rw[bad (by unfold Ya;rw[Gz.2 ⟨_,hmemI,by rw[hins];rfl⟩];rfl)];rfl
  |true=>
   refine go ?_;refine zA (k+1) (by omega) ⟨e7.trans e9,Wc,by omega,⟨fun j hj=> ?_⟩⟩;by_cases e:j=k
   ·subst e;exact hins
   ·exact hallk.out j (by omega)
 ·have hanyI:(B.ins.any fun x=> !Bo x s)=false:=YC fun x hx=>by
   obtain⟨j,hj,rfl⟩:=ZX hx;rw[hallk.out j (by omega)];rfl
  refine go ?_;refine VC 0 rfl rfl ?_;have o2X:U1 h1 (inC (zC 0 h7)) q [_,_]:=o2;have sbX:Wi (inC (zC 0 h7)) _ f.blocks:=sb7;obtain⟨csX,hcsX,pcX,hsX⟩:=zb sbX hi';rw[hB0]at hcsX;obtain⟨viX,rfl,snX,hlnX⟩:=hcsX;obtain⟨xa,xn,xk,rfl⟩:=zD snX;refine U9 ?_;refine VA (zH5 (inC (zC 0 h7)) B.fin T.length F.length regs f.blocks.length) ?_;rintro _ h8 ⟨rfl,e8⟩;refine nE e8 ?_;refine U9 ?_;have e9:Ext h7 (outC h7 (inC h8)):=e8.reg;obtain⟨h9,hh9⟩:∃ h9,h9=outC h7 (inC h8):=⟨_,rfl⟩;rw[<-hh9]at e9;rw[<-hh9];rw[<-hs];clear o2X sbX pcX snX e8 hh9;cases hend:Bx B.fin s with
  |false=>
   refine gr ?_;refine⟨?_,e17.trans e9⟩;rw[bad (by unfold Ya;rw[hend,hanyI];rfl)];rfl
  |true=>
   refine go ?_;refine zA (i+1) (by omega) ⟨(e6.trans e7).trans e9,Wc,by omega,⟨fun j hj=> ?_⟩⟩;by_cases e:j=i
   ·subst e;rw[hB0];unfold Ya;rw[hend,hanyI];rfl
   ·exact hall.out j (by omega)
end Go.Proofs.YtfnndahpddkniaaGreatDoor
