/- Walks of functions, plain laws; proves no statement. -/
import Derived.Test.YtfnndahpddkniaaGreatDoorJh
set_option linter.all false
set_option maxHeartbeats 2000000
set_option maxRecDepth 100000
namespace Go.Proofs.YtfnndahpddkniaaGreatDoor
open Go.Am
section
variable {P:Program}{tab:Wl}{t:U3 Value}{ds:List Deferred}{rd:Option Nat}{h:Uy}{Q:WF->Uy->Prop}{l:List U1}{d:Nat}{ty:TypeId}{x:Operand}{v r:Value}
theorem WO.as{ok:Bool}(hr:zDu P ty ok v=some r)(k:WO P tab l ⟨t.set d r,ds,rd⟩ h Q)(hx:U8 t x v:=by exact zR):WO P tab (⟨some d,none,.assert ty ok x⟩::l) ⟨t,ds,rd⟩ h Q:=
 WO.op _ _ rfl (by unfold U8 at *;simp only[U6,hx,hr,QH]) k
theorem UJ(hr:zDs P ty v=some r)(k:WO P tab l ⟨t.set d r,ds,rd⟩ h Q)(hx:U8 t x v:=by exact zR):WO P tab (⟨some d,none,.typeOf ty x⟩::l) ⟨t,ds,rd⟩ h Q:=
 WO.op _ _ rfl (by unfold U8 at *;simp only[U6,hx,hr,QH]) k
theorem Uv{f:FuncId}{name:String}{u:Value}(hm:zBZ P ty name=some f)(k:WC P tab f [u] h fun v h'=>WO P tab l ⟨t.set d v,ds,rd⟩ h' Q)(hx:U8 t x (.iface ty u):=by exact zR):WO P tab (⟨some d,none,.invoke x name []⟩::l) ⟨t,ds,rd⟩ h Q:=
 WO.invoke hx hm rfl k
theorem Uj{G rt:Nat}{b:Bool}(hb:YW P G rt ty=some b)(k:WO P tab l ⟨t.set d (.bool b),ds,rd⟩ h Q)(hx:U8 t x (zGL G rt ty):=by exact zR):WO P tab (⟨some d,none,.invoke x "Comparable" []⟩::l) ⟨t,ds,rd⟩ h Q:=
 XA hx hb k
end
abbrev tyE:Nat:=33
abbrev zKW:Value:= .iface tyE (I 120)
theorem zIz(h:Uy)(f b:Int):WC Tryz.prog tb 267 [.agg #[I f,I b,I 120]] h fun r h'=>r=zKW/\Ext h h':=by
 refine en ?_;refine VF ?_;intro p h1 e1 o1;replace o1:Uz h h1 p [I f,I b,I 120]:=o1;refine go ?_;refine VX ?_;refine gr ?_;exact⟨rfl,e1⟩
theorem zPd(h:Uy)(f b:Int):WC Tryz.prog tb 140 [Bi f b,zKW,.bool true] h fun r h'=>r=.bool true/\Ext h h':=by
 refine en ?_;refine VD (fun i=>2-i) (fun i t h'=>Ext h h'/\((i=0/\zB t 0=Bi f b)\/(i=1/\zB t 0=zKW))) 0 ?_ ?_
 ·exact⟨Ext.refl _,.inl ⟨rfl,U4⟩⟩
 rintro i t h1 hsame ⟨e1,⟨rfl,s0⟩|⟨rfl,s0⟩⟩
 ·unfold Bi at s0;refine go ?_;refine Vr (v:= .bool false) (by kernel_rfl) ?_;refine go ?_;refine WO.as (r:= .tuple #[.nilIface,.bool false]) (by kernel_rfl) ?_;refine go ?_;refine WO.as (r:= .tuple #[.iface tyF (.agg #[I f,I b,I 120]),.bool true]) (by kernel_rfl) ?_;refine go ?_;refine Uv (f:=267) (by kernel_rfl) ?_;refine WC.mono (zIz h1 f b) ?_;rintro _ h2 ⟨rfl,e2⟩;refine go ?_;simp only[GX,QY];refine go ?_;exact zA 1 (by omega) ⟨e1.trans e2,.inr ⟨rfl,U4⟩⟩
 ·refine go ?_;refine Vr (v:= .bool true) (by kernel_rfl) ?_;refine gr ?_;exact⟨rfl,e1⟩
theorem zOz(h:Uy)(f b:Int):WC Tryz.prog tb 105 [Bi f b,zKW] h fun r h'=>r=.bool true/\Ext h h':=by
 unfold Bi;refine en ?_;simp only[GX,QY];refine go ?_;simp only[GX,QY];refine go ?_;refine UJ (v:=zKW) rfl ?_;refine go ?_;refine Uj (b:=true) (by kernel_rfl) ?_;refine go ?_;have hk:=zPd h f b;unfold Bi at hk;refine VA hk ?_;rintro _ h2 ⟨rfl,e2⟩;refine gr ?_;exact⟨rfl,e2⟩
theorem zNv(h:Uy):WC Tryz.prog tb 105 [.nilIface,zKW] h fun r h'=>r=.bool false/\h=h':=by
 refine en ?_;simp only[GX,QY];refine go ?_;refine Vr (v:= .bool false) (by kernel_rfl) ?_;refine gr ?_;exact⟨rfl,rfl⟩
noncomputable def zK(T:List U0)(F:List WJ):Int:=open Classical in if yx T F≠0 then yx T F else if WfP T F then 0 else 120
theorem zKz(h:Uy)(vt vf:Value)(T:List U0)(F:List WJ)(E:Bh h vt vf T F):
  WC Tryz.prog tb 78 [.agg #[vt,vf]] h fun r h'=>r=I (zK T F)/\Ext h h':=by
 unfold zK;have hF:=E.sm.funcs;refine en ?_;refine VF ?_;intro p1 h1 e1 o1;replace o1:Uz h h1 p1 [vt,vf]:=o1;have E1:=E.ext e1;refine go ?_;refine VA (zJl h1 vt vf T F E1.tt E1.hm E1.sm E1.st E1.sf) ?_;rintro _ h2 ⟨rfl,e2⟩;have o2:=o1.ext e2;have E2:=E1.ext e2;have sf2:=E2.sf;by_cases hp:yx T F=0;case neg=>
  rw[QF hp];refine gr ?_;exact⟨rfl,e1.trans e2⟩
 rw[QC (fun e=>e hp),hp];refine go ?_;refine VD (fun i=>F.length-i) (fun i t h'=>Ext h2 h'/\zB t 14=I i/\i<=F.length/\WA (∀ f:Int,0<=f->f<(i:Int)->zHE T F f)) 0 ?_ ?_
 ·exact⟨Ext.refl _,U4,QL _,⟨fun f f0 f1=>by omega⟩⟩
 rintro i t h3 hsame ⟨e3,s14,hi,hI⟩;have o3:=o2.ext e3;have e03:=e1.trans (e2.trans e3);refine go ?_;refine VE (fun hb=> ?_) (fun hb=> ?_)<;>simp only[DB]at hb
 ·have hi':i<F.length:=by omega
  refine go ?_;refine VA (zGa h3 vt vf T F i (E2.ext e3) hp ⟨by omega,by omega⟩) ?_;rintro q h4 ⟨⟨rfl,hq⟩|⟨⟨b,rfl⟩,hq⟩,e4⟩
  ·refine go ?_;refine VX ?_;refine go ?_;refine VA (zNv h4) ?_;rintro _ _ ⟨rfl,rfl⟩;refine go ?_;refine zA (i+1) (by omega) ⟨e3.trans e4,Wd,by omega,⟨fun f f0 f1=> ?_⟩⟩;by_cases hfi:f=i
   ·subst hfi;exact hq
   ·exact hI.out f f0 (by omega)
  ·refine go ?_;refine VX ?_;refine go ?_;refine VA (zOz h4 i b) ?_;rintro _ h5 ⟨rfl,e5⟩;refine gr ?_;refine⟨?_,e03.trans (e4.trans e5)⟩;rw[QC (fun w=>hq (w i (by omega) (by omega)))];rfl
 ·have hii:i=F.length:=by omega
  refine gr ?_;refine⟨?_,e03⟩;rw[QF (show WfP T F from fun f f0 f1=>hI.out f f0 (by omega))];rfl
theorem yi{T:List U0}{F:List WJ}(h:zK T F=0):yx T F=0/\WfP T F:=by
 unfold zK at h;split at h
 ·rename_i hp;exact absurd h hp
 ·rename_i hp;split at h
  ·rename_i hw;exact⟨Classical.not_not.1 hp,hw⟩
  ·cases h
theorem zBO{α:Type}{a b:List α}{i:Nat}{d:α}(h:i<a.length):(a++b).getD i d=a.getD i d:=by
 rw[QI,QI,Q7 h]
theorem zBb{α:Type}{a b:List α}{i:Nat}{d:α}(h:a.length<=i):(a++b).getD i d=b.getD (i-a.length) d:=by
 rw[QI,QI,GG h]
theorem Yh{α β:Type}{l:List α}{i:Nat}{f:α->β}{a:α}{b:β}(h:i<l.length):(l.map f).getD i b=f (l.getD i a):=by
 rw[QI,QI,GS,QB h];rfl
theorem zCW(b:WK)(L:List WK):∀ n,yb (b::L) (n+1)=((List.range b.ins.length).map fun(i:Nat)=>((0:Int),(i:Int)))++(yb L n).map fun p=>(p.1+1,p.2)
 |0=>by simp[yb]
 |n+1=>by
  show yb (b::L) (n+1)++(List.range (L.getD n default).ins.length).map (fun(i:Nat)=>(((n+1:Nat):Int),(i:Int)))=_++(yb L n++(List.range (L.getD n default).ins.length).map fun(i:Nat)=>((n:Int),(i:Int))).map (fun p=>(p.1+1,p.2));rw[zCW b L n,GD,List.map_map,Qm];rfl
theorem zI1(L:List WK):((yb L L.length).length:Int)=zN L:=by
 rw[<-zCx L _ (QE _),Qg,zEk]
theorem zCo:∀ (L:List WK) (k:Int),0<=k->k<zN L->(yb L L.length).getD k.toNat default=z0 L k
 |[],k,h0,h1=>by have h1:k<0:=h1;omega
 |b::L,k,h0,h1=>by
  rw[GB,zCW];rw[Zw]at h1;unfold z0;by_cases hk:k<b.ins.length
  ·rw[QC (by omega),zBO (by rw[Qz,G5];omega),Yh (a:=0) (by rw[G5];omega)];rw[QI,List.getElem?_range (by omega)];show((0:Int),((k.toNat:Nat):Int))=_;rw[show((k.toNat:Nat):Int)=k by omega]
  ·rw[QF (by omega),zBb (by rw[Qz,G5];omega),Qz,G5];have hl:=zI1 L;rw[Yh (a:=default) (by omega),show k.toNat-b.ins.length=(k-b.ins.length).toNat by omega,zCo L _ (by omega) (by omega)]
theorem zDM:∀ (L:List WK) (k:Int),0<=k->k<zN L->(Zj L).getD k.toNat 0=Yn ((L.getD (z0 L k).1.toNat default).ins.getD (z0 L k).2.toNat default)
 |[],k,h0,h1=>by have h1:k<0:=h1;omega
 |b::L,k,h0,h1=>by
  have hc:Zj (b::L)=b.ins.map Yn++Zj L:=by unfold Zj;rw[List.flatMap_cons]
  rw[hc];rw[Zw]at h1;unfold z0;by_cases hk:k<b.ins.length
  ·rw[QC (by omega),zBO (by rw[Qz];omega),Yh (a:=default) (by omega)];rfl
  ·rw[QF (by omega),zBb (by rw[Qz];omega),Qz,show k.toNat-b.ins.length=(k-b.ins.length).toNat by omega,zDM L _ (by omega) (by omega)];have:=(zBc (l:=L) (a:=k-b.ins.length) (by omega) (by omega)).1;show _=Yn (((b::L).getD ((z0 L (k-b.ins.length)).1+1).toNat default).ins.getD _ default);rw[show((z0 L (k-b.ins.length)).1+1).toNat=(z0 L (k-b.ins.length)).1.toNat+1 by omega,List.getD_cons_succ]
theorem zPJ{T:List U0}{F:List WJ}{f r:Int}(h0:0<=r)(h1:r<zBy ((yF T F f).parts.length:Int) (zJ F f)):
  (Ba T F f).getD r.toNat default=if r<((yF T F f).parts.length:Int)then(-1,-1)else z0 (zJ F f) (r-((yF T F f).parts.length:Int)):=by
 unfold Ba zDq;unfold zBy at h1;split
 ·rename_i h;rw[zBO (by rw[G1];omega),zMf (by omega)]
 ·rename_i h;rw[zBb (by rw[G1];omega),G1,show r.toNat-(yF T F f).parts.length=(r-((yF T F f).parts.length:Int)).toNat by omega,zCo _ _ (by omega) (by omega)]
theorem zO7{T:List U0}{F:List WJ}{f r:Int}(h0:0<=r)(h1:r<zBy ((yF T F f).parts.length:Int) (zJ F f)):
  (Ww T F f).getD r.toNat 0=if r<((yF T F f).parts.length:Int)then(yF T F f).parts.getD r.toNat 0 else Yn (((zJ F f).getD (z0 (zJ F f) (r-((yF T F f).parts.length:Int))).1.toNat default).ins.getD (z0 (zJ F f) (r-((yF T F f).parts.length:Int))).2.toNat default):=by
 unfold Ww zE0;unfold zBy at h1;split
 ·rename_i h;rw[zBO (by omega)]
 ·rename_i h;rw[zBb (by omega),show r.toNat-(yF T F f).parts.length=(r-((yF T F f).parts.length:Int)).toNat by omega,zDM _ _ (by omega) (by omega)]
theorem zKY{T:List U0}{F:List WJ}{f r:Int}(hp:yx T F=0):y8 T F f r=if f<0\/(F.length:Int)<=f\/r<0\/zBy ((yF T F f).parts.length:Int) (zJ F f)<=r then(0,0,2)else
  if r<((yF T F f).parts.length:Int)then(-1,r,0)else((z0 (zJ F f) (r-((yF T F f).parts.length:Int))).1,(z0 (zJ F f) (r-((yF T F f).parts.length:Int))).2,0):=by
 unfold y8;by_cases hf:0<=f/\f<(F.length:Int)
 ·have hask:z8 T F f=(((yF T F f).parts.length:Int),0):=by
   unfold z8;rw[QC (fun e=>e hp),QF (by unfold zY;simp;omega)];rfl
  rw[hask];rw[QC (fun e=>e rfl)];show(if r<0\/((yF T F f).parts.length:Int)+zN (F.getD f.toNat default).blocks<=r then(0,0,2)else if r<((yF T F f).parts.length:Int)then(-1,r,0)else((z0 (zJ F f) (r-((yF T F f).parts.length:Int))).1,(z0 (zJ F f) (r-((yF T F f).parts.length:Int))).2,0))=_;by_cases h1:r<0\/((yF T F f).parts.length:Int)+zN (F.getD f.toNat default).blocks<=r
  ·rw[QF h1,QF (by unfold zBy zJ;omega)]
  ·rw[QC h1,QC (c:=f<0\/_) (by unfold zBy zJ;omega)]
 ·have hask:z8 T F f=(0,2):=by
   unfold z8;rw[QC (fun e=>e hp),QC (by unfold zY;simp;omega)]
  rw[hask,QF (by decide),QF (by omega)]
theorem zMJ{T:List U0}{F:List WJ}{f r block at':Int}(hp:yx T F=0)(Z:FnIn T F f)(h0:0<=r)(h1:r<zBy ((yF T F f).parts.length:Int) (zJ F f))(hb:0<=block/\block<((zJ F f).length:Int)):
  (y8 T F f r).2.2=0/\(zN2 T F f r block at'↔zBr (WT (zJ F f)) ((Ba T F f).getD r.toNat default) block at'):=by
 have hf:=Z.hf;have hnx:nxF T F f=WT (zJ F f):=by unfold nxF;rw[Z.bl 0 (Qe 0) (by have:=Z.n1;omega)]
 have hpl:=zKY (f:=f) (r:=r) hp;rw[QC (by omega)]at hpl;unfold zN2 zBr;rw[hpl,zPJ h0 h1,hnx];by_cases c:r<((yF T F f).parts.length:Int)
 ·rw[QF c,QF c];refine⟨rfl,?_⟩;rw[QC (by show ¬(-1:Int)=block;omega)];simp
 ·rw[QC c,QC c];refine⟨rfl,?_⟩;unfold zBy at h1;have hw:=zBc (l:=zJ F f) (a:=r-((yF T F f).parts.length:Int)) (by omega) (by omega);have hne:(z0 (zJ F f) (r-((yF T F f).parts.length:Int))).1≠ -1:=by omega
  by_cases d:(z0 (zJ F f) (r-((yF T F f).parts.length:Int))).1=block
  ·rw[QF d];exact⟨fun h=>h.elim (fun h=>absurd h hne) fun h=>h.elim (fun h=>h.2) fun h=>absurd d h.2.1,fun h=> .inr (.inl ⟨d,h⟩)⟩
  ·rw[QC d];exact⟨fun h=>h.elim (fun h=>absurd h hne) fun h=>h.elim (fun h=>absurd h.1 d) fun h=> .inr h.2.2,fun h=>h.elim (fun h=>absurd h hne) fun h=> .inr (.inr ⟨hne,d,h⟩)⟩
end Go.Proofs.YtfnndahpddkniaaGreatDoor
set_option maxRecDepth 100000
namespace Go.Proofs.YtfnndahpddkniaaGreatDoor
open Go.Am
theorem zC3(h:Uy)(vt:Value)(T:List U0)(k:Int)(st:Wn h vt T)(hT:(T.length:Int)<=1000):
  WC Tryz.prog tb 187 [vt,I k] h fun r h'=>(∃ b,r=.bool b/\(b=true↔PlT T k))/\h=h':=by
 refine en ?_;by_cases h0:0<=k;case neg=>
  refine gr ?_;exact⟨⟨_,rfl,by unfold PlT;simp only[W0];omega⟩,rfl⟩
 by_cases h1:k<(T.length:Int);case neg=>
  refine gr ?_;exact⟨⟨_,rfl,by unfold PlT;simp only[W0];omega⟩,rfl⟩
 obtain⟨cs,⟨va,rfl,sa,hla⟩,pc,hs⟩:=yO (i:=k.toNat) st (by omega);refine go ?_;repeat' (first|(refine VE (fun hb=> ?_) (fun hb=> ?_)<;>(try simp only[DB]at hb)<;>refine go ?_)|(refine VJ (fun hb=> ?_) (fun hb=> ?_)<;>(try simp only[DB]at hb)<;>refine go ?_))
 all_goals (refine rt ?_;exact⟨⟨_,rfl,by unfold PlT;simp only[W0];omega⟩,rfl⟩)
theorem zKl(h:Uy)(v:Value)(l:List Int)(m:Int)(s:WH h v l)(hl:(l.length:Int)<=1000000):
  WC Tryz.prog tb 147 [v,I m] h fun r h'=>(∃ b,r=.bool b/\(b=true↔∀ p∈l,0<=p/\p<m))/\h=h':=by
 refine en ?_;refine VD (fun i=>l.length-i) (fun i t h1=>h=h1/\zB t 5=I i/\i<=l.length/\∀ j,j<i->0<=l.getD j 0/\l.getD j 0<m) 0 ?_ ?_
 ·exact⟨rfl,U4,QL _,fun j hj=>absurd hj (Ql _)⟩
 rintro i t _ hsame ⟨rfl,s5,hi,hm⟩;refine go ?_;refine VE (fun hb=> ?_) (fun hb=> ?_)<;>simp only[DB]at hb
 ·have hi':i<l.length:=by omega
  by_cases hok:0<=l.getD i 0/\l.getD i 0<m
  ·refine go ?_;refine zA (i+1) (by omega) ⟨rfl,Wd,by omega,fun j hj=> ?_⟩;by_cases e:j=i
   ·subst e;exact hok
   ·exact hm j (by omega)
  ·have hno:¬∀ p∈l,0<=p/\p<m:=fun hh=>hok (hh _ (zO hi'));by_cases h0:l.getD i 0<0
   ·refine gr ?_;exact⟨⟨_,rfl,by simp only[W0];exact hno⟩,rfl⟩
   ·refine gr ?_;exact⟨⟨_,rfl,by simp only[W0];exact hno⟩,rfl⟩
 ·refine gr ?_;refine⟨⟨_,rfl,?_⟩,rfl⟩;simp only[W0];intro p hp;obtain⟨j,hj,rfl⟩:=Zg hp;exact hm j (by omega)
theorem zKH(h:Uy)(vt va:Value)(T:List U0)(x:U0)(st:Wn h vt T)(hT:(T.length:Int)<=1000)(sa:WH h va x.parts)(hla:(x.parts.length:Int)<=1000000):
  WC Tryz.prog tb 146 [vt,.agg #[.int .u8 x.kind,I x.elem,I x.many,va]] h fun r h'=>(∃ b,r=.bool b/\(b=true↔zCM T x))/\Ext h h':=by
 refine en ?_;refine VF ?_;intro p h1 e1 o1;have st1:=st.ext e1;have sa1:=sa.ext e1;obtain⟨_,_,_,rfl⟩:=WW.shape sa;refine go ?_;refine VD (fun i=>x.parts.length-i) (fun i t h2=>h1=h2/\zB t 5=I i/\i<=x.parts.length/\∀ j,j<i->PlT T (x.parts.getD j 0)) 0 ?_ ?_
 ·exact⟨rfl,U4,QL _,fun j hj=>absurd hj (Ql _)⟩
 rintro i t _ hsame ⟨rfl,s5,hi,hm⟩;refine go ?_;refine VE (fun hb=> ?_) (fun hb=> ?_)<;>simp only[DB]at hb
 ·have hi':i<x.parts.length:=by omega
  refine go ?_;refine VA (zC3 h1 vt T (x.parts.getD i 0) st1 hT) ?_;rintro _ _ ⟨⟨b,rfl,hbb⟩,rfl⟩;cases b with
  |true=>
   refine go ?_;refine zA (i+1) (by omega) ⟨rfl,Wd,by omega,fun j hj=> ?_⟩;by_cases e:j=i
   ·subst e;exact hbb.1 rfl
   ·exact hm j (by omega)
  |false=>
   refine gr ?_;exact⟨⟨_,rfl,by simp only[W0];exact fun hh=>absurd (hbb.2 (hh.1 _ (zO hi'))) Bool.noConfusion⟩,e1⟩
 ·have hall:∀ p∈x.parts,PlT T p:=fun p hp=>by
   obtain⟨j,hj,rfl⟩:=Zg hp;exact hm j (by omega)
  replace hall:=WA.mk hall;replace hm:=WA.mk hm;refine go ?_;refine VA (zC3 h1 vt T x.elem st1 hT) ?_;rintro _ _ ⟨⟨b,rfl,hbb⟩,rfl⟩;replace hbb:=WA.mk hbb;have key:∀ q:Bool,(q=true↔b=true/\(x.parts.length:Int)<=4/\x.many=0)->(q=true↔zCM T x):=fun q hq=>by
   rw[hq];unfold zCM;rw[hbb.out];refine⟨fun h=>⟨hall.out,h.1,by omega,h.2.2⟩,fun h=>⟨h.2.1,by omega,h.2.2.2⟩⟩
  cases b with
  |false=>
   refine gr ?_;exact⟨⟨_,rfl,key _ (by simp)⟩,e1⟩
  |true=>
   refine go ?_;repeat' (first|(refine VE (fun hb=> ?_) (fun hb=> ?_)<;>(try simp only[DB]at hb)<;>refine go ?_)|(refine VJ (fun hb=> ?_) (fun hb=> ?_)<;>(try simp only[DB]at hb)<;>refine go ?_))
   all_goals (refine rt ?_;exact⟨⟨_,rfl,key _ (by simp only[W0,true_and];omega)⟩,e1⟩)
theorem zL8{T:List U0}{x:U0}{k:Nat}:zDd T x k↔(x.kind=1/\x.elem=0/\x.many=0/\(x.parts.length:Int)=0)\/
 (x.kind=2/\0<=x.elem/\x.elem<(T.length:Int)/\x.many=0/\(x.parts.length:Int)=0)\/(x.kind=3/\zCM T x)\/
 (x.kind=4/\x.elem=0/\x.many=0/\1<=(x.parts.length:Int)/\(x.parts.length:Int)<=8/\∀ p∈x.parts,0<=p/\p<(k:Int))\/
 (x.kind=5/\0<=x.elem/\x.elem<(k:Int)/\1<=x.many/\x.many<=16/\(x.parts.length:Int)=0):=by
 unfold zDd;have h0:(x.parts.length:Int)=0↔x.parts.length=0:=by omega
 have h1:1<=(x.parts.length:Int)↔1<=x.parts.length:=by omega
 have h8:(x.parts.length:Int)<=8↔x.parts.length<=8:=by omega
 rw[h0,h1,h8]
theorem zHi(h:Uy)(vt:Value)(T:List U0)(k:Nat)(st:Wn h vt T)(hT:(T.length:Int)<=1000)(hk:k<T.length)(hpl:((T.getD k default).parts.length:Int)<=1000000):
  WC Tryz.prog tb 110 [vt,I k] h fun r h'=>(∃ b,r=.bool b/\(b=true↔ZI T k))/\Ext h h':=by
 obtain⟨cs,⟨va,rfl,sa,hla⟩,pc,hs⟩:=yO (i:=k) st hk;unfold ZI;generalize T.getD k default=x at *;have hmx:=WA.mk (zL8 (T:=T) (x:=x) (k:=k));obtain⟨_,_,_,rfl⟩:=WW.shape sa;refine en ?_;refine VK ?_;intro p h1 e1 o1;refine go ?_;refine VG o1 e1 ?_;intro h2 e2 o2 _;have st2:=st.ext e2;have sa2:=sa.ext e2;by_cases h1:x.kind=1
 ·skip;refine go ?_;repeat' (first|(refine VE (fun hb=> ?_) (fun hb=> ?_)<;>(try simp only[DB]at hb)<;>refine go ?_)|(refine VJ (fun hb=> ?_) (fun hb=> ?_)<;>(try simp only[DB]at hb)<;>refine go ?_))
  all_goals (refine rt ?_;exact⟨⟨_,rfl,by rw[hmx.out];simp only[W0];omega⟩,e2⟩)
 by_cases h2:x.kind=2
 ·skip;refine go ?_;repeat' (first|(refine VE (fun hb=> ?_) (fun hb=> ?_)<;>(try simp only[DB]at hb)<;>refine go ?_)|(refine VJ (fun hb=> ?_) (fun hb=> ?_)<;>(try simp only[DB]at hb)<;>refine go ?_))
  all_goals (refine rt ?_;exact⟨⟨_,rfl,by rw[hmx.out];simp only[W0];omega⟩,e2⟩)
 by_cases h3:x.kind=3
 ·refine go ?_;refine VA (zKH _ vt _ T x st2 hT sa2 hpl) ?_;rintro _ h5 ⟨⟨b,rfl,hbb⟩,e5⟩;refine gr ?_;refine⟨⟨_,rfl,?_⟩,e2.trans e5⟩;rw[hbb,hmx.out];refine⟨fun h=> .inr (.inr (.inl ⟨h3,h⟩)),fun h=> ?_⟩;rcases h with h|h|h|h|h
  ·omega
  ·omega
  ·exact h.2
  ·omega
  ·omega
 by_cases h4:x.kind=4
 ·refine go ?_;refine VJ (fun hd=> ?_) (fun hd=> ?_)<;>simp only[DB]at hd;case refine_2=>
   refine gr ?_;refine⟨⟨_,rfl,?_⟩,e2⟩;rw[hmx.out];simp only[W0];omega
  refine go ?_;refine VJ (fun hd2=> ?_) (fun hd2=> ?_)<;>simp only[DB]at hd2;case refine_2=>
   refine gr ?_;refine⟨⟨_,rfl,?_⟩,e2⟩;rw[hmx.out];simp only[W0];omega
  refine go ?_;refine VJ (fun hd3=> ?_) (fun hd3=> ?_)<;>simp only[DB]at hd3;case refine_2=>
   refine gr ?_;refine⟨⟨_,rfl,?_⟩,e2⟩;rw[hmx.out];simp only[W0];omega
  refine go ?_;refine VJ (fun hd4=> ?_) (fun hd4=> ?_)<;>simp only[DB]at hd4;case refine_2=>
   refine gr ?_;refine⟨⟨_,rfl,?_⟩,e2⟩;rw[hmx.out];simp only[W0];omega
  refine go ?_;refine VA (zKl _ _ x.parts k sa2 hpl) ?_;rintro _ _ ⟨⟨b,rfl,hbb⟩,rfl⟩;refine gr ?_;refine⟨⟨_,rfl,?_⟩,e2⟩;rw[hbb,hmx.out];refine⟨fun h=> .inr (.inr (.inr (.inl ⟨h4,hd,hd2,hd3,hd4,h⟩))),fun h=> ?_⟩;rcases h with h|h|h|h|h
  ·omega
  ·omega
  ·omega
  ·exact h.2.2.2.2.2
  ·omega
 by_cases h5:x.kind=5
 ·skip;refine go ?_;repeat' (first|(refine VE (fun hb=> ?_) (fun hb=> ?_)<;>(try simp only[DB]at hb)<;>refine go ?_)|(refine VJ (fun hb=> ?_) (fun hb=> ?_)<;>(try simp only[DB]at hb)<;>refine go ?_))
  all_goals (refine rt ?_;exact⟨⟨_,rfl,by rw[hmx.out];simp only[W0];omega⟩,e2⟩)
 ·refine gr ?_;refine⟨⟨_,rfl,?_⟩,e2⟩;rw[hmx.out];simp only[W0];omega
theorem zBH{α:Type}{l:List α}{f:α->List Int}(h:∀ x∈l,(f x).length<=32):(l.map f).flatten.length<=32*l.length:=by
 induction l with
 |nil=>simp
 |cons a l ih=>
  have:=h a (by simp);have:=ih fun x hx=>h x (by simp[hx]);simp only[Q1,GT,QR,GB];omega
theorem zC8{α:Type}[Inhabited α]{l:List α}{f:α->List Int}{i:Nat}(h:i<l.length):((l.take (i+1)).map f).flatten=((l.take i).map f).flatten++f (l.getD i default):=by
 rw[Qv,QB h,GD,List.flatten_append];simp[List.getD,QB h]
theorem zPS(vt:Value)(T:List U0)(hT:(T.length:Int)<=1000):∀ (n k:Nat) (h:Uy),k<n->Wn h vt T->k<T.length->zDc T k->ZI T k->
  WC Tryz.prog tb 41 [vt,I k] h fun r h'=>U5 h h' r (W8 T k)/\Ext h h':=by
 intro n;induction n with
 |zero=>intro k h hk;omega
 |succ n ih=>
  intro k h hkn st hk hlow hM;have hof:=Yk (T:=T) (k:=k) fun j hj=>by
   by_cases e:j=k
   ·subst e;exact hM
   ·exact(hlow j (by omega)).1
  obtain⟨cs,⟨va,rfl,sa,hla⟩,pc,hs⟩:=yO (i:=k) st hk;unfold ZI zDd at hM;rw[hof];clear hof;generalize T.getD k default=x at *;obtain⟨_,_,_,rfl⟩:=WW.shape sa;refine en ?_;refine VK ?_;intro p h1 e1 o1;refine go ?_;refine VG o1 e1 ?_;intro h2 e2 o2 _;have st2:=st.ext e2;have sa2:=sa.ext e2;by_cases h4:x.kind=4
  ·have hp:x.parts.length<=8/\∀ p∈x.parts,0<=p/\p<(k:Int):=by
    rcases hM with h|h|h|h|h
    ·omega
    ·omega
    ·omega
    ·exact⟨h.2.2.2.2.1,h.2.2.2.2.2⟩
    ·omega
   have hbd:∀ p∈x.parts,(W8 T p.toNat).length<=32:=fun p hpp=>by
    have:=hp.2 p hpp;exact(hlow p.toNat (by omega)).2
   simp only[h4,Q2];replace hM:=WA.mk hM;replace hlow:=WA.mk hlow;have hp8:=hp.1;replace hp:=WA.mk hp;replace hbd:=WA.mk hbd;refine go ?_;refine VD (fun i=>x.parts.length-i) (fun i t h3=>zB t 7=I i/\i<=x.parts.length/\Ext h2 h3/\∃ w,zB t 6=w/\U5 h2 h3 w (((x.parts.take i).map fun p=>W8 T p.toNat).flatten)) 0 ?_ ?_
   ·exact⟨U4,QL _,Ext.refl _,.slice none 0 0,U4,.inl ⟨rfl,by simp⟩⟩
   rintro i t h3 hsame ⟨s7,hi,e23,w,s6,ow⟩;have st3:=st2.ext e23;have sa3:=sa2.ext e23;have o3:=o2.ext e23;refine go ?_;refine VE (fun hc=> ?_) (fun hc=> ?_)<;>simp only[DB]at hc
   ·have hi':i<x.parts.length:=by omega
    have hpi:=hp.out.2 _ (zO hi');have hsucc:=zC8 (f:=fun p=>W8 T p.toNat) hi';have hln:=zBH (l:=x.parts.take i) (f:=fun p=>W8 T p.toNat) fun q hq=>hbd.out q (Qi hq);have hl1:=hbd.out _ (zO hi');have htk:(x.parts.take i).length<=i:=List.length_take_le _ _;have hcast:I (x.parts.getD i 0)=I ((x.parts.getD i 0).toNat:Int):=by rw[Int.toNat_of_nonneg hpi.1]
    obtain⟨q,hq⟩:∃ q:Nat,x.parts.getD i 0=q:=⟨(x.parts.getD i 0).toNat,by omega⟩;have hqk:q<k:=by omega
    refine go ?_;rw[hq];refine VA (ih q h3 (by omega) st3 (by omega) (fun j hj=>hlow.out j (by omega)) (hlow.out q hqk).1) ?_;rintro r h4 ⟨or,e4⟩;refine go ?_;have hdef:x.parts.getD i default=(q:Int):=hq;rw[hdef]at hsucc;simp only[QN]at hsucc;have hl2:(W8 T q).length<=32:=by rw[hq]at hl1;exact hl1
    refine VO (ow.ext e4) or.sl (e23.trans e4) (by omega) ?_;intro v5 h5 e5 o5;refine go ?_;exact zA (i+1) (by omega) ⟨Wd,by omega,e5,v5,U4,by rw[hsucc];exact o5⟩
   ·have hii:i=x.parts.length:=by omega
    subst hii;rw[Qg]at ow;refine gr ?_;exact⟨ow.since e2,e2.trans e23⟩
  by_cases h5:x.kind=5
  ·have hp:0<=x.elem/\x.elem<(k:Int)/\1<=x.many/\x.many<=16:=by omega
   obtain⟨q,hq⟩:∃ q:Nat,x.elem=q:=⟨x.elem.toNat,by omega⟩;obtain⟨m,hm⟩:∃ m:Nat,x.many=m:=⟨x.many.toNat,by omega⟩;have hqk:q<k:=by omega
   have hlq:=(hlow q hqk).2;simp only[h5,Q2,GX,show ¬((5:Int)=4) by decide,hq,hm,QN];replace hM:=WA.mk hM;replace hlow:=WA.mk hlow;have hm16:m<=16:=by omega
   refine go ?_;refine VD (fun i=>m-i) (fun i t h3=>zB t 9=I i/\i<=m/\Ext h2 h3/\∃ w,zB t 8=w/\U5 h2 h3 w (List.replicate i (W8 T q)).flatten) 0 ?_ ?_
   ·exact⟨U4,QL _,Ext.refl _,.slice none 0 0,U4,.inl ⟨rfl,by simp⟩⟩
   rintro i t h3 hsame ⟨s7,hi,e23,w,s6,ow⟩;have st3:=st2.ext e23;have o3:=o2.ext e23;refine go ?_;rw[hm];refine go ?_;refine VE (fun hc=> ?_) (fun hc=> ?_)<;>simp only[DB]at hc
   ·have hi':i<m:=by omega
    have hln:=zAt i (W8 T q);have hmul:i*(W8 T q).length<=16*32:=Nat.mul_le_mul (by omega) hlq;refine go ?_;rw[hq];refine VA (ih q h3 (by omega) st3 (by omega) (fun j hj=>hlow.out j (by omega)) (hlow.out q hqk).1) ?_;rintro r h4 ⟨or,e4⟩;refine go ?_;refine VO (ow.ext e4) or.sl (e23.trans e4) (by omega) ?_;intro v5 h5 e5 o5;refine go ?_;refine zA (i+1) (by omega) ⟨Wd,by omega,e5,v5,U4,?_⟩;rw[List.replicate_succ',List.flatten_append];simpa using o5
   ·have hii:i=m:=by omega
    subst hii;refine gr ?_;exact⟨ow.since e2,e2.trans e23⟩
  ·rw[QC h4,QC h5];refine go ?_;refine WO.bl [(k:Int)] ?_;intro v h3 e3 o3;refine gr ?_;exact⟨.inr (o3.since e2),e2.trans e3⟩
theorem zLM(h:Uy)(vt:Value)(T:List U0)(st:Wn h vt T)(hT:(T.length:Int)<=1000)(hpl:∀ x∈T,x.parts.length<=1000000):
  WC Tryz.prog tb 86 [vt] h fun r h'=>r=I (yR T)/\Ext h h':=by
 refine en ?_;rw[zAe];replace hpl:=WA.mk hpl;by_cases h16:16<(T.length:Int)
 ·refine gr ?_;rw[QF (by omega)];exact⟨rfl,Ext.refl _⟩
 rw[QC (by omega)];refine go ?_;refine VD (fun i=>T.length-i) (fun i t h1=>Ext h h1/\zB t 3=I i/\i<=T.length/\WA (zDc T i)) 0 ?_ ?_
 ·exact⟨Ext.refl _,U4,QL _,⟨fun j hj=>absurd hj (Ql _)⟩⟩
 rintro i t h1 hsame ⟨e1,s3,hi,hlow⟩;have st1:=st.ext e1;refine go ?_;refine VE (fun hc=> ?_) (fun hc=> ?_)<;>simp only[DB]at hc
 ·have hi':i<T.length:=by omega
  refine go ?_;refine VA (zHi h1 vt T i st1 hT hi' (by have:=hpl.out _ (zG (l:=T) hi');omega)) ?_;rintro _ h2 ⟨⟨b,rfl,hbb⟩,e2⟩;have st2:=st1.ext e2;have no:¬(ZI T i/\(W8 T i).length<=32)->¬zDc T T.length:=fun hn hl=>hn (hl i hi');cases b with
  |false=>
   have hf:¬zDc T T.length:=no fun hh=>absurd (hbb.2 hh.1) Bool.noConfusion;refine gr ?_;rw[QC hf];exact⟨rfl,e1.trans e2⟩
  |true=>
   have hM:=hbb.1 rfl;refine go ?_;refine VA (zPS vt T hT (i+1) i h2 (by omega) st2 hi' hlow.out hM) ?_;rintro r h3 ⟨or,e3⟩;have sr:=or.sl;have e03:=(e1.trans e2).trans e3;refine go ?_;refine VE (fun hd=> ?_) (fun hd=> ?_)<;>simp only[DB]at hd
   ·have hf:¬zDc T T.length:=no fun hh=>by have:=hh.2;omega
    refine gr ?_;rw[QC hf];exact⟨rfl,e03⟩
   ·refine go ?_;refine zA (i+1) (by omega) ⟨e03,Wd,by omega,⟨fun j hj=> ?_⟩⟩;by_cases e:j=i
    ·subst e;exact⟨hM,by omega⟩
    ·exact hlow.out j (by omega)
 ·have hii:i=T.length:=by omega
  subst hii;refine gr ?_;rw[QF hlow.out];exact⟨rfl,e1⟩
end Go.Proofs.YtfnndahpddkniaaGreatDoor
set_option maxRecDepth 100000
namespace Go.Proofs.YtfnndahpddkniaaGreatDoor
open Go.Am
theorem zJk(h:Uy)(op:Int):WC Tryz.prog tb 151 [.int .u8 op] h fun r h'=>(∃ b,r=.bool b/\(b=true↔zBe op))/\h=h':=by
 refine en ?_;repeat' (first|(refine VE (fun hb=> ?_) (fun hb=> ?_)<;>(try simp only[DB]at hb)<;>refine go ?_)|(refine VJ (fun hb=> ?_) (fun hb=> ?_)<;>(try simp only[DB]at hb)<;>refine go ?_))
 all_goals (refine rt ?_;exact⟨⟨_,rfl,by unfold zBe;simp only[W0];omega⟩,rfl⟩)
theorem zLo(h:Uy)(op:Int)(ho:0<=op):WC Tryz.prog tb 151 [.int .u8 op] h fun r h'=>r=.bool (zZ op).2.1/\h=h':=by
 refine(zJk h op).mono ?_;rintro _ _ ⟨⟨b,rfl,hb⟩,rfl⟩;exact⟨congrArg _ (by rw[GV,hb,(YQ ho).1]),rfl⟩
theorem zJb(h:Uy)(op:Int)(ho:0<=op):WC Tryz.prog tb 150 [.int .u8 op] h fun r h'=>r=.bool (zZ op).1/\h=h':=by
 refine WC.mono (Q:=fun r h'=>(∃ b,r=.bool b/\(b=true↔zBg op))/\h=h') ?_ ?_
 ·refine en ?_;refine VA (zJk h op) ?_;rintro _ _ ⟨⟨b,rfl,hb⟩,rfl⟩;cases b with
  |true=>
   have hT:=hb.1 rfl;refine gr ?_;exact⟨⟨_,rfl,⟨fun _=> .inl hT,fun _=>rfl⟩⟩,rfl⟩
  |false=>
   have hT:¬zBe op:=fun hh=>absurd (hb.2 hh) Bool.noConfusion;unfold zBg;refine go ?_;repeat' (first|(refine VE (fun hb=> ?_) (fun hb=> ?_)<;>(try simp only[DB]at hb)<;>refine go ?_)|(refine VJ (fun hb=> ?_) (fun hb=> ?_)<;>(try simp only[DB]at hb)<;>refine go ?_))
   all_goals (refine rt ?_;exact⟨⟨_,rfl,by simp only[W0,hT,false_or];omega⟩,rfl⟩)
 ·rintro _ _ ⟨⟨b,rfl,hb⟩,rfl⟩;exact⟨congrArg _ (by rw[GV,hb,(YQ ho).2.1]),rfl⟩
theorem zJn(h:Uy)(op:Int)(ho:0<=op):WC Tryz.prog tb 152 [.int .u8 op] h fun r h'=>r=.bool (zZ op).2.2.2.1/\h=h':=by
 refine WC.mono (Q:=fun r h'=>(∃ b,r=.bool b/\(b=true↔zBm op))/\h=h') ?_ ?_
 ·refine en ?_;repeat' (first|(refine VE (fun hb=> ?_) (fun hb=> ?_)<;>(try simp only[DB]at hb)<;>refine go ?_)|(refine VJ (fun hb=> ?_) (fun hb=> ?_)<;>(try simp only[DB]at hb)<;>refine go ?_))
  all_goals (refine rt ?_;exact⟨⟨_,rfl,by unfold zBm;simp only[W0];omega⟩,rfl⟩)
 ·rintro _ _ ⟨⟨b,rfl,hb⟩,rfl⟩;exact⟨congrArg _ (by rw[GV,hb,(YQ ho).2.2.1]),rfl⟩
theorem zAT(h:Uy)(op:Int)(ho:0<=op):WC Tryz.prog tb 153 [.int .u8 op] h fun r h'=>r=.bool (zZ op).2.2.2.2.2/\h=h':=by
 refine WC.mono (Q:=fun r h'=>(∃ b,r=.bool b/\(b=true↔zMn op))/\h=h') ?_ ?_
 ·refine en ?_;repeat' (first|(refine VE (fun hb=> ?_) (fun hb=> ?_)<;>(try simp only[DB]at hb)<;>refine go ?_)|(refine VJ (fun hb=> ?_) (fun hb=> ?_)<;>(try simp only[DB]at hb)<;>refine go ?_))
  all_goals (refine rt ?_;exact⟨⟨_,rfl,by unfold zMn;simp only[W0];omega⟩,rfl⟩)
 ·rintro _ _ ⟨⟨b,rfl,hb⟩,rfl⟩;exact⟨congrArg _ (by rw[GV,hb,(YQ ho).2.2.2.1]),rfl⟩
theorem yW{h:Uy}{va:Value}{l:List Int}(s:WH h va l):∃ a n k,va=.slice a n k:=WW.shape s
theorem zDy(h:Uy)(x:WU)(cs:List Value)(hcs:Wq h cs x)(hx:x.args.length<=20):
  WC Tryz.prog tb 115 [.agg cs.toArray] h fun r h'=>U5 h h' r (yL x)/\Ext h h':=by
 obtain⟨va,vfr,rfl,sa,sfr,hla,hlf,ho,ho2⟩:=hcs;obtain⟨aa,an,ak,rfl⟩:=yW sa;obtain⟨fa,fn,fk,rfl⟩:=yW sfr;refine en ?_;refine VF ?_;intro p h1 e1 o1;have sa1:=sa.ext e1;refine go ?_;refine VA (zJb h1 x.op ho) ?_;rintro _ _ ⟨rfl,rfl⟩;unfold yL;refine go ?_;refine VL (fun t h'=>Ext h1 h'/\∃ w,zB t 3=w/\U5 h1 h' w (if(zZ x.op).1 then[x.a]else[])) ?_ ?_
 ·cases hA:(zZ x.op).1 with
  |true=>
   refine go ?_;refine WO.bl [x.a] ?_;intro v h2 e2 o2;refine go ?_;refine VO (v:= .slice none 0 0) (xs:=[]) (h0:=h1) (.inl ⟨rfl,rfl⟩) o2.sl e2 (by simp) ?_;intro v3 h3 e3 o3;refine go ?_;exact zF ⟨e3,v3,U4,o3⟩
  |false=>
   refine go ?_;exact zF ⟨Ext.refl _,_,U4,.inl ⟨rfl,rfl⟩⟩
 rintro t2 h2 hs2 ⟨e2,w2,q2,ow2⟩;have o2:=o1.ext e2;have l2:(if(zZ x.op).1 then[x.a]else[]).length<=1:=by split<;>simp
 generalize(if(zZ x.op).1 then[x.a]else[])=lA at *;refine go ?_;refine VA (zLo h2 x.op ho) ?_;rintro _ _ ⟨rfl,rfl⟩;refine go ?_;refine VL (fun t h'=>Ext h1 h'/\∃ w,zB t 3=w/\U5 h1 h' w (lA++if(zZ x.op).2.1 then[x.b]else[])) ?_ ?_
 ·cases hB:(zZ x.op).2.1 with
  |true=>
   refine go ?_;refine WO.bl [x.b] ?_;intro v h3 e3 o3;refine go ?_;refine VO (ow2.ext e3) o3.sl (e2.trans e3) (by simp only[QX];omega) ?_;intro v4 h4 e4 o4;refine go ?_;exact zF ⟨e4,v4,U4,o4⟩
  |false=>
   refine go ?_;exact zF ⟨e2,_,U4,by simpa using ow2⟩
 rintro t3 h3 hs3 ⟨e3,w3,q3,ow3⟩;have o3:=o1.ext e3;have sa3:=sa1.ext e3;have l3:(lA++if(zZ x.op).2.1 then[x.b]else[]).length<=2:=by split<;>simp<;>omega
 rw[<-Qm];generalize(lA++if(zZ x.op).2.1 then[x.b]else[])=lB at *;refine go ?_;refine VA (zJn h3 x.op ho) ?_;rintro _ _ ⟨rfl,rfl⟩;refine go ?_;cases hG:(zZ x.op).2.2.2.1 with
 |true=>
  refine go ?_;refine VO ow3 sa3 e3 (by omega) ?_;intro v4 h4 e4 o4;refine gr ?_;exact⟨o4.since e1,e1.trans e4⟩
 |false=>
  refine gr ?_;exact⟨(by simpa using ow3.since e1:U5 h h3 w3 _),e1.trans e3⟩
theorem Yf(h:Uy)(v:Value)(l:List Int)(m:Int)(s:WH h v l)(hl:(l.length:Int)<=1000000):
  WC Tryz.prog tb 148 [v,I m] h fun r h'=>(∃ b,r=.bool b/\(b=true↔BM l m))/\h=h':=by
 refine en ?_;refine VD (fun i=>l.length-i) (fun i t h1=>h=h1/\zB t 5=I i/\i<=l.length/\∀ j,j<i->0<=l.getD j 0/\l.getD j 0<m) 0 ?_ ?_
 ·exact⟨rfl,U4,QL _,fun j hj=>absurd hj (Ql _)⟩
 rintro i t _ hsame ⟨rfl,s5,hi,hm⟩;refine go ?_;refine VE (fun hb=> ?_) (fun hb=> ?_)<;>simp only[DB]at hb
 ·have hi':i<l.length:=by omega
  by_cases hok:0<=l.getD i 0/\l.getD i 0<m
  ·refine go ?_;refine zA (i+1) (by omega) ⟨rfl,Wd,by omega,fun j hj=> ?_⟩;by_cases e:j=i
   ·subst e;exact hok
   ·exact hm j (by omega)
  ·have hno:¬BM l m:=fun hh=>hok (hh _ (zO hi'));by_cases h0:l.getD i 0<0
   ·refine gr ?_;exact⟨⟨_,rfl,by simp only[W0];exact hno⟩,rfl⟩
   ·refine gr ?_;exact⟨⟨_,rfl,by simp only[W0];exact hno⟩,rfl⟩
 ·refine gr ?_;refine⟨⟨_,rfl,?_⟩,rfl⟩;simp only[W0];intro p hp;obtain⟨j,hj,rfl⟩:=Zg hp;exact hm j (by omega)
theorem zLu(h:Uy)(vt vf:Value)(T:List U0)(F:List WJ)(x:WU)(cs:List Value)(st:Wn h vt T)(sf:Wa h vf F)(hF:F.length<=1000)(hcs:Wq h cs x):
  WC Tryz.prog tb 149 [.agg #[vt,vf],.agg cs.toArray] h fun r h'=>(∃ b,r=.bool b/\(b=true↔zIF x F.length))/\Ext h h':=by
 obtain⟨va,vfr,rfl,sa,sfr,hla,hlf,ho,ho2⟩:=hcs;obtain⟨aa,an,ak,rfl⟩:=yW sa;obtain⟨fa,fn,fk,rfl⟩:=yW sfr;obtain⟨ta,tn,tk,rfl⟩:=zD st;obtain⟨ga,gn,gk,rfl⟩:=zD sf;refine en ?_;refine VF ?_;intro p h1 e1 o1;refine go ?_;refine VF ?_;intro q h2 e2 o2;have o1:=o1.ext e2;have e12:=e1.trans e2;have sf2:=Wa.ext sf e12;unfold zIF;by_cases k1:x.op=1
 ·rw[QF k1];refine gr ?_;exact⟨⟨_,rfl,by simp⟩,e12⟩
 rw[QC k1];by_cases k3:x.op=3
 ·rw[QF (.inl k3)];skip;refine go ?_;repeat' (first|(refine VE (fun hb=> ?_) (fun hb=> ?_)<;>(try simp only[DB]at hb)<;>refine go ?_)|(refine VJ (fun hb=> ?_) (fun hb=> ?_)<;>(try simp only[DB]at hb)<;>refine go ?_))
  all_goals (refine rt ?_;exact⟨⟨_,rfl,by simp only[W0];omega⟩,e12⟩)
 by_cases k18:x.op=18
 ·rw[QF (.inr k18)];skip;refine go ?_;repeat' (first|(refine VE (fun hb=> ?_) (fun hb=> ?_)<;>(try simp only[DB]at hb)<;>refine go ?_)|(refine VJ (fun hb=> ?_) (fun hb=> ?_)<;>(try simp only[DB]at hb)<;>refine go ?_))
  all_goals (refine rt ?_;exact⟨⟨_,rfl,by simp only[W0];omega⟩,e12⟩)
 rw[QC (by omega)];by_cases k14:x.op=14
 ·rw[QF k14];skip;refine go ?_;repeat' (first|(refine VE (fun hb=> ?_) (fun hb=> ?_)<;>(try simp only[DB]at hb)<;>refine go ?_)|(refine VJ (fun hb=> ?_) (fun hb=> ?_)<;>(try simp only[DB]at hb)<;>refine go ?_))
  all_goals (refine rt ?_;exact⟨⟨_,rfl,by simp only[W0];omega⟩,e12⟩)
 rw[QC k14];refine gr ?_;exact⟨⟨_,rfl,by simp only[W0]⟩,e12⟩
theorem zIV(h:Uy)(vt vf:Value)(T:List U0)(F:List WJ)(x:WU)(cs:List Value)(regs many:Int)(st:Wn h vt T)(sf:Wa h vf F)(hT:T.length<=1000)(hF:F.length<=1000)(hcs:Wq h cs x)(hx:x.args.length<=20/\x.frm.length<=20):
  WC Tryz.prog tb 111 [.agg #[vt,vf],.agg cs.toArray,I regs,I many] h fun r h'=>r=.bool (Bj x ⟨T.length,F.length,regs,many⟩)/\Ext h h':=by
 obtain⟨va,vfr,rfl,sa,sfr,hla,hlf,ho,ho2⟩:=id hcs;obtain⟨aa,an,ak,rfl⟩:=yW sa;obtain⟨fa,fn,fk,rfl⟩:=yW sfr;obtain⟨ta,tn,tk,rfl⟩:=zD st;obtain⟨ga,gn,gk,rfl⟩:=zD sf;refine WC.mono (Q:=fun r h'=>(∃ b,r=.bool b/\(b=true↔MayI x ⟨T.length,F.length,regs,many⟩))/\Ext h h') ?_ ?_;case refine_2=>
  rintro _ _ ⟨⟨b,rfl,hb⟩,e⟩;exact⟨congrArg _ (by rw[GV,hb,zA2 ho]),e⟩
 have hu:(yL x).length<=22:=by unfold yL;split<;>split<;>split<;>simp<;>omega
 refine en ?_;refine VF ?_;intro p h1 e1 o1;refine go ?_;refine VF ?_;intro q h2 e2 o2;have o1:=o1.ext e2;have e12:=e1.trans e2;by_cases k1:1<=x.op;case neg=>
  refine gr ?_;exact⟨⟨_,rfl,by simp only[W0];exact fun m=>k1 m.op.1⟩,e12⟩
 by_cases k22:x.op<=22;case neg=>
  refine gr ?_;exact⟨⟨_,rfl,by simp only[W0];exact fun m=>k22 m.op.2⟩,e12⟩
 refine go ?_;refine VA (zDy h2 x _ (hcs.ext e12) hx.1) ?_;rintro u h3 ⟨ou,e3⟩;have o1:=o1.ext e3;have o2:=o2.ext e3;have e13:=e12.trans e3;refine go ?_;refine VA (Yf h3 u _ regs ou.sl (by omega)) ?_;rintro _ _ ⟨⟨b1,rfl,hb1⟩,rfl⟩;cases b1 with
 |false=>
  refine gr ?_;exact⟨⟨_,rfl,by simp only[W0];exact fun m=>absurd (hb1.2 m.uses) Bool.noConfusion⟩,e13⟩
 |true=>
 have U:=WA.mk (hb1.1 rfl);clear hb1;refine go ?_;refine VA (zLu h3 _ _ T F x _ (st.ext e13) (Wa.ext sf e13) hF (hcs.ext e13)) ?_;rintro _ h4 ⟨⟨b2,rfl,hb2⟩,e4⟩;have o1:=o1.ext e4;have o2:=o2.ext e4;have e14:=e13.trans e4;have sa4:=sa.ext e14;have sfr4:=sfr.ext e14;have st4:=st.ext e14;cases b2 with
 |false=>
  refine gr ?_;exact⟨⟨_,rfl,by simp only[W0];exact fun m=>absurd (hb2.2 m.num) Bool.noConfusion⟩,e14⟩
 |true=>
 have V:=WA.mk (hb2.1 rfl);clear hb2 e1 e2 e12 e3 e13 e4 ou;refine go ?_;refine VA (zJb h4 x.op ho) ?_;rintro _ _ ⟨rfl,rfl⟩;refine VR 29 (fun t' h'=>h4=h'/\∃ b,zB t' 61=.bool b/\(b=false↔((zZ x.op).1=true\/x.a=0)/\((zZ x.op).2.1=true\/x.b=0)/\((zZ x.op).2.2.2.1=true\/(x.args.length:Int)<=0))) ?_ ?_<;>simp only[Qp,Q4,Q9,Q5]
 ·refine VR 6 (fun t' h'=>h4=h'/\∃ b,zB t' 38=.bool b/\(b=false↔((zZ x.op).1=true\/x.a=0))) ?_ ?_<;>simp only[Qp,Q4,Q9,Q5]
  ·cases hA:(zZ x.op).1 with
   |true=>
    refine go ?_;exact⟨rfl,rfl,rfl,_,U4,by simp⟩
   |false=>
    refine go ?_;exact⟨rfl,rfl,rfl,_,U4,by simp⟩
  rintro t5 _ hs5 ⟨rfl,b5,q38,hb5⟩;refine VR 11 (fun t' h'=>h4=h'/\∃ b,zB t' 49=.bool b/\(b=false↔((zZ x.op).1=true\/x.a=0)/\((zZ x.op).2.1=true\/x.b=0))) ?_ ?_<;>simp only[Qp,Q4,Q9,Q5]
  ·cases b5 with
   |true=>
    refine go ?_;exact⟨rfl,rfl,rfl,_,U4,by rw[<-hb5];simp⟩
   |false=>
    refine go ?_;refine VA (zLo h4 x.op ho) ?_;rintro _ _ ⟨rfl,rfl⟩;have h5:=hb5.1 rfl;cases hB:(zZ x.op).2.1 with
    |true=>
     refine go ?_;exact⟨rfl,rfl,rfl,_,U4,by simp[h5]⟩
    |false=>
     refine go ?_;exact⟨rfl,rfl,rfl,_,U4,by simp[h5]⟩
  rintro t6 _ hs6 ⟨rfl,b6,q49,hb6⟩;rw[<-and_assoc,<-hb6];cases b6 with
  |true=>
   refine go ?_;exact⟨rfl,rfl,rfl,_,U4,by simp⟩
  |false=>
   refine go ?_;refine VA (zJn h4 x.op ho) ?_;rintro _ _ ⟨rfl,rfl⟩;cases hG:(zZ x.op).2.2.2.1 with
   |true=>
    refine go ?_;exact⟨rfl,rfl,rfl,_,U4,by simp⟩
   |false=>
    refine go ?_;exact⟨rfl,rfl,rfl,_,U4,by simp only[W0,true_and,QY,false_or];omega⟩
 rintro t5 _ hs5 ⟨rfl,b5,q61,hb5⟩;cases b5 with
 |true=>
  refine gr ?_;refine⟨⟨_,rfl,?_⟩,e14⟩;simp only[W0];exact fun m=>absurd (hb5.2 ⟨m.a,m.b,m.g⟩) Bool.noConfusion
 |false=>
 have W:=WA.mk (hb5.1 rfl);clear hb5;refine go ?_;refine VA (zAT h4 x.op ho) ?_;rintro _ _ ⟨rfl,rfl⟩;refine VR 24 (fun t' h'=>h4=h'/\∃ b,zB t' 88=.bool b/\(b=false↔if(zZ x.op).2.2.2.2.2 then 0<=x.ty/\x.ty<(T.length:Int)else x.ty=0)) ?_ ?_<;>simp only[Qp,Q4,Q9,Q5]
 ·cases hS:(zZ x.op).2.2.2.2.2 with
  |true=>
   simp only[Q2];by_cases c1:x.ty<0
   ·refine go ?_;exact⟨rfl,rfl,rfl,_,U4,by simp only[W0];omega⟩
   by_cases c2:(T.length:Int)<=x.ty
   ·refine go ?_;exact⟨rfl,rfl,rfl,_,U4,by simp only[W0];omega⟩
   ·refine go ?_;refine VA (zAT h4 x.op ho) ?_;rintro _ _ ⟨rfl,rfl⟩;refine go ?_;exact⟨rfl,rfl,rfl,_,U4,by simp only[W0];omega⟩
  |false=>
   simp only[QY,GX];refine go ?_;refine VA (zAT h4 x.op ho) ?_;rintro _ _ ⟨rfl,rfl⟩;refine go ?_;exact⟨rfl,rfl,rfl,_,U4,by simp⟩
 rintro t6 _ hs6 ⟨rfl,b6,q88,hb6⟩;cases b6 with
 |true=>
  refine gr ?_;refine⟨⟨_,rfl,?_⟩,e14⟩;simp only[W0];exact fun m=>absurd (hb6.2 m.ans) Bool.noConfusion
 |false=>
 have X:=WA.mk (hb6.1 rfl);clear hb6;have hf:=(YQ ho).2.2.2.2.1;have mk:∀ q:Bool,(q=true↔if(zZ x.op).2.2.2.2.1 then(x.frm.length:Int)=x.args.length/\1<=(x.frm.length:Int)/\(x.frm.length:Int)<=16/\BM x.frm many else(x.frm.length:Int)=0/\(x.args.length:Int)<=4)->(q=true↔MayI x ⟨T.length,F.length,regs,many⟩):=fun q hq=>by
  rw[hq];exact⟨fun h=>⟨⟨k1,k22⟩,U.out,V.out,W.out.1,W.out.2.1,W.out.2.2,X.out,h⟩,fun m=>m.frm⟩
 replace mk:=WA.mk mk;by_cases k:x.op=22
 ·rw[hf.2 k]at mk;simp only[Q2]at mk;by_cases c1:(x.frm.length:Int)=x.args.length;case neg=>
   refine gr ?_;exact⟨⟨_,rfl,mk.out _ (by simp only[W0];exact fun h=>c1 h.1)⟩,e14⟩
  by_cases c2:1<=(x.frm.length:Int);case neg=>
   refine gr ?_;exact⟨⟨_,rfl,mk.out _ (by simp only[W0];exact fun h=>c2 h.2.1)⟩,e14⟩
  by_cases c3:(x.frm.length:Int)<=16;case neg=>
   refine gr ?_;exact⟨⟨_,rfl,mk.out _ (by simp only[W0];exact fun h=>c3 h.2.2.1)⟩,e14⟩
  refine go ?_;refine VA (Yf h4 _ x.frm many sfr4 (by omega)) ?_;rintro _ _ ⟨⟨b,rfl,hb⟩,rfl⟩;refine gr ?_;exact⟨⟨_,rfl,mk.out _ (by rw[hb];exact⟨fun h=>⟨c1,c2,c3,h⟩,fun h=>h.2.2.2⟩)⟩,e14⟩
 ·have hf0:(zZ x.op).2.2.2.2.1=false:=by cases hh:(zZ x.op).2.2.2.2.1 with
   |false=>rfl
   |true=>exact absurd (hf.1 hh) k
  rw[hf0]at mk;simp only[QY,GX]at mk;by_cases c1:(x.frm.length:Int)=0;case neg=>
   refine gr ?_;exact⟨⟨_,rfl,mk.out _ (by simp only[W0];exact fun h=>c1 h.1)⟩,e14⟩
  refine gr ?_;exact⟨⟨_,rfl,mk.out _ (by simp only[W0];omega)⟩,e14⟩
theorem zId(h:Uy)(x:BP)(T F regs many:Int):
  WC Tryz.prog tb 112 [.agg #[.int .u8 x.kind,I x.a,I x.to,I x.els],I regs,I many] h fun r h'=>r=.bool (Bl x ⟨T,F,regs,many⟩)/\Ext h h':=by
 refine WC.mono (Q:=fun r h'=>(∃ b,r=.bool b/\(b=true↔(x.kind=1/\x.a=0/\x.els=0/\BM [x.to] many)\/(x.kind=2/\BM [x.a] regs/\BM [x.to,x.els] many)\/(x.kind=3/\x.to=0/\x.els=0/\BM [x.a] regs)))/\Ext h h') ?_ ?_;case refine_2=>
  rintro _ _ ⟨⟨b,rfl,hb⟩,e⟩;exact⟨congrArg _ (by rw[GV,hb,zHY]),e⟩
 refine en ?_;refine VF ?_;intro p h1 e1 o1;by_cases k1:x.kind=1
 ·by_cases c1:x.a=0;case neg=>
   refine gr ?_;exact⟨⟨_,rfl,by simp only[W0];omega⟩,e1⟩
  by_cases c2:x.els=0;case neg=>
   refine gr ?_;exact⟨⟨_,rfl,by simp only[W0];omega⟩,e1⟩
  refine go ?_;refine WO.bl [x.to] ?_;intro v h2 e2 o2;refine go ?_;refine VA (Yf h2 v _ many o2.sl (by simp)) ?_;rintro _ _ ⟨⟨b,rfl,hb⟩,rfl⟩;refine gr ?_;refine⟨⟨_,rfl,?_⟩,e1.trans e2⟩;rw[hb];simp[k1,c1,c2]
 by_cases k2:x.kind=2
 ·refine go ?_;refine WO.bl [x.a] ?_;intro v h2 e2 o2;have o1:=o1.ext e2;refine go ?_;refine VA (Yf h2 v _ regs o2.sl (by simp)) ?_;rintro _ _ ⟨⟨b,rfl,hb⟩,rfl⟩;cases b with
  |false=>
   have hn:¬BM [x.a] regs:=fun hh=>absurd (hb.2 hh) Bool.noConfusion;refine gr ?_;refine⟨⟨_,rfl,?_⟩,e1.trans e2⟩;simp[k2,hn]
  |true=>
   have hn:=hb.1 rfl;refine go ?_;refine WO.bl [x.to,x.els] ?_;intro v h3 e3 o3;refine go ?_;refine VA (Yf h3 v _ many o3.sl (by simp)) ?_;rintro _ _ ⟨⟨b,rfl,hb⟩,rfl⟩;refine gr ?_;refine⟨⟨_,rfl,?_⟩,(e1.trans e2).trans e3⟩;rw[hb];simp[k2,hn]
 by_cases k3:x.kind=3
 ·by_cases c1:x.to=0;case neg=>
   refine gr ?_;exact⟨⟨_,rfl,by simp only[W0];omega⟩,e1⟩
  by_cases c2:x.els=0;case neg=>
   refine gr ?_;exact⟨⟨_,rfl,by simp only[W0];omega⟩,e1⟩
  refine go ?_;refine WO.bl [x.a] ?_;intro v h2 e2 o2;refine go ?_;refine VA (Yf h2 v _ regs o2.sl (by simp)) ?_;rintro _ _ ⟨⟨b,rfl,hb⟩,rfl⟩;refine gr ?_;refine⟨⟨_,rfl,?_⟩,e1.trans e2⟩;rw[hb];simp[k3,c1,c2]
 ·refine gr ?_;exact⟨⟨_,rfl,by simp only[W0];omega⟩,e1⟩
end Go.Proofs.YtfnndahpddkniaaGreatDoor
set_option maxRecDepth 100000
namespace Go.Proofs.YtfnndahpddkniaaGreatDoor
open Go.Am
theorem _root_.Go.Am.Ext.reg{h h':Uy}(e:Ext (inC (zC 0 h)) h'):Ext h (outC h (inC h')):=by
 have x:Ext h (outC h h'):=Ext.outC e;exact x
theorem zBu(h:Uy)(vt vf vb:Value)(T:List U0)(F:List WJ)(sig:Int)(st:Wn h vt T)(sf:Wa h vf F)(hb:∃ a n k,vb=.slice a n k)(hs:0<=sig/\sig<(T.length:Int))(hp:(T.getD sig.toNat default).parts.length<=1000):
  WC Tryz.prog tb 72 [.agg #[vt,vf],.agg #[I sig,vb]] h fun r h'=>r=I ((T.getD sig.toNat default).parts.length:Int)/\Ext h h':=by
 obtain⟨ta,tn,tk,rfl⟩:=zD st;obtain⟨ga,gn,gk,rfl⟩:=zD sf;obtain⟨ba,bn,bk,rfl⟩:=hb;refine en ?_;refine VF ?_;intro p h1 e1 o1;refine go ?_;refine VF ?_;intro q h2 e2 o2;have o1:=o1.ext e2;have st2:=(st.ext e1).ext e2;obtain⟨cs,⟨va,rfl,sa,hla⟩,pc,hss⟩:=yO (i:=sig.toNat) st2 (by omega);refine gr ?_;exact⟨rfl,e1.trans e2⟩
theorem zEg(l:List WK){i:Nat}(h:i<l.length):zN (l.take (i+1))=zN (l.take i)+((l.getD i default).ins.length:Int):=by
 unfold zN;rw[Qv,QB h];simp only[GD,Gu,Option.toList_some,Q1,Ge,JH,List.sum_nil,List.getD,QB h,GA,Int.add_zero]
theorem zCf{l:List WK}(h:∀ b∈l,b.ins.length<=1000):0<=zN l/\zN l<=1000*l.length:=by
 unfold zN;induction l with
 |nil=>simp
 |cons b l ih=>
  have h1:=h b (by simp);have:=ih fun x hx=>h x (by simp[hx]);simp only[Q1,JH,GB];omega
theorem zCg(h:Uy)(v:Value)(l:List WK)(s:We h v l)(hl:l.length<=1000)(hi:∀ b∈l,b.ins.length<=1000):
  WC Tryz.prog tb 73 [v] h fun r h'=>r=I (zN l)/\h=h':=by
 refine en ?_;refine VD (fun i=>l.length-i) (fun i t h1=>h=h1/\zB t 4=I i/\i<=l.length/\zB t 3=I (zN (l.take i))) 0 ?_ ?_
 ·exact⟨rfl,U4,QL _,U4⟩
 rintro i t _ hsame ⟨rfl,s4,hin,s3⟩;have hbd:=zCf (l:=l.take i) fun b hb=>hi b (Qi hb);have htl:(l.take i).length<=i:=List.length_take_le _ _;refine go ?_;refine VE (fun hc=> ?_) (fun hc=> ?_)<;>simp only[DB]at hc
 ·have hi':i<l.length:=by omega
  obtain⟨cs,⟨vi,rfl,si,hli⟩,pc,hs⟩:=zi s hi';have hmt:=zEg l hi';have hin2:=hi _ (zG (l:=l) hi');refine go ?_;exact zA (i+1) (by omega) ⟨rfl,Wd,by omega,by rw[hmt];exact U4⟩
 ·have hii:i=l.length:=by omega
  subst hii;rw[Qg]at s3;refine gr ?_;exact⟨rfl,rfl⟩
theorem zG6(h:Uy)(vt vf:Value)(T:List U0)(F:List WJ)(f:WJ)(cs:List Value)(sm:Wv T F)(si:zEz F)(hf:f∈F)(hm:h.mark<=h.n)(st:Wn h vt T)(sf:Wa h vf F)(hcs:RFn h cs f):
  WC Tryz.prog tb 87 [.agg #[vt,vf],.agg cs.toArray] h fun r h'=>r=.bool (BF T F.length f)/\Ext h h':=by
 obtain⟨vb,rfl,sb,hlb⟩:=hcs;obtain⟨ta,tn,tk,rfl⟩:=zD st;obtain⟨ga,gn,gk,rfl⟩:=zD sf;obtain⟨ba,bn,bk,rfl⟩:=zD sb;have hT:=sm.types;have hF:=sm.funcs;have hB:=sm.blocks f hf;have hI:=sm.ins f hf;have hX:=si f hf;have hmany:=zCf hI;refine en ?_;refine VF ?_;intro p h1 e1 o1;refine go ?_;refine VF ?_;intro q h2 e2 o2;have o1:=o1.ext e2;have e12:=e1.trans e2;have st2:=st.ext e12;have sf2:=Wa.ext sf e12;have sb2:=We.ext sb e12;have hm2:=zp e12 hm;have bad:Bp T f=true->BF T F.length f=false:=fun h=>by unfold BF;rw[QF h]
 have badI:Bp T f=true↔¬((0<=f.sig/\f.sig<(T.length:Int))/\(T.getD f.sig.toNat default).kind=3/\(1<=(f.blocks.length:Int)/\(f.blocks.length:Int)<=16)/\zN f.blocks<=128):=by
  unfold Bp zY;simp only[GE,Gk,Bool.and_eq_false_iff,Gf,Qc];omega
 by_cases c1:0<=f.sig;case neg=>
  refine gr ?_;exact⟨by rw[bad (badI.2 fun h=>c1 h.1.1)];rfl,e12⟩
 by_cases c2:f.sig<(T.length:Int);case neg=>
  refine gr ?_;exact⟨by rw[bad (badI.2 fun h=>c2 h.1.2)];rfl,e12⟩
 have hpart:=sm.parts _ (zG (l:=T) (i:=f.sig.toNat) (by omega));obtain⟨csT,⟨vp,rfl,sp,hlp⟩,pcT,hsT⟩:=yO (i:=f.sig.toNat) st2 (by omega);by_cases c3:(T.getD f.sig.toNat default).kind=3;case neg=>
  refine gr ?_;exact⟨by rw[bad (badI.2 fun h=>c3 h.2.1)];simp[one,c3],e12⟩
 by_cases c4:1<=(f.blocks.length:Int);case neg=>
  refine gr ?_;exact⟨by rw[bad (badI.2 fun h=>c4 h.2.2.1.1)];rfl,e12⟩
 by_cases c5:(f.blocks.length:Int)<=16;case neg=>
  refine gr ?_;exact⟨by rw[bad (badI.2 fun h=>c5 h.2.2.1.2)];rfl,e12⟩
 refine go ?_;refine VA (zCg h2 _ f.blocks sb2 hB hI) ?_;rintro _ _ ⟨rfl,rfl⟩;by_cases c6:zN f.blocks<=128;case neg=>
  refine gr ?_;exact⟨by rw[bad (badI.2 fun h=>c6 h.2.2.2)];rfl,e12⟩
 have hbadF:Bp T f=false:=by
  cases hh:Bp T f with
  |false=>rfl
  |true=>exact absurd ⟨⟨c1,c2⟩,c3,⟨c4,c5⟩,c6⟩ (badI.1 hh)
 have hfn:BF T F.length f= !(f.blocks.any fun b=>YY b (Bd T F.length f)):=by unfold BF;rw[hbadF];rfl
 rw[hfn];clear bad badI hbadF hfn;refine go ?_;refine VC 0 rfl rfl ?_;have o1X:Uz h (inC (zC 0 h2)) p [_,_]:=o1;have o2X:Uz h1 (inC (zC 0 h2)) q [_,_]:=o2;have stX:Wn (inC (zC 0 h2)) _ T:=st2;have sfX:Wa (inC (zC 0 h2)) _ F:=sf2;have sbX:We (inC (zC 0 h2)) _ f.blocks:=sb2;refine WB ?_;refine VA (zBu (inC (zC 0 h2)) _ _ _ T F f.sig stX sfX ⟨_,_,_,rfl⟩ ⟨c1,c2⟩ (by omega)) ?_;rintro _ h3 ⟨rfl,e3⟩;refine nE e3 ?_;have o2Y:Uz h1 (inC h3) q [I f.sig,.slice ba bn bk]:=by have:=o2X.ext e3;exact this
 have sbY:We (inC h3) (.slice ba bn bk) f.blocks:=by have:=We.ext sbX e3;exact this
 refine WB ?_;refine zCJ o2 (QE _) ?_;refine WB ?_;refine VA (zCg (inC h3) _ f.blocks sbY hB hI) ?_;rintro _ _ ⟨rfl,rfl⟩;refine nQ ?_;refine WB ?_;have e5:Ext h2 (outC h2 (inC h3)):=e3.reg;obtain⟨h5,hh5⟩:∃ h5,h5=outC h2 (inC h3):=⟨_,rfl⟩;rw[<-hh5]at e5;rw[<-hh5];clear o1X o2X stX sfX sbX o2Y sbY e3 hh5;have o1:=o1.ext e5;have o2:=o2.ext e5;have e15:=e12.trans e5;have st5:=st2.ext e5;have sf5:=Wa.ext sf2 e5;have sb5:=We.ext sb2 e5;have hsz:Bd T F.length f=⟨T.length,F.length,((T.getD f.sig.toNat default).parts.length:Int)+zN f.blocks,f.blocks.length⟩:=rfl;rw[hsz];clear hsz pcT sp e12 e1 e2;generalize((T.getD f.sig.toNat default).parts.length:Int)+zN f.blocks=regs at *;obtain⟨s,hs⟩:∃ s:Bb,s=⟨T.length,F.length,regs,f.blocks.length⟩:=⟨_,rfl⟩;rw[<-hs];refine go ?_;refine VD (fun i=>f.blocks.length-i) (fun i t h6=>Ext h5 h6/\zB t 6=I i/\i<=f.blocks.length/\WA (∀ j,j<i->YY (f.blocks.getD j default) s=false)) 0 ?_ ?_
 ·exact⟨Ext.refl _,U4,QL _,⟨fun j hj=>absurd hj (Ql _)⟩⟩
 rintro i t h6 hsame ⟨e6,s6,hi,hall⟩;have o1:=o1.ext e6;have o2:=o2.ext e6;have e16:=e15.trans e6;have st6:=st5.ext e6;have sf6:=Wa.ext sf5 e6;have sb6:=We.ext sb5 e6;refine go ?_;refine VE (fun hc=> ?_) (fun hc=> ?_)<;>simp only[DB]at hc;case refine_2=>
  have hany:(f.blocks.any fun b=>YY b s)=false:=YK fun b hb=>by
   obtain⟨j,hj,rfl⟩:=ZY hb;exact hall.out j (by omega)
  refine gr ?_;exact⟨by rw[hany];rfl,e16⟩
 have hi':i<f.blocks.length:=by omega
 obtain⟨csB,⟨vi,rfl,sn,hln⟩,pcB,hsB⟩:=zi sb6 hi';have hmemB:=zG (l:=f.blocks) hi';have hIB:=hI _ hmemB;have hXB:=hX _ hmemB;have bad:YY (f.blocks.getD i default) s=true->(!f.blocks.any fun b=>YY b s)=false:=fun hb=>by
  rw[Gx.2 ⟨_,hmemB,hb⟩];rfl
 generalize hB0:f.blocks.getD i default=B at *;refine go ?_;refine VD (fun k=>B.ins.length-k) (fun k t h7=>Ext h6 h7/\zB t 7=I k/\k<=B.ins.length/\WA (∀ j,j<k->Bj (B.ins.getD j default) s=true)) 0 ?_ ?_
 ·exact⟨Ext.refl _,U4,QL _,⟨fun j hj=>absurd hj (Ql _)⟩⟩
 rintro k t2 h7 hsame2 ⟨e7,s7,hk,hallk⟩;have o1:=o1.ext e7;have o2:=o2.ext e7;have e17:=e16.trans e7;have st7:=st6.ext e7;have sf7:=Wa.ext sf6 e7;have sb7:=We.ext sb6 e7;obtain⟨csB,hcsB,pcB,hsB⟩:=zi sb7 hi';rw[hB0]at hcsB;obtain⟨vi,rfl,sn,hln⟩:=hcsB;refine go ?_;refine VE (fun hd=> ?_) (fun hd=> ?_)<;>simp only[DB]at hd
 ·have hk':k<B.ins.length:=by omega
  have hmemI:=zG (l:=B.ins) hk';obtain⟨csI,hcsI,pcI,hsI⟩:=zi sn hk';obtain⟨va,vfr,rfl,sa,sfr,hla,hlf,ho,ho2⟩:=id hcsI;refine go ?_;refine VC 0 rfl rfl ?_;have o1X:Uz h (inC (zC 0 h7)) p [_,_]:=o1;have o2X:Uz h1 (inC (zC 0 h7)) q [_,_]:=o2;have stX:Wn (inC (zC 0 h7)) _ T:=st7;have sfX:Wa (inC (zC 0 h7)) _ F:=sf7;have sbX:We (inC (zC 0 h7)) _ f.blocks:=sb7;obtain⟨csX,hcsX,pcX,hsX⟩:=zi sbX hi';rw[hB0]at hcsX;obtain⟨viX,rfl,snX,hlnX⟩:=hcsX;obtain⟨csIX,riX,pcIX,hsIX⟩:=zi snX hk';obtain⟨vaX,vfrX,rfl,saX,sfrX,_,_,_,_⟩:=id riX;obtain⟨xa,xn,xk,rfl⟩:=yW saX;obtain⟨ya,yn,yk,rfl⟩:=yW sfrX;refine WB ?_;refine VA (zIV (inC (zC 0 h7)) _ _ T F (B.ins.getD k default) _ regs f.blocks.length stX sfX (by omega) (by omega) riX (hXB _ hmemI)) ?_;rintro _ h8 ⟨rfl,e8⟩;refine nE e8 ?_;refine WB ?_;have e9:Ext h7 (outC h7 (inC h8)):=e8.reg;obtain⟨h9,hh9⟩:∃ h9,h9=outC h7 (inC h8):=⟨_,rfl⟩;rw[<-hh9]at e9;rw[<-hh9];rw[<-hs];clear o1X o2X stX sfX sbX pcX snX pcIX riX e8 hh9 saX sfrX;cases hins:Bj (B.ins.getD k default) s with
  |false=>
   refine gr ?_;refine⟨?_,e17.trans e9⟩;rw[bad (by unfold YY;rw[Gx.2 ⟨_,hmemI,by rw[hins];rfl⟩];rfl)];rfl
  |true=>
   refine go ?_;refine zA (k+1) (by omega) ⟨e7.trans e9,Wd,by omega,⟨fun j hj=> ?_⟩⟩;by_cases e:j=k
   ·subst e;exact hins
   ·exact hallk.out j (by omega)
 ·have hanyI:(B.ins.any fun x=> !Bj x s)=false:=YK fun x hx=>by
   obtain⟨j,hj,rfl⟩:=ZY hx;rw[hallk.out j (by omega)];rfl
  refine go ?_;refine VC 0 rfl rfl ?_;have o2X:Uz h1 (inC (zC 0 h7)) q [_,_]:=o2;have sbX:We (inC (zC 0 h7)) _ f.blocks:=sb7;obtain⟨csX,hcsX,pcX,hsX⟩:=zi sbX hi';rw[hB0]at hcsX;obtain⟨viX,rfl,snX,hlnX⟩:=hcsX;obtain⟨xa,xn,xk,rfl⟩:=zD snX;refine WB ?_;refine VA (zId (inC (zC 0 h7)) B.fin T.length F.length regs f.blocks.length) ?_;rintro _ h8 ⟨rfl,e8⟩;refine nE e8 ?_;refine WB ?_;have e9:Ext h7 (outC h7 (inC h8)):=e8.reg;obtain⟨h9,hh9⟩:∃ h9,h9=outC h7 (inC h8):=⟨_,rfl⟩;rw[<-hh9]at e9;rw[<-hh9];rw[<-hs];clear o2X sbX pcX snX e8 hh9;cases hend:Bl B.fin s with
  |false=>
   refine gr ?_;refine⟨?_,e17.trans e9⟩;rw[bad (by unfold YY;rw[hend,hanyI];rfl)];rfl
  |true=>
   refine go ?_;refine zA (i+1) (by omega) ⟨(e6.trans e7).trans e9,Wd,by omega,⟨fun j hj=> ?_⟩⟩;by_cases e:j=i
   ·subst e;rw[hB0];unfold YY;rw[hend,hanyI];rfl
   ·exact hall.out j (by omega)
end Go.Proofs.YtfnndahpddkniaaGreatDoor
