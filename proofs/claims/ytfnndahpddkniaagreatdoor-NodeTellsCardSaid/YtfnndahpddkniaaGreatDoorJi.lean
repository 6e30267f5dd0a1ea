/- Walks of functions, plain laws; proves no statement. -/
import Derived.Test.YtfnndahpddkniaaGreatDoorJh
set_option linter.all false
set_option maxHeartbeats 2000000
set_option maxRecDepth 100000
namespace Go.Proofs.YtfnndahpddkniaaGreatDoor
open Go.Am
section
variable {P:Program}{tab:Wj}{t:U1 Value}{ds:List Deferred}{rd:Option Nat}{h:Uw}{Q:WE->Uw->Prop}{l:List Uz}{d:Nat}{ty:TypeId}{x:Operand}{v r:Value}
theorem WO.as{ok:Bool}(hr:zDr P ty ok v=some r)(k:WO P tab l ⟨t.set d r,ds,rd⟩ h Q)(hx:U6 t x v:=by exact zR):WO P tab (⟨some d,none,.assert ty ok x⟩::l) ⟨t,ds,rd⟩ h Q:=
 WO.op _ _ rfl (by unfold U6 at *;simp only[U4,hx,hr,QH]) k
theorem UP(hr:zDu P ty v=some r)(k:WO P tab l ⟨t.set d r,ds,rd⟩ h Q)(hx:U6 t x v:=by exact zR):WO P tab (⟨some d,none,.typeOf ty x⟩::l) ⟨t,ds,rd⟩ h Q:=
 WO.op _ _ rfl (by unfold U6 at *;simp only[U4,hx,hr,QH]) k
theorem Up{f:FuncId}{name:String}{u:Value}(hm:zBM P ty name=some f)(k:WC P tab f [u] h fun v h'=>WO P tab l ⟨t.set d v,ds,rd⟩ h' Q)(hx:U6 t x (.iface ty u):=by exact zR):WO P tab (⟨some d,none,.invoke x name []⟩::l) ⟨t,ds,rd⟩ h Q:=
 WO.invoke hx hm rfl k
theorem Uh{G rt:Nat}{b:Bool}(hb:YV P G rt ty=some b)(k:WO P tab l ⟨t.set d (.bool b),ds,rd⟩ h Q)(hx:U6 t x (zGc G rt ty):=by exact zR):WO P tab (⟨some d,none,.invoke x "Comparable" []⟩::l) ⟨t,ds,rd⟩ h Q:=
 XC hx hb k
end
abbrev tyE:Nat:=33
abbrev zKU:Value:= .iface tyE (I 120)
theorem zIK(h:Uw)(f b:Int):WC Tryz.prog tb 267 [.agg #[I f,I b,I 120]] h fun r h'=>r=zKU/\Ext h h':=by
 refine en ?_;refine VF ?_;intro p h1 e1 o1;replace o1:Uy h h1 p [I f,I b,I 120]:=o1;refine go ?_;refine VX ?_;refine gr ?_;exact⟨rfl,e1⟩
theorem zPJ(h:Uw)(f b:Int):WC Tryz.prog tb 140 [Bc f b,zKU,.bool true] h fun r h'=>r=.bool true/\Ext h h':=by
 refine en ?_;refine VD (fun i=>2-i) (fun i t h'=>Ext h h'/\((i=0/\zB t 0=Bc f b)\/(i=1/\zB t 0=zKU))) 0 ?_ ?_
 ·exact⟨Ext.refl _,.inl ⟨rfl,U2⟩⟩
 rintro i t h1 hsame ⟨e1,⟨rfl,s0⟩|⟨rfl,s0⟩⟩
 ·unfold Bc at s0;refine go ?_;refine Vr (v:= .bool false) (by kernel_rfl) ?_;refine go ?_;refine WO.as (r:= .tuple #[.nilIface,.bool false]) (by kernel_rfl) ?_;refine go ?_;refine WO.as (r:= .tuple #[.iface tyF (.agg #[I f,I b,I 120]),.bool true]) (by kernel_rfl) ?_;refine go ?_;refine Up (f:=267) (by kernel_rfl) ?_;refine WC.mono (zIK h1 f b) ?_;rintro _ h2 ⟨rfl,e2⟩;refine go ?_;simp only[GX,QY];refine go ?_;exact zA 1 (by omega) ⟨e1.trans e2,.inr ⟨rfl,U2⟩⟩
 ·refine go ?_;refine Vr (v:= .bool true) (by kernel_rfl) ?_;refine gr ?_;exact⟨rfl,e1⟩
theorem zPj(h:Uw)(f b:Int):WC Tryz.prog tb 105 [Bc f b,zKU] h fun r h'=>r=.bool true/\Ext h h':=by
 unfold Bc;refine en ?_;simp only[GX,QY];refine go ?_;simp only[GX,QY];refine go ?_;refine UP (v:=zKU) rfl ?_;refine go ?_;refine Uh (b:=true) (by kernel_rfl) ?_;refine go ?_;have hk:=zPJ h f b;unfold Bc at hk;refine VA hk ?_;rintro _ h2 ⟨rfl,e2⟩;refine gr ?_;exact⟨rfl,e2⟩
theorem zOK(h:Uw):WC Tryz.prog tb 105 [.nilIface,zKU] h fun r h'=>r=.bool false/\h=h':=by
 refine en ?_;simp only[GX,QY];refine go ?_;refine Vr (v:= .bool false) (by kernel_rfl) ?_;refine gr ?_;exact⟨rfl,rfl⟩
noncomputable def zL(T:List Ux)(F:List WH):Int:=open Classical in if yx T F≠0 then yx T F else if WfP T F then 0 else 120
theorem zKY(h:Uw)(vt vf:Value)(T:List Ux)(F:List WH)(E:Bd h vt vf T F):
  WC Tryz.prog tb 78 [.agg #[vt,vf]] h fun r h'=>r=I (zL T F)/\Ext h h':=by
 unfold zL;have hF:=E.sm.funcs;refine en ?_;refine VF ?_;intro p1 h1 e1 o1;replace o1:Uy h h1 p1 [vt,vf]:=o1;have E1:=E.ext e1;refine go ?_;refine VA (zJu h1 vt vf T F E1.tt E1.hm E1.sm E1.st E1.sf) ?_;rintro _ h2 ⟨rfl,e2⟩;have o2:=o1.ext e2;have E2:=E1.ext e2;have sf2:=E2.sf;by_cases hp:yx T F=0;case neg=>
  rw[QF hp];refine gr ?_;exact⟨rfl,e1.trans e2⟩
 rw[QC (fun e=>e hp),hp];refine go ?_;refine VD (fun i=>F.length-i) (fun i t h'=>Ext h2 h'/\zB t 14=I i/\i<=F.length/\U7 (∀ f:Int,0<=f->f<(i:Int)->zG5 T F f)) 0 ?_ ?_
 ·exact⟨Ext.refl _,U2,QL _,⟨fun f f0 f1=>by omega⟩⟩
 rintro i t h3 hsame ⟨e3,s14,hi,hI⟩;have o3:=o2.ext e3;have e03:=e1.trans (e2.trans e3);refine go ?_;refine VE (fun hb=> ?_) (fun hb=> ?_)<;>simp only[DB]at hb
 ·have hi':i<F.length:=by omega
  refine go ?_;refine VA (zGX h3 vt vf T F i (E2.ext e3) hp ⟨by omega,by omega⟩) ?_;rintro q h4 ⟨⟨rfl,hq⟩|⟨⟨b,rfl⟩,hq⟩,e4⟩
  ·refine go ?_;refine VX ?_;refine go ?_;refine VA (zOK h4) ?_;rintro _ _ ⟨rfl,rfl⟩;refine go ?_;refine zA (i+1) (by omega) ⟨e3.trans e4,Wa,by omega,⟨fun f f0 f1=> ?_⟩⟩;by_cases hfi:f=i
   ·subst hfi;exact hq
   ·exact hI.out f f0 (by omega)
  ·refine go ?_;refine VX ?_;refine go ?_;refine VA (zPj h4 i b) ?_;rintro _ h5 ⟨rfl,e5⟩;refine gr ?_;refine⟨?_,e03.trans (e4.trans e5)⟩;rw[QC (fun w=>hq (w i (by omega) (by omega)))];rfl
 ·have hii:i=F.length:=by omega
  refine gr ?_;refine⟨?_,e03⟩;rw[QF (show WfP T F from fun f f0 f1=>hI.out f f0 (by omega))];rfl
theorem yj{T:List Ux}{F:List WH}(h:zL T F=0):yx T F=0/\WfP T F:=by
 unfold zL at h;split at h
 ·rename_i hp;exact absurd h hp
 ·rename_i hp;split at h
  ·rename_i hw;exact⟨Classical.not_not.1 hp,hw⟩
  ·cases h
theorem zBU{α:Type}{a b:List α}{i:Nat}{d:α}(h:i<a.length):(a++b).getD i d=a.getD i d:=by
 rw[QI,QI,Q7 h]
theorem zBO{α:Type}{a b:List α}{i:Nat}{d:α}(h:a.length<=i):(a++b).getD i d=b.getD (i-a.length) d:=by
 rw[QI,QI,GG h]
theorem Yd{α β:Type}{l:List α}{i:Nat}{f:α->β}{a:α}{b:β}(h:i<l.length):(l.map f).getD i b=f (l.getD i a):=by
 rw[QI,QI,GS,QB h];rfl
theorem zCK(b:WI)(L:List WI):∀ n,yb (b::L) (n+1)=((List.range b.ins.length).map fun(i:Nat)=>((0:Int),(i:Int)))++(yb L n).map fun p=>(p.1+1,p.2)
 |0=>by simp[yb]
 |n+1=>by
  show yb (b::L) (n+1)++(List.range (L.getD n default).ins.length).map (fun(i:Nat)=>(((n+1:Nat):Int),(i:Int)))=_++(yb L n++(List.range (L.getD n default).ins.length).map fun(i:Nat)=>((n:Int),(i:Int))).map (fun p=>(p.1+1,p.2));rw[zCK b L n,GD,List.map_map,Qm];rfl
theorem zIc(L:List WI):((yb L L.length).length:Int)=zM L:=by
 rw[<-zC8 L _ (QE _),Qg,zEs]
theorem zCk:∀ (L:List WI) (k:Int),0<=k->k<zM L->(yb L L.length).getD k.toNat default=zz L k
 |[],k,h0,h1=>by have h1:k<0:=h1;omega
 |b::L,k,h0,h1=>by
  rw[GB,zCK];rw[Zy]at h1;unfold zz;by_cases hk:k<b.ins.length
  ·rw[QC (by omega),zBU (by rw[Qz,G5];omega),Yd (a:=0) (by rw[G5];omega)];rw[QI,List.getElem?_range (by omega)];show((0:Int),((k.toNat:Nat):Int))=_;rw[show((k.toNat:Nat):Int)=k by omega]
  ·rw[QF (by omega),zBO (by rw[Qz,G5];omega),Qz,G5];have hl:=zIc L;rw[Yd (a:=default) (by omega),show k.toNat-b.ins.length=(k-b.ins.length).toNat by omega,zCk L _ (by omega) (by omega)]
theorem zDG:∀ (L:List WI) (k:Int),0<=k->k<zM L->(Zf L).getD k.toNat 0=Yj ((L.getD (zz L k).1.toNat default).ins.getD (zz L k).2.toNat default)
 |[],k,h0,h1=>by have h1:k<0:=h1;omega
 |b::L,k,h0,h1=>by
  have hc:Zf (b::L)=b.ins.map Yj++Zf L:=by unfold Zf;rw[List.flatMap_cons]
  rw[hc];rw[Zy]at h1;unfold zz;by_cases hk:k<b.ins.length
  ·rw[QC (by omega),zBU (by rw[Qz];omega),Yd (a:=default) (by omega)];rfl
  ·rw[QF (by omega),zBO (by rw[Qz];omega),Qz,show k.toNat-b.ins.length=(k-b.ins.length).toNat by omega,zDG L _ (by omega) (by omega)];have:=(zBV (l:=L) (a:=k-b.ins.length) (by omega) (by omega)).1;show _=Yj (((b::L).getD ((zz L (k-b.ins.length)).1+1).toNat default).ins.getD _ default);rw[show((zz L (k-b.ins.length)).1+1).toNat=(zz L (k-b.ins.length)).1.toNat+1 by omega,List.getD_cons_succ]
theorem zPQ{T:List Ux}{F:List WH}{f r:Int}(h0:0<=r)(h1:r<zBq ((yF T F f).parts.length:Int) (zJ F f)):
  (BU T F f).getD r.toNat default=if r<((yF T F f).parts.length:Int)then(-1,-1)else zz (zJ F f) (r-((yF T F f).parts.length:Int)):=by
 unfold BU zDo;unfold zBq at h1;split
 ·rename_i h;rw[zBU (by rw[G1];omega),zMS (by omega)]
 ·rename_i h;rw[zBO (by rw[G1];omega),G1,show r.toNat-(yF T F f).parts.length=(r-((yF T F f).parts.length:Int)).toNat by omega,zCk _ _ (by omega) (by omega)]
theorem zOw{T:List Ux}{F:List WH}{f r:Int}(h0:0<=r)(h1:r<zBq ((yF T F f).parts.length:Int) (zJ F f)):
  (Wu T F f).getD r.toNat 0=if r<((yF T F f).parts.length:Int)then(yF T F f).parts.getD r.toNat 0 else Yj (((zJ F f).getD (zz (zJ F f) (r-((yF T F f).parts.length:Int))).1.toNat default).ins.getD (zz (zJ F f) (r-((yF T F f).parts.length:Int))).2.toNat default):=by
 unfold Wu zEC;unfold zBq at h1;split
 ·rename_i h;rw[zBU (by omega)]
 ·rename_i h;rw[zBO (by omega),show r.toNat-(yF T F f).parts.length=(r-((yF T F f).parts.length:Int)).toNat by omega,zDG _ _ (by omega) (by omega)]
theorem zKH{T:List Ux}{F:List WH}{f r:Int}(hp:yx T F=0):y9 T F f r=if f<0\/(F.length:Int)<=f\/r<0\/zBq ((yF T F f).parts.length:Int) (zJ F f)<=r then(0,0,2)else
  if r<((yF T F f).parts.length:Int)then(-1,r,0)else((zz (zJ F f) (r-((yF T F f).parts.length:Int))).1,(zz (zJ F f) (r-((yF T F f).parts.length:Int))).2,0):=by
 unfold y9;by_cases hf:0<=f/\f<(F.length:Int)
 ·have hask:z8 T F f=(((yF T F f).parts.length:Int),0):=by
   unfold z8;rw[QC (fun e=>e hp),QF (by unfold zY;simp;omega)];rfl
  rw[hask];rw[QC (fun e=>e rfl)];show(if r<0\/((yF T F f).parts.length:Int)+zM (F.getD f.toNat default).blocks<=r then(0,0,2)else if r<((yF T F f).parts.length:Int)then(-1,r,0)else((zz (zJ F f) (r-((yF T F f).parts.length:Int))).1,(zz (zJ F f) (r-((yF T F f).parts.length:Int))).2,0))=_;by_cases h1:r<0\/((yF T F f).parts.length:Int)+zM (F.getD f.toNat default).blocks<=r
  ·rw[QF h1,QF (by unfold zBq zJ;omega)]
  ·rw[QC h1,QC (c:=f<0\/_) (by unfold zBq zJ;omega)]
 ·have hask:z8 T F f=(0,2):=by
   unfold z8;rw[QC (fun e=>e hp),QC (by unfold zY;simp;omega)]
  rw[hask,QF (by decide),QF (by omega)]
theorem zNd{T:List Ux}{F:List WH}{f r block at':Int}(hp:yx T F=0)(Z:FnIn T F f)(h0:0<=r)(h1:r<zBq ((yF T F f).parts.length:Int) (zJ F f))(hb:0<=block/\block<((zJ F f).length:Int)):
  (y9 T F f r).2.2=0/\(zOO T F f r block at'↔zBv (WR (zJ F f)) ((BU T F f).getD r.toNat default) block at'):=by
 have hf:=Z.hf;have hnx:nxF T F f=WR (zJ F f):=by unfold nxF;rw[Z.bl 0 (Qe 0) (by have:=Z.n1;omega)]
 have hpl:=zKH (f:=f) (r:=r) hp;rw[QC (by omega)]at hpl;unfold zOO zBv;rw[hpl,zPQ h0 h1,hnx];by_cases c:r<((yF T F f).parts.length:Int)
 ·rw[QF c,QF c];refine⟨rfl,?_⟩;rw[QC (by show ¬(-1:Int)=block;omega)];simp
 ·rw[QC c,QC c];refine⟨rfl,?_⟩;unfold zBq at h1;have hw:=zBV (l:=zJ F f) (a:=r-((yF T F f).parts.length:Int)) (by omega) (by omega);have hne:(zz (zJ F f) (r-((yF T F f).parts.length:Int))).1≠ -1:=by omega
  by_cases d:(zz (zJ F f) (r-((yF T F f).parts.length:Int))).1=block
  ·rw[QF d];exact⟨fun h=>h.elim (fun h=>absurd h hne) fun h=>h.elim (fun h=>h.2) fun h=>absurd d h.2.1,fun h=> .inr (.inl ⟨d,h⟩)⟩
  ·rw[QC d];exact⟨fun h=>h.elim (fun h=>absurd h hne) fun h=>h.elim (fun h=>absurd h.1 d) fun h=> .inr h.2.2,fun h=>h.elim (fun h=>absurd h hne) fun h=> .inr (.inr ⟨hne,d,h⟩)⟩
end Go.Proofs.YtfnndahpddkniaaGreatDoor
set_option maxRecDepth 100000
namespace Go.Proofs.YtfnndahpddkniaaGreatDoor
open Go.Am
theorem zCp(h:Uw)(vt:Value)(T:List Ux)(k:Int)(st:Wl h vt T)(hT:(T.length:Int)<=1000):
  WC Tryz.prog tb 187 [vt,I k] h fun r h'=>(∃ b,r=.bool b/\(b=true↔PlT T k))/\h=h':=by
 refine en ?_;by_cases h0:0<=k;case neg=>
  refine gr ?_;exact⟨⟨_,rfl,by unfold PlT;simp only[Wx];omega⟩,rfl⟩
 by_cases h1:k<(T.length:Int);case neg=>
  refine gr ?_;exact⟨⟨_,rfl,by unfold PlT;simp only[Wx];omega⟩,rfl⟩
 obtain⟨cs,⟨va,rfl,sa,hla⟩,pc,hs⟩:=yN (i:=k.toNat) st (by omega);refine go ?_;repeat' (first|(refine VE (fun hb=> ?_) (fun hb=> ?_)<;>(try simp only[DB]at hb)<;>refine go ?_)|(refine VJ (fun hb=> ?_) (fun hb=> ?_)<;>(try simp only[DB]at hb)<;>refine go ?_))
 all_goals (refine rt ?_;exact⟨⟨_,rfl,by unfold PlT;simp only[Wx];omega⟩,rfl⟩)
theorem zLM(h:Uw)(v:Value)(l:List Int)(m:Int)(s:WF h v l)(hl:(l.length:Int)<=1000000):
  WC Tryz.prog tb 147 [v,I m] h fun r h'=>(∃ b,r=.bool b/\(b=true↔∀ p∈l,0<=p/\p<m))/\h=h':=by
 refine en ?_;refine VD (fun i=>l.length-i) (fun i t h1=>h=h1/\zB t 5=I i/\i<=l.length/\∀ j,j<i->0<=l.getD j 0/\l.getD j 0<m) 0 ?_ ?_
 ·exact⟨rfl,U2,QL _,fun j hj=>absurd hj (Ql _)⟩
 rintro i t _ hsame ⟨rfl,s5,hi,hm⟩;refine go ?_;refine VE (fun hb=> ?_) (fun hb=> ?_)<;>simp only[DB]at hb
 ·have hi':i<l.length:=by omega
  by_cases hok:0<=l.getD i 0/\l.getD i 0<m
  ·refine go ?_;refine zA (i+1) (by omega) ⟨rfl,Wa,by omega,fun j hj=> ?_⟩;by_cases e:j=i
   ·subst e;exact hok
   ·exact hm j (by omega)
  ·have hno:¬∀ p∈l,0<=p/\p<m:=fun hh=>hok (hh _ (zO hi'));by_cases h0:l.getD i 0<0
   ·refine gr ?_;exact⟨⟨_,rfl,by simp only[Wx];exact hno⟩,rfl⟩
   ·refine gr ?_;exact⟨⟨_,rfl,by simp only[Wx];exact hno⟩,rfl⟩
 ·refine gr ?_;refine⟨⟨_,rfl,?_⟩,rfl⟩;simp only[Wx];intro p hp;obtain⟨j,hj,rfl⟩:=Zg hp;exact hm j (by omega)
theorem zKe(h:Uw)(vt va:Value)(T:List Ux)(x:Ux)(st:Wl h vt T)(hT:(T.length:Int)<=1000)(sa:WF h va x.parts)(hla:(x.parts.length:Int)<=1000000):
  WC Tryz.prog tb 146 [vt,.agg #[.int .u8 x.kind,I x.elem,I x.many,va]] h fun r h'=>(∃ b,r=.bool b/\(b=true↔zCU T x))/\Ext h h':=by
 refine en ?_;refine VF ?_;intro p h1 e1 o1;have st1:=st.ext e1;have sa1:=sa.ext e1;obtain⟨_,_,_,rfl⟩:=WT.shape sa;refine go ?_;refine VD (fun i=>x.parts.length-i) (fun i t h2=>h1=h2/\zB t 5=I i/\i<=x.parts.length/\∀ j,j<i->PlT T (x.parts.getD j 0)) 0 ?_ ?_
 ·exact⟨rfl,U2,QL _,fun j hj=>absurd hj (Ql _)⟩
 rintro i t _ hsame ⟨rfl,s5,hi,hm⟩;refine go ?_;refine VE (fun hb=> ?_) (fun hb=> ?_)<;>simp only[DB]at hb
 ·have hi':i<x.parts.length:=by omega
  refine go ?_;refine VA (zCp h1 vt T (x.parts.getD i 0) st1 hT) ?_;rintro _ _ ⟨⟨b,rfl,hbb⟩,rfl⟩;cases b with
  |true=>
   refine go ?_;refine zA (i+1) (by omega) ⟨rfl,Wa,by omega,fun j hj=> ?_⟩;by_cases e:j=i
   ·subst e;exact hbb.1 rfl
   ·exact hm j (by omega)
  |false=>
   refine gr ?_;exact⟨⟨_,rfl,by simp only[Wx];exact fun hh=>absurd (hbb.2 (hh.1 _ (zO hi'))) Bool.noConfusion⟩,e1⟩
 ·have hall:∀ p∈x.parts,PlT T p:=fun p hp=>by
   obtain⟨j,hj,rfl⟩:=Zg hp;exact hm j (by omega)
  replace hall:=U7.mk hall;replace hm:=U7.mk hm;refine go ?_;refine VA (zCp h1 vt T x.elem st1 hT) ?_;rintro _ _ ⟨⟨b,rfl,hbb⟩,rfl⟩;replace hbb:=U7.mk hbb;have key:∀ q:Bool,(q=true↔b=true/\(x.parts.length:Int)<=4/\x.many=0)->(q=true↔zCU T x):=fun q hq=>by
   rw[hq];unfold zCU;rw[hbb.out];refine⟨fun h=>⟨hall.out,h.1,by omega,h.2.2⟩,fun h=>⟨h.2.1,by omega,h.2.2.2⟩⟩
  cases b with
  |false=>
   refine gr ?_;exact⟨⟨_,rfl,key _ (by simp)⟩,e1⟩
  |true=>
   refine go ?_;repeat' (first|(refine VE (fun hb=> ?_) (fun hb=> ?_)<;>(try simp only[DB]at hb)<;>refine go ?_)|(refine VJ (fun hb=> ?_) (fun hb=> ?_)<;>(try simp only[DB]at hb)<;>refine go ?_))
   all_goals (refine rt ?_;exact⟨⟨_,rfl,key _ (by simp only[Wx,true_and];omega)⟩,e1⟩)
theorem zNB{T:List Ux}{x:Ux}{k:Nat}:zDd T x k↔(x.kind=1/\x.elem=0/\x.many=0/\(x.parts.length:Int)=0)\/
 (x.kind=2/\0<=x.elem/\x.elem<(T.length:Int)/\x.many=0/\(x.parts.length:Int)=0)\/(x.kind=3/\zCU T x)\/
 (x.kind=4/\x.elem=0/\x.many=0/\1<=(x.parts.length:Int)/\(x.parts.length:Int)<=8/\∀ p∈x.parts,0<=p/\p<(k:Int))\/
 (x.kind=5/\0<=x.elem/\x.elem<(k:Int)/\1<=x.many/\x.many<=16/\(x.parts.length:Int)=0):=by
 unfold zDd;have h0:(x.parts.length:Int)=0↔x.parts.length=0:=by omega
 have h1:1<=(x.parts.length:Int)↔1<=x.parts.length:=by omega
 have h8:(x.parts.length:Int)<=8↔x.parts.length<=8:=by omega
 rw[h0,h1,h8]
theorem zHD(h:Uw)(vt:Value)(T:List Ux)(k:Nat)(st:Wl h vt T)(hT:(T.length:Int)<=1000)(hk:k<T.length)(hpl:((T.getD k default).parts.length:Int)<=1000000):
  WC Tryz.prog tb 110 [vt,I k] h fun r h'=>(∃ b,r=.bool b/\(b=true↔ZI T k))/\Ext h h':=by
 obtain⟨cs,⟨va,rfl,sa,hla⟩,pc,hs⟩:=yN (i:=k) st hk;unfold ZI;generalize T.getD k default=x at *;have hmx:=U7.mk (zNB (T:=T) (x:=x) (k:=k));obtain⟨_,_,_,rfl⟩:=WT.shape sa;refine en ?_;refine VK ?_;intro p h1 e1 o1;refine go ?_;refine VG o1 e1 ?_;intro h2 e2 o2 _;have st2:=st.ext e2;have sa2:=sa.ext e2;by_cases h1:x.kind=1
 ·skip;refine go ?_;repeat' (first|(refine VE (fun hb=> ?_) (fun hb=> ?_)<;>(try simp only[DB]at hb)<;>refine go ?_)|(refine VJ (fun hb=> ?_) (fun hb=> ?_)<;>(try simp only[DB]at hb)<;>refine go ?_))
  all_goals (refine rt ?_;exact⟨⟨_,rfl,by rw[hmx.out];simp only[Wx];omega⟩,e2⟩)
 by_cases h2:x.kind=2
 ·skip;refine go ?_;repeat' (first|(refine VE (fun hb=> ?_) (fun hb=> ?_)<;>(try simp only[DB]at hb)<;>refine go ?_)|(refine VJ (fun hb=> ?_) (fun hb=> ?_)<;>(try simp only[DB]at hb)<;>refine go ?_))
  all_goals (refine rt ?_;exact⟨⟨_,rfl,by rw[hmx.out];simp only[Wx];omega⟩,e2⟩)
 by_cases h3:x.kind=3
 ·refine go ?_;refine VA (zKe _ vt _ T x st2 hT sa2 hpl) ?_;rintro _ h5 ⟨⟨b,rfl,hbb⟩,e5⟩;refine gr ?_;refine⟨⟨_,rfl,?_⟩,e2.trans e5⟩;rw[hbb,hmx.out];refine⟨fun h=> .inr (.inr (.inl ⟨h3,h⟩)),fun h=> ?_⟩;rcases h with h|h|h|h|h
  ·omega
  ·omega
  ·exact h.2
  ·omega
  ·omega
 by_cases h4:x.kind=4
 ·refine go ?_;refine VJ (fun hd=> ?_) (fun hd=> ?_)<;>simp only[DB]at hd;case refine_2=>
   refine gr ?_;refine⟨⟨_,rfl,?_⟩,e2⟩;rw[hmx.out];simp only[Wx];omega
  refine go ?_;refine VJ (fun hd2=> ?_) (fun hd2=> ?_)<;>simp only[DB]at hd2;case refine_2=>
   refine gr ?_;refine⟨⟨_,rfl,?_⟩,e2⟩;rw[hmx.out];simp only[Wx];omega
  refine go ?_;refine VJ (fun hd3=> ?_) (fun hd3=> ?_)<;>simp only[DB]at hd3;case refine_2=>
   refine gr ?_;refine⟨⟨_,rfl,?_⟩,e2⟩;rw[hmx.out];simp only[Wx];omega
  refine go ?_;refine VJ (fun hd4=> ?_) (fun hd4=> ?_)<;>simp only[DB]at hd4;case refine_2=>
   refine gr ?_;refine⟨⟨_,rfl,?_⟩,e2⟩;rw[hmx.out];simp only[Wx];omega
  refine go ?_;refine VA (zLM _ _ x.parts k sa2 hpl) ?_;rintro _ _ ⟨⟨b,rfl,hbb⟩,rfl⟩;refine gr ?_;refine⟨⟨_,rfl,?_⟩,e2⟩;rw[hbb,hmx.out];refine⟨fun h=> .inr (.inr (.inr (.inl ⟨h4,hd,hd2,hd3,hd4,h⟩))),fun h=> ?_⟩;rcases h with h|h|h|h|h
  ·omega
  ·omega
  ·omega
  ·exact h.2.2.2.2.2
  ·omega
 by_cases h5:x.kind=5
 ·skip;refine go ?_;repeat' (first|(refine VE (fun hb=> ?_) (fun hb=> ?_)<;>(try simp only[DB]at hb)<;>refine go ?_)|(refine VJ (fun hb=> ?_) (fun hb=> ?_)<;>(try simp only[DB]at hb)<;>refine go ?_))
  all_goals (refine rt ?_;exact⟨⟨_,rfl,by rw[hmx.out];simp only[Wx];omega⟩,e2⟩)
 ·refine gr ?_;refine⟨⟨_,rfl,?_⟩,e2⟩;rw[hmx.out];simp only[Wx];omega
theorem zA1{α:Type}{l:List α}{f:α->List Int}(h:∀ x∈l,(f x).length<=32):(l.map f).flatten.length<=32*l.length:=by
 induction l with
 |nil=>simp
 |cons a l ih=>
  have:=h a (by simp);have:=ih fun x hx=>h x (by simp[hx]);simp only[Q1,GT,QR,GB];omega
theorem zC5{α:Type}[Inhabited α]{l:List α}{f:α->List Int}{i:Nat}(h:i<l.length):((l.take (i+1)).map f).flatten=((l.take i).map f).flatten++f (l.getD i default):=by
 rw[Qv,QB h,GD,List.flatten_append];simp[List.getD,QB h]
theorem zPZ(vt:Value)(T:List Ux)(hT:(T.length:Int)<=1000):∀ (n k:Nat) (h:Uw),k<n->Wl h vt T->k<T.length->zDf T k->ZI T k->
  WC Tryz.prog tb 41 [vt,I k] h fun r h'=>U3 h h' r (W5 T k)/\Ext h h':=by
 intro n;induction n with
 |zero=>intro k h hk;omega
 |succ n ih=>
  intro k h hkn st hk hlow hM;have hof:=Ys (T:=T) (k:=k) fun j hj=>by
   by_cases e:j=k
   ·subst e;exact hM
   ·exact(hlow j (by omega)).1
  obtain⟨cs,⟨va,rfl,sa,hla⟩,pc,hs⟩:=yN (i:=k) st hk;unfold ZI zDd at hM;rw[hof];clear hof;generalize T.getD k default=x at *;obtain⟨_,_,_,rfl⟩:=WT.shape sa;refine en ?_;refine VK ?_;intro p h1 e1 o1;refine go ?_;refine VG o1 e1 ?_;intro h2 e2 o2 _;have st2:=st.ext e2;have sa2:=sa.ext e2;by_cases h4:x.kind=4
  ·have hp:x.parts.length<=8/\∀ p∈x.parts,0<=p/\p<(k:Int):=by
    rcases hM with h|h|h|h|h
    ·omega
    ·omega
    ·omega
    ·exact⟨h.2.2.2.2.1,h.2.2.2.2.2⟩
    ·omega
   have hbd:∀ p∈x.parts,(W5 T p.toNat).length<=32:=fun p hpp=>by
    have:=hp.2 p hpp;exact(hlow p.toNat (by omega)).2
   simp only[h4,Q2];replace hM:=U7.mk hM;replace hlow:=U7.mk hlow;have hp8:=hp.1;replace hp:=U7.mk hp;replace hbd:=U7.mk hbd;refine go ?_;refine VD (fun i=>x.parts.length-i) (fun i t h3=>zB t 7=I i/\i<=x.parts.length/\Ext h2 h3/\∃ w,zB t 6=w/\U3 h2 h3 w (((x.parts.take i).map fun p=>W5 T p.toNat).flatten)) 0 ?_ ?_
   ·exact⟨U2,QL _,Ext.refl _,.slice none 0 0,U2,.inl ⟨rfl,by simp⟩⟩
   rintro i t h3 hsame ⟨s7,hi,e23,w,s6,ow⟩;have st3:=st2.ext e23;have sa3:=sa2.ext e23;have o3:=o2.ext e23;refine go ?_;refine VE (fun hc=> ?_) (fun hc=> ?_)<;>simp only[DB]at hc
   ·have hi':i<x.parts.length:=by omega
    have hpi:=hp.out.2 _ (zO hi');have hsucc:=zC5 (f:=fun p=>W5 T p.toNat) hi';have hln:=zA1 (l:=x.parts.take i) (f:=fun p=>W5 T p.toNat) fun q hq=>hbd.out q (Qi hq);have hl1:=hbd.out _ (zO hi');have htk:(x.parts.take i).length<=i:=List.length_take_le _ _;have hcast:I (x.parts.getD i 0)=I ((x.parts.getD i 0).toNat:Int):=by rw[Int.toNat_of_nonneg hpi.1]
    obtain⟨q,hq⟩:∃ q:Nat,x.parts.getD i 0=q:=⟨(x.parts.getD i 0).toNat,by omega⟩;have hqk:q<k:=by omega
    refine go ?_;rw[hq];refine VA (ih q h3 (by omega) st3 (by omega) (fun j hj=>hlow.out j (by omega)) (hlow.out q hqk).1) ?_;rintro r h4 ⟨or,e4⟩;refine go ?_;have hdef:x.parts.getD i default=(q:Int):=hq;rw[hdef]at hsucc;simp only[QN]at hsucc;have hl2:(W5 T q).length<=32:=by rw[hq]at hl1;exact hl1
    refine VO (ow.ext e4) or.sl (e23.trans e4) (by omega) ?_;intro v5 h5 e5 o5;refine go ?_;exact zA (i+1) (by omega) ⟨Wa,by omega,e5,v5,U2,by rw[hsucc];exact o5⟩
   ·have hii:i=x.parts.length:=by omega
    subst hii;rw[Qg]at ow;refine gr ?_;exact⟨ow.since e2,e2.trans e23⟩
  by_cases h5:x.kind=5
  ·have hp:0<=x.elem/\x.elem<(k:Int)/\1<=x.many/\x.many<=16:=by omega
   obtain⟨q,hq⟩:∃ q:Nat,x.elem=q:=⟨x.elem.toNat,by omega⟩;obtain⟨m,hm⟩:∃ m:Nat,x.many=m:=⟨x.many.toNat,by omega⟩;have hqk:q<k:=by omega
   have hlq:=(hlow q hqk).2;simp only[h5,Q2,GX,show ¬((5:Int)=4) by decide,hq,hm,QN];replace hM:=U7.mk hM;replace hlow:=U7.mk hlow;have hm16:m<=16:=by omega
   refine go ?_;refine VD (fun i=>m-i) (fun i t h3=>zB t 9=I i/\i<=m/\Ext h2 h3/\∃ w,zB t 8=w/\U3 h2 h3 w (List.replicate i (W5 T q)).flatten) 0 ?_ ?_
   ·exact⟨U2,QL _,Ext.refl _,.slice none 0 0,U2,.inl ⟨rfl,by simp⟩⟩
   rintro i t h3 hsame ⟨s7,hi,e23,w,s6,ow⟩;have st3:=st2.ext e23;have o3:=o2.ext e23;refine go ?_;rw[hm];refine go ?_;refine VE (fun hc=> ?_) (fun hc=> ?_)<;>simp only[DB]at hc
   ·have hi':i<m:=by omega
    have hln:=zAU i (W5 T q);have hmul:i*(W5 T q).length<=16*32:=Nat.mul_le_mul (by omega) hlq;refine go ?_;rw[hq];refine VA (ih q h3 (by omega) st3 (by omega) (fun j hj=>hlow.out j (by omega)) (hlow.out q hqk).1) ?_;rintro r h4 ⟨or,e4⟩;refine go ?_;refine VO (ow.ext e4) or.sl (e23.trans e4) (by omega) ?_;intro v5 h5 e5 o5;refine go ?_;refine zA (i+1) (by omega) ⟨Wa,by omega,e5,v5,U2,?_⟩;rw[List.replicate_succ',List.flatten_append];simpa using o5
   ·have hii:i=m:=by omega
    subst hii;refine gr ?_;exact⟨ow.since e2,e2.trans e23⟩
  ·rw[QC h4,QC h5];refine go ?_;refine WO.bl [(k:Int)] ?_;intro v h3 e3 o3;refine gr ?_;exact⟨.inr (o3.since e2),e2.trans e3⟩
theorem zKz(h:Uw)(vt:Value)(T:List Ux)(st:Wl h vt T)(hT:(T.length:Int)<=1000)(hpl:∀ x∈T,x.parts.length<=1000000):
  WC Tryz.prog tb 86 [vt] h fun r h'=>r=I (yS T)/\Ext h h':=by
 refine en ?_;rw[zAr];replace hpl:=U7.mk hpl;by_cases h16:16<(T.length:Int)
 ·refine gr ?_;rw[QF (by omega)];exact⟨rfl,Ext.refl _⟩
 rw[QC (by omega)];refine go ?_;refine VD (fun i=>T.length-i) (fun i t h1=>Ext h h1/\zB t 3=I i/\i<=T.length/\U7 (zDf T i)) 0 ?_ ?_
 ·exact⟨Ext.refl _,U2,QL _,⟨fun j hj=>absurd hj (Ql _)⟩⟩
 rintro i t h1 hsame ⟨e1,s3,hi,hlow⟩;have st1:=st.ext e1;refine go ?_;refine VE (fun hc=> ?_) (fun hc=> ?_)<;>simp only[DB]at hc
 ·have hi':i<T.length:=by omega
  refine go ?_;refine VA (zHD h1 vt T i st1 hT hi' (by have:=hpl.out _ (zG (l:=T) hi');omega)) ?_;rintro _ h2 ⟨⟨b,rfl,hbb⟩,e2⟩;have st2:=st1.ext e2;have no:¬(ZI T i/\(W5 T i).length<=32)->¬zDf T T.length:=fun hn hl=>hn (hl i hi');cases b with
  |false=>
   have hf:¬zDf T T.length:=no fun hh=>absurd (hbb.2 hh.1) Bool.noConfusion;refine gr ?_;rw[QC hf];exact⟨rfl,e1.trans e2⟩
  |true=>
   have hM:=hbb.1 rfl;refine go ?_;refine VA (zPZ vt T hT (i+1) i h2 (by omega) st2 hi' hlow.out hM) ?_;rintro r h3 ⟨or,e3⟩;have sr:=or.sl;have e03:=(e1.trans e2).trans e3;refine go ?_;refine VE (fun hd=> ?_) (fun hd=> ?_)<;>simp only[DB]at hd
   ·have hf:¬zDf T T.length:=no fun hh=>by have:=hh.2;omega
    refine gr ?_;rw[QC hf];exact⟨rfl,e03⟩
   ·refine go ?_;refine zA (i+1) (by omega) ⟨e03,Wa,by omega,⟨fun j hj=> ?_⟩⟩;by_cases e:j=i
    ·subst e;exact⟨hM,by omega⟩
    ·exact hlow.out j (by omega)
 ·have hii:i=T.length:=by omega
  subst hii;refine gr ?_;rw[QF hlow.out];exact⟨rfl,e1⟩
end Go.Proofs.YtfnndahpddkniaaGreatDoor
set_option maxRecDepth 100000
namespace Go.Proofs.YtfnndahpddkniaaGreatDoor
open Go.Am
theorem zJz(h:Uw)(op:Int):WC Tryz.prog tb 151 [.int .u8 op] h fun r h'=>(∃ b,r=.bool b/\(b=true↔zBd op))/\h=h':=by
 refine en ?_;repeat' (first|(refine VE (fun hb=> ?_) (fun hb=> ?_)<;>(try simp only[DB]at hb)<;>refine go ?_)|(refine VJ (fun hb=> ?_) (fun hb=> ?_)<;>(try simp only[DB]at hb)<;>refine go ?_))
 all_goals (refine rt ?_;exact⟨⟨_,rfl,by unfold zBd;simp only[Wx];omega⟩,rfl⟩)
theorem zLa(h:Uw)(op:Int)(ho:0<=op):WC Tryz.prog tb 151 [.int .u8 op] h fun r h'=>r=.bool (zZ op).2.1/\h=h':=by
 refine(zJz h op).mono ?_;rintro _ _ ⟨⟨b,rfl,hb⟩,rfl⟩;exact⟨congrArg _ (by rw[GV,hb,(YP ho).1]),rfl⟩
theorem zJa(h:Uw)(op:Int)(ho:0<=op):WC Tryz.prog tb 150 [.int .u8 op] h fun r h'=>r=.bool (zZ op).1/\h=h':=by
 refine WC.mono (Q:=fun r h'=>(∃ b,r=.bool b/\(b=true↔zBe op))/\h=h') ?_ ?_
 ·refine en ?_;refine VA (zJz h op) ?_;rintro _ _ ⟨⟨b,rfl,hb⟩,rfl⟩;cases b with
  |true=>
   have hT:=hb.1 rfl;refine gr ?_;exact⟨⟨_,rfl,⟨fun _=> .inl hT,fun _=>rfl⟩⟩,rfl⟩
  |false=>
   have hT:¬zBd op:=fun hh=>absurd (hb.2 hh) Bool.noConfusion;unfold zBe;refine go ?_;repeat' (first|(refine VE (fun hb=> ?_) (fun hb=> ?_)<;>(try simp only[DB]at hb)<;>refine go ?_)|(refine VJ (fun hb=> ?_) (fun hb=> ?_)<;>(try simp only[DB]at hb)<;>refine go ?_))
   all_goals (refine rt ?_;exact⟨⟨_,rfl,by simp only[Wx,hT,false_or];omega⟩,rfl⟩)
 ·rintro _ _ ⟨⟨b,rfl,hb⟩,rfl⟩;exact⟨congrArg _ (by rw[GV,hb,(YP ho).2.1]),rfl⟩
theorem zJ1(h:Uw)(op:Int)(ho:0<=op):WC Tryz.prog tb 152 [.int .u8 op] h fun r h'=>r=.bool (zZ op).2.2.2.1/\h=h':=by
 refine WC.mono (Q:=fun r h'=>(∃ b,r=.bool b/\(b=true↔zBj op))/\h=h') ?_ ?_
 ·refine en ?_;repeat' (first|(refine VE (fun hb=> ?_) (fun hb=> ?_)<;>(try simp only[DB]at hb)<;>refine go ?_)|(refine VJ (fun hb=> ?_) (fun hb=> ?_)<;>(try simp only[DB]at hb)<;>refine go ?_))
  all_goals (refine rt ?_;exact⟨⟨_,rfl,by unfold zBj;simp only[Wx];omega⟩,rfl⟩)
 ·rintro _ _ ⟨⟨b,rfl,hb⟩,rfl⟩;exact⟨congrArg _ (by rw[GV,hb,(YP ho).2.2.1]),rfl⟩
theorem zAW(h:Uw)(op:Int)(ho:0<=op):WC Tryz.prog tb 153 [.int .u8 op] h fun r h'=>r=.bool (zZ op).2.2.2.2.2/\h=h':=by
 refine WC.mono (Q:=fun r h'=>(∃ b,r=.bool b/\(b=true↔zMQ op))/\h=h') ?_ ?_
 ·refine en ?_;repeat' (first|(refine VE (fun hb=> ?_) (fun hb=> ?_)<;>(try simp only[DB]at hb)<;>refine go ?_)|(refine VJ (fun hb=> ?_) (fun hb=> ?_)<;>(try simp only[DB]at hb)<;>refine go ?_))
  all_goals (refine rt ?_;exact⟨⟨_,rfl,by unfold zMQ;simp only[Wx];omega⟩,rfl⟩)
 ·rintro _ _ ⟨⟨b,rfl,hb⟩,rfl⟩;exact⟨congrArg _ (by rw[GV,hb,(YP ho).2.2.2.1]),rfl⟩
theorem yX{h:Uw}{va:Value}{l:List Int}(s:WF h va l):∃ a n k,va=.slice a n k:=WT.shape s
theorem zD9(h:Uw)(x:WQ)(cs:List Value)(hcs:Wn h cs x)(hx:x.args.length<=20):
  WC Tryz.prog tb 115 [.agg cs.toArray] h fun r h'=>U3 h h' r (yL x)/\Ext h h':=by
 obtain⟨va,vfr,rfl,sa,sfr,hla,hlf,ho,ho2⟩:=hcs;obtain⟨aa,an,ak,rfl⟩:=yX sa;obtain⟨fa,fn,fk,rfl⟩:=yX sfr;refine en ?_;refine VF ?_;intro p h1 e1 o1;have sa1:=sa.ext e1;refine go ?_;refine VA (zJa h1 x.op ho) ?_;rintro _ _ ⟨rfl,rfl⟩;unfold yL;refine go ?_;refine VL (fun t h'=>Ext h1 h'/\∃ w,zB t 3=w/\U3 h1 h' w (if(zZ x.op).1 then[x.a]else[])) ?_ ?_
 ·cases hA:(zZ x.op).1 with
  |true=>
   refine go ?_;refine WO.bl [x.a] ?_;intro v h2 e2 o2;refine go ?_;refine VO (v:= .slice none 0 0) (xs:=[]) (h0:=h1) (.inl ⟨rfl,rfl⟩) o2.sl e2 (by simp) ?_;intro v3 h3 e3 o3;refine go ?_;exact zF ⟨e3,v3,U2,o3⟩
  |false=>
   refine go ?_;exact zF ⟨Ext.refl _,_,U2,.inl ⟨rfl,rfl⟩⟩
 rintro t2 h2 hs2 ⟨e2,w2,q2,ow2⟩;have o2:=o1.ext e2;have l2:(if(zZ x.op).1 then[x.a]else[]).length<=1:=by split<;>simp
 generalize(if(zZ x.op).1 then[x.a]else[])=lA at *;refine go ?_;refine VA (zLa h2 x.op ho) ?_;rintro _ _ ⟨rfl,rfl⟩;refine go ?_;refine VL (fun t h'=>Ext h1 h'/\∃ w,zB t 3=w/\U3 h1 h' w (lA++if(zZ x.op).2.1 then[x.b]else[])) ?_ ?_
 ·cases hB:(zZ x.op).2.1 with
  |true=>
   refine go ?_;refine WO.bl [x.b] ?_;intro v h3 e3 o3;refine go ?_;refine VO (ow2.ext e3) o3.sl (e2.trans e3) (by simp only[QX];omega) ?_;intro v4 h4 e4 o4;refine go ?_;exact zF ⟨e4,v4,U2,o4⟩
  |false=>
   refine go ?_;exact zF ⟨e2,_,U2,by simpa using ow2⟩
 rintro t3 h3 hs3 ⟨e3,w3,q3,ow3⟩;have o3:=o1.ext e3;have sa3:=sa1.ext e3;have l3:(lA++if(zZ x.op).2.1 then[x.b]else[]).length<=2:=by split<;>simp<;>omega
 rw[<-Qm];generalize(lA++if(zZ x.op).2.1 then[x.b]else[])=lB at *;refine go ?_;refine VA (zJ1 h3 x.op ho) ?_;rintro _ _ ⟨rfl,rfl⟩;refine go ?_;cases hG:(zZ x.op).2.2.2.1 with
 |true=>
  refine go ?_;refine VO ow3 sa3 e3 (by omega) ?_;intro v4 h4 e4 o4;refine gr ?_;exact⟨o4.since e1,e1.trans e4⟩
 |false=>
  refine gr ?_;exact⟨(by simpa using ow3.since e1:U3 h h3 w3 _),e1.trans e3⟩
theorem Yh(h:Uw)(v:Value)(l:List Int)(m:Int)(s:WF h v l)(hl:(l.length:Int)<=1000000):
  WC Tryz.prog tb 148 [v,I m] h fun r h'=>(∃ b,r=.bool b/\(b=true↔BL l m))/\h=h':=by
 refine en ?_;refine VD (fun i=>l.length-i) (fun i t h1=>h=h1/\zB t 5=I i/\i<=l.length/\∀ j,j<i->0<=l.getD j 0/\l.getD j 0<m) 0 ?_ ?_
 ·exact⟨rfl,U2,QL _,fun j hj=>absurd hj (Ql _)⟩
 rintro i t _ hsame ⟨rfl,s5,hi,hm⟩;refine go ?_;refine VE (fun hb=> ?_) (fun hb=> ?_)<;>simp only[DB]at hb
 ·have hi':i<l.length:=by omega
  by_cases hok:0<=l.getD i 0/\l.getD i 0<m
  ·refine go ?_;refine zA (i+1) (by omega) ⟨rfl,Wa,by omega,fun j hj=> ?_⟩;by_cases e:j=i
   ·subst e;exact hok
   ·exact hm j (by omega)
  ·have hno:¬BL l m:=fun hh=>hok (hh _ (zO hi'));by_cases h0:l.getD i 0<0
   ·refine gr ?_;exact⟨⟨_,rfl,by simp only[Wx];exact hno⟩,rfl⟩
   ·refine gr ?_;exact⟨⟨_,rfl,by simp only[Wx];exact hno⟩,rfl⟩
 ·refine gr ?_;refine⟨⟨_,rfl,?_⟩,rfl⟩;simp only[Wx];intro p hp;obtain⟨j,hj,rfl⟩:=Zg hp;exact hm j (by omega)
theorem zLr(h:Uw)(vt vf:Value)(T:List Ux)(F:List WH)(x:WQ)(cs:List Value)(st:Wl h vt T)(sf:WY h vf F)(hF:F.length<=1000)(hcs:Wn h cs x):
  WC Tryz.prog tb 149 [.agg #[vt,vf],.agg cs.toArray] h fun r h'=>(∃ b,r=.bool b/\(b=true↔zHu x F.length))/\Ext h h':=by
 obtain⟨va,vfr,rfl,sa,sfr,hla,hlf,ho,ho2⟩:=hcs;obtain⟨aa,an,ak,rfl⟩:=yX sa;obtain⟨fa,fn,fk,rfl⟩:=yX sfr;obtain⟨ta,tn,tk,rfl⟩:=zD st;obtain⟨ga,gn,gk,rfl⟩:=zD sf;refine en ?_;refine VF ?_;intro p h1 e1 o1;refine go ?_;refine VF ?_;intro q h2 e2 o2;have o1:=o1.ext e2;have e12:=e1.trans e2;have sf2:=WY.ext sf e12;unfold zHu;by_cases k1:x.op=1
 ·rw[QF k1];refine gr ?_;exact⟨⟨_,rfl,by simp⟩,e12⟩
 rw[QC k1];by_cases k3:x.op=3
 ·rw[QF (.inl k3)];skip;refine go ?_;repeat' (first|(refine VE (fun hb=> ?_) (fun hb=> ?_)<;>(try simp only[DB]at hb)<;>refine go ?_)|(refine VJ (fun hb=> ?_) (fun hb=> ?_)<;>(try simp only[DB]at hb)<;>refine go ?_))
  all_goals (refine rt ?_;exact⟨⟨_,rfl,by simp only[Wx];omega⟩,e12⟩)
 by_cases k18:x.op=18
 ·rw[QF (.inr k18)];skip;refine go ?_;repeat' (first|(refine VE (fun hb=> ?_) (fun hb=> ?_)<;>(try simp only[DB]at hb)<;>refine go ?_)|(refine VJ (fun hb=> ?_) (fun hb=> ?_)<;>(try simp only[DB]at hb)<;>refine go ?_))
  all_goals (refine rt ?_;exact⟨⟨_,rfl,by simp only[Wx];omega⟩,e12⟩)
 rw[QC (by omega)];by_cases k14:x.op=14
 ·rw[QF k14];skip;refine go ?_;repeat' (first|(refine VE (fun hb=> ?_) (fun hb=> ?_)<;>(try simp only[DB]at hb)<;>refine go ?_)|(refine VJ (fun hb=> ?_) (fun hb=> ?_)<;>(try simp only[DB]at hb)<;>refine go ?_))
  all_goals (refine rt ?_;exact⟨⟨_,rfl,by simp only[Wx];omega⟩,e12⟩)
 rw[QC k14];refine gr ?_;exact⟨⟨_,rfl,by simp only[Wx]⟩,e12⟩
theorem zIb(h:Uw)(vt vf:Value)(T:List Ux)(F:List WH)(x:WQ)(cs:List Value)(regs many:Int)(st:Wl h vt T)(sf:WY h vf F)(hT:T.length<=1000)(hF:F.length<=1000)(hcs:Wn h cs x)(hx:x.args.length<=20/\x.frm.length<=20):
  WC Tryz.prog tb 111 [.agg #[vt,vf],.agg cs.toArray,I regs,I many] h fun r h'=>r=.bool (Bb x ⟨T.length,F.length,regs,many⟩)/\Ext h h':=by
 obtain⟨va,vfr,rfl,sa,sfr,hla,hlf,ho,ho2⟩:=id hcs;obtain⟨aa,an,ak,rfl⟩:=yX sa;obtain⟨fa,fn,fk,rfl⟩:=yX sfr;obtain⟨ta,tn,tk,rfl⟩:=zD st;obtain⟨ga,gn,gk,rfl⟩:=zD sf;refine WC.mono (Q:=fun r h'=>(∃ b,r=.bool b/\(b=true↔MayI x ⟨T.length,F.length,regs,many⟩))/\Ext h h') ?_ ?_;case refine_2=>
  rintro _ _ ⟨⟨b,rfl,hb⟩,e⟩;exact⟨congrArg _ (by rw[GV,hb,zAy ho]),e⟩
 have hu:(yL x).length<=22:=by unfold yL;split<;>split<;>split<;>simp<;>omega
 refine en ?_;refine VF ?_;intro p h1 e1 o1;refine go ?_;refine VF ?_;intro q h2 e2 o2;have o1:=o1.ext e2;have e12:=e1.trans e2;by_cases k1:1<=x.op;case neg=>
  refine gr ?_;exact⟨⟨_,rfl,by simp only[Wx];exact fun m=>k1 m.op.1⟩,e12⟩
 by_cases k22:x.op<=22;case neg=>
  refine gr ?_;exact⟨⟨_,rfl,by simp only[Wx];exact fun m=>k22 m.op.2⟩,e12⟩
 refine go ?_;refine VA (zD9 h2 x _ (hcs.ext e12) hx.1) ?_;rintro u h3 ⟨ou,e3⟩;have o1:=o1.ext e3;have o2:=o2.ext e3;have e13:=e12.trans e3;refine go ?_;refine VA (Yh h3 u _ regs ou.sl (by omega)) ?_;rintro _ _ ⟨⟨b1,rfl,hb1⟩,rfl⟩;cases b1 with
 |false=>
  refine gr ?_;exact⟨⟨_,rfl,by simp only[Wx];exact fun m=>absurd (hb1.2 m.uses) Bool.noConfusion⟩,e13⟩
 |true=>
 have U:=U7.mk (hb1.1 rfl);clear hb1;refine go ?_;refine VA (zLr h3 _ _ T F x _ (st.ext e13) (WY.ext sf e13) hF (hcs.ext e13)) ?_;rintro _ h4 ⟨⟨b2,rfl,hb2⟩,e4⟩;have o1:=o1.ext e4;have o2:=o2.ext e4;have e14:=e13.trans e4;have sa4:=sa.ext e14;have sfr4:=sfr.ext e14;have st4:=st.ext e14;cases b2 with
 |false=>
  refine gr ?_;exact⟨⟨_,rfl,by simp only[Wx];exact fun m=>absurd (hb2.2 m.num) Bool.noConfusion⟩,e14⟩
 |true=>
 have V:=U7.mk (hb2.1 rfl);clear hb2 e1 e2 e12 e3 e13 e4 ou;refine go ?_;refine VA (zJa h4 x.op ho) ?_;rintro _ _ ⟨rfl,rfl⟩;refine VS 29 (fun t' h'=>h4=h'/\∃ b,zB t' 61=.bool b/\(b=false↔((zZ x.op).1=true\/x.a=0)/\((zZ x.op).2.1=true\/x.b=0)/\((zZ x.op).2.2.2.1=true\/(x.args.length:Int)<=0))) ?_ ?_<;>simp only[Qp,Q4,Q9,Q5]
 ·refine VS 6 (fun t' h'=>h4=h'/\∃ b,zB t' 38=.bool b/\(b=false↔((zZ x.op).1=true\/x.a=0))) ?_ ?_<;>simp only[Qp,Q4,Q9,Q5]
  ·cases hA:(zZ x.op).1 with
   |true=>
    refine go ?_;exact⟨rfl,rfl,rfl,_,U2,by simp⟩
   |false=>
    refine go ?_;exact⟨rfl,rfl,rfl,_,U2,by simp⟩
  rintro t5 _ hs5 ⟨rfl,b5,q38,hb5⟩;refine VS 11 (fun t' h'=>h4=h'/\∃ b,zB t' 49=.bool b/\(b=false↔((zZ x.op).1=true\/x.a=0)/\((zZ x.op).2.1=true\/x.b=0))) ?_ ?_<;>simp only[Qp,Q4,Q9,Q5]
  ·cases b5 with
   |true=>
    refine go ?_;exact⟨rfl,rfl,rfl,_,U2,by rw[<-hb5];simp⟩
   |false=>
    refine go ?_;refine VA (zLa h4 x.op ho) ?_;rintro _ _ ⟨rfl,rfl⟩;have h5:=hb5.1 rfl;cases hB:(zZ x.op).2.1 with
    |true=>
     refine go ?_;exact⟨rfl,rfl,rfl,_,U2,by simp[h5]⟩
    |false=>
     refine go ?_;exact⟨rfl,rfl,rfl,_,U2,by simp[h5]⟩
  rintro t6 _ hs6 ⟨rfl,b6,q49,hb6⟩;rw[<-and_assoc,<-hb6];cases b6 with
  |true=>
   refine go ?_;exact⟨rfl,rfl,rfl,_,U2,by simp⟩
  |false=>
   refine go ?_;refine VA (zJ1 h4 x.op ho) ?_;rintro _ _ ⟨rfl,rfl⟩;cases hG:(zZ x.op).2.2.2.1 with
   |true=>
    refine go ?_;exact⟨rfl,rfl,rfl,_,U2,by simp⟩
   |false=>
    refine go ?_;exact⟨rfl,rfl,rfl,_,U2,by simp only[Wx,true_and,QY,false_or];omega⟩
 rintro t5 _ hs5 ⟨rfl,b5,q61,hb5⟩;cases b5 with
 |true=>
  refine gr ?_;refine⟨⟨_,rfl,?_⟩,e14⟩;simp only[Wx];exact fun m=>absurd (hb5.2 ⟨m.a,m.b,m.g⟩) Bool.noConfusion
 |false=>
 have W:=U7.mk (hb5.1 rfl);clear hb5;refine go ?_;refine VA (zAW h4 x.op ho) ?_;rintro _ _ ⟨rfl,rfl⟩;refine VS 24 (fun t' h'=>h4=h'/\∃ b,zB t' 88=.bool b/\(b=false↔if(zZ x.op).2.2.2.2.2 then 0<=x.ty/\x.ty<(T.length:Int)else x.ty=0)) ?_ ?_<;>simp only[Qp,Q4,Q9,Q5]
 ·cases hS:(zZ x.op).2.2.2.2.2 with
  |true=>
   simp only[Q2];by_cases c1:x.ty<0
   ·refine go ?_;exact⟨rfl,rfl,rfl,_,U2,by simp only[Wx];omega⟩
   by_cases c2:(T.length:Int)<=x.ty
   ·refine go ?_;exact⟨rfl,rfl,rfl,_,U2,by simp only[Wx];omega⟩
   ·refine go ?_;refine VA (zAW h4 x.op ho) ?_;rintro _ _ ⟨rfl,rfl⟩;refine go ?_;exact⟨rfl,rfl,rfl,_,U2,by simp only[Wx];omega⟩
  |false=>
   simp only[QY,GX];refine go ?_;refine VA (zAW h4 x.op ho) ?_;rintro _ _ ⟨rfl,rfl⟩;refine go ?_;exact⟨rfl,rfl,rfl,_,U2,by simp⟩
 rintro t6 _ hs6 ⟨rfl,b6,q88,hb6⟩;cases b6 with
 |true=>
  refine gr ?_;refine⟨⟨_,rfl,?_⟩,e14⟩;simp only[Wx];exact fun m=>absurd (hb6.2 m.ans) Bool.noConfusion
 |false=>
 have X:=U7.mk (hb6.1 rfl);clear hb6;have hf:=(YP ho).2.2.2.2.1;have mk:∀ q:Bool,(q=true↔if(zZ x.op).2.2.2.2.1 then(x.frm.length:Int)=x.args.length/\1<=(x.frm.length:Int)/\(x.frm.length:Int)<=16/\BL x.frm many else(x.frm.length:Int)=0/\(x.args.length:Int)<=4)->(q=true↔MayI x ⟨T.length,F.length,regs,many⟩):=fun q hq=>by
  rw[hq];exact⟨fun h=>⟨⟨k1,k22⟩,U.out,V.out,W.out.1,W.out.2.1,W.out.2.2,X.out,h⟩,fun m=>m.frm⟩
 replace mk:=U7.mk mk;by_cases k:x.op=22
 ·rw[hf.2 k]at mk;simp only[Q2]at mk;by_cases c1:(x.frm.length:Int)=x.args.length;case neg=>
   refine gr ?_;exact⟨⟨_,rfl,mk.out _ (by simp only[Wx];exact fun h=>c1 h.1)⟩,e14⟩
  by_cases c2:1<=(x.frm.length:Int);case neg=>
   refine gr ?_;exact⟨⟨_,rfl,mk.out _ (by simp only[Wx];exact fun h=>c2 h.2.1)⟩,e14⟩
  by_cases c3:(x.frm.length:Int)<=16;case neg=>
   refine gr ?_;exact⟨⟨_,rfl,mk.out _ (by simp only[Wx];exact fun h=>c3 h.2.2.1)⟩,e14⟩
  refine go ?_;refine VA (Yh h4 _ x.frm many sfr4 (by omega)) ?_;rintro _ _ ⟨⟨b,rfl,hb⟩,rfl⟩;refine gr ?_;exact⟨⟨_,rfl,mk.out _ (by rw[hb];exact⟨fun h=>⟨c1,c2,c3,h⟩,fun h=>h.2.2.2⟩)⟩,e14⟩
 ·have hf0:(zZ x.op).2.2.2.2.1=false:=by cases hh:(zZ x.op).2.2.2.2.1 with
   |false=>rfl
   |true=>exact absurd (hf.1 hh) k
  rw[hf0]at mk;simp only[QY,GX]at mk;by_cases c1:(x.frm.length:Int)=0;case neg=>
   refine gr ?_;exact⟨⟨_,rfl,mk.out _ (by simp only[Wx];exact fun h=>c1 h.1)⟩,e14⟩
  refine gr ?_;exact⟨⟨_,rfl,mk.out _ (by simp only[Wx];omega)⟩,e14⟩
theorem zIm(h:Uw)(x:BM)(T F regs many:Int):
  WC Tryz.prog tb 112 [.agg #[.int .u8 x.kind,I x.a,I x.to,I x.els],I regs,I many] h fun r h'=>r=.bool (Bq x ⟨T,F,regs,many⟩)/\Ext h h':=by
 refine WC.mono (Q:=fun r h'=>(∃ b,r=.bool b/\(b=true↔(x.kind=1/\x.a=0/\x.els=0/\BL [x.to] many)\/(x.kind=2/\BL [x.a] regs/\BL [x.to,x.els] many)\/(x.kind=3/\x.to=0/\x.els=0/\BL [x.a] regs)))/\Ext h h') ?_ ?_;case refine_2=>
  rintro _ _ ⟨⟨b,rfl,hb⟩,e⟩;exact⟨congrArg _ (by rw[GV,hb,zG1]),e⟩
 refine en ?_;refine VF ?_;intro p h1 e1 o1;by_cases k1:x.kind=1
 ·by_cases c1:x.a=0;case neg=>
   refine gr ?_;exact⟨⟨_,rfl,by simp only[Wx];omega⟩,e1⟩
  by_cases c2:x.els=0;case neg=>
   refine gr ?_;exact⟨⟨_,rfl,by simp only[Wx];omega⟩,e1⟩
  refine go ?_;refine WO.bl [x.to] ?_;intro v h2 e2 o2;refine go ?_;refine VA (Yh h2 v _ many o2.sl (by simp)) ?_;rintro _ _ ⟨⟨b,rfl,hb⟩,rfl⟩;refine gr ?_;refine⟨⟨_,rfl,?_⟩,e1.trans e2⟩;rw[hb];simp[k1,c1,c2]
 by_cases k2:x.kind=2
 ·refine go ?_;refine WO.bl [x.a] ?_;intro v h2 e2 o2;have o1:=o1.ext e2;refine go ?_;refine VA (Yh h2 v _ regs o2.sl (by simp)) ?_;rintro _ _ ⟨⟨b,rfl,hb⟩,rfl⟩;cases b with
  |false=>
   have hn:¬BL [x.a] regs:=fun hh=>absurd (hb.2 hh) Bool.noConfusion;refine gr ?_;refine⟨⟨_,rfl,?_⟩,e1.trans e2⟩;simp[k2,hn]
  |true=>
   have hn:=hb.1 rfl;refine go ?_;refine WO.bl [x.to,x.els] ?_;intro v h3 e3 o3;refine go ?_;refine VA (Yh h3 v _ many o3.sl (by simp)) ?_;rintro _ _ ⟨⟨b,rfl,hb⟩,rfl⟩;refine gr ?_;refine⟨⟨_,rfl,?_⟩,(e1.trans e2).trans e3⟩;rw[hb];simp[k2,hn]
 by_cases k3:x.kind=3
 ·by_cases c1:x.to=0;case neg=>
   refine gr ?_;exact⟨⟨_,rfl,by simp only[Wx];omega⟩,e1⟩
  by_cases c2:x.els=0;case neg=>
   refine gr ?_;exact⟨⟨_,rfl,by simp only[Wx];omega⟩,e1⟩
  refine go ?_;refine WO.bl [x.a] ?_;intro v h2 e2 o2;refine go ?_;refine VA (Yh h2 v _ regs o2.sl (by simp)) ?_;rintro _ _ ⟨⟨b,rfl,hb⟩,rfl⟩;refine gr ?_;refine⟨⟨_,rfl,?_⟩,e1.trans e2⟩;rw[hb];simp[k3,c1,c2]
 ·refine gr ?_;exact⟨⟨_,rfl,by simp only[Wx];omega⟩,e1⟩
end Go.Proofs.YtfnndahpddkniaaGreatDoor
set_option maxRecDepth 100000
namespace Go.Proofs.YtfnndahpddkniaaGreatDoor
open Go.Am
theorem _root_.Go.Am.Ext.reg{h h':Uw}(e:Ext (inC (zC 0 h)) h'):Ext h (outC h (inC h')):=by
 have x:Ext h (outC h h'):=Ext.outC e;exact x
theorem zB6(h:Uw)(vt vf vb:Value)(T:List Ux)(F:List WH)(sig:Int)(st:Wl h vt T)(sf:WY h vf F)(hb:∃ a n k,vb=.slice a n k)(hs:0<=sig/\sig<(T.length:Int))(hp:(T.getD sig.toNat default).parts.length<=1000):
  WC Tryz.prog tb 72 [.agg #[vt,vf],.agg #[I sig,vb]] h fun r h'=>r=I ((T.getD sig.toNat default).parts.length:Int)/\Ext h h':=by
 obtain⟨ta,tn,tk,rfl⟩:=zD st;obtain⟨ga,gn,gk,rfl⟩:=zD sf;obtain⟨ba,bn,bk,rfl⟩:=hb;refine en ?_;refine VF ?_;intro p h1 e1 o1;refine go ?_;refine VF ?_;intro q h2 e2 o2;have o1:=o1.ext e2;have st2:=(st.ext e1).ext e2;obtain⟨cs,⟨va,rfl,sa,hla⟩,pc,hss⟩:=yN (i:=sig.toNat) st2 (by omega);refine gr ?_;exact⟨rfl,e1.trans e2⟩
theorem zEu(l:List WI){i:Nat}(h:i<l.length):zM (l.take (i+1))=zM (l.take i)+((l.getD i default).ins.length:Int):=by
 unfold zM;rw[Qv,QB h];simp only[GD,Gu,Option.toList_some,Q1,Ge,JH,List.sum_nil,List.getD,QB h,GA,Int.add_zero]
theorem zCE{l:List WI}(h:∀ b∈l,b.ins.length<=1000):0<=zM l/\zM l<=1000*l.length:=by
 unfold zM;induction l with
 |nil=>simp
 |cons b l ih=>
  have h1:=h b (by simp);have:=ih fun x hx=>h x (by simp[hx]);simp only[Q1,JH,GB];omega
theorem zCD(h:Uw)(v:Value)(l:List WI)(s:Wc h v l)(hl:l.length<=1000)(hi:∀ b∈l,b.ins.length<=1000):
  WC Tryz.prog tb 73 [v] h fun r h'=>r=I (zM l)/\h=h':=by
 refine en ?_;refine VD (fun i=>l.length-i) (fun i t h1=>h=h1/\zB t 4=I i/\i<=l.length/\zB t 3=I (zM (l.take i))) 0 ?_ ?_
 ·exact⟨rfl,U2,QL _,U2⟩
 rintro i t _ hsame ⟨rfl,s4,hin,s3⟩;have hbd:=zCE (l:=l.take i) fun b hb=>hi b (Qi hb);have htl:(l.take i).length<=i:=List.length_take_le _ _;refine go ?_;refine VE (fun hc=> ?_) (fun hc=> ?_)<;>simp only[DB]at hc
 ·have hi':i<l.length:=by omega
  obtain⟨cs,⟨vi,rfl,si,hli⟩,pc,hs⟩:=zi s hi';have hmt:=zEu l hi';have hin2:=hi _ (zG (l:=l) hi');refine go ?_;exact zA (i+1) (by omega) ⟨rfl,Wa,by omega,by rw[hmt];exact U2⟩
 ·have hii:i=l.length:=by omega
  subst hii;rw[Qg]at s3;refine gr ?_;exact⟨rfl,rfl⟩
theorem zG4(h:Uw)(vt vf:Value)(T:List Ux)(F:List WH)(f:WH)(cs:List Value)(sm:Wr T F)(si:zEp F)(hf:f∈F)(hm:h.mark<=h.n)(st:Wl h vt T)(sf:WY h vf F)(hcs:RFn h cs f):
  WC Tryz.prog tb 87 [.agg #[vt,vf],.agg cs.toArray] h fun r h'=>r=.bool (BC T F.length f)/\Ext h h':=by
 obtain⟨vb,rfl,sb,hlb⟩:=hcs;obtain⟨ta,tn,tk,rfl⟩:=zD st;obtain⟨ga,gn,gk,rfl⟩:=zD sf;obtain⟨ba,bn,bk,rfl⟩:=zD sb;have hT:=sm.types;have hF:=sm.funcs;have hB:=sm.blocks f hf;have hI:=sm.ins f hf;have hX:=si f hf;have hmany:=zCE hI;refine en ?_;refine VF ?_;intro p h1 e1 o1;refine go ?_;refine VF ?_;intro q h2 e2 o2;have o1:=o1.ext e2;have e12:=e1.trans e2;have st2:=st.ext e12;have sf2:=WY.ext sf e12;have sb2:=Wc.ext sb e12;have hm2:=zp e12 hm;have bad:Bo T f=true->BC T F.length f=false:=fun h=>by unfold BC;rw[QF h]
 have badI:Bo T f=true↔¬((0<=f.sig/\f.sig<(T.length:Int))/\(T.getD f.sig.toNat default).kind=3/\(1<=(f.blocks.length:Int)/\(f.blocks.length:Int)<=16)/\zM f.blocks<=128):=by
  unfold Bo zY;simp only[GE,Gk,Bool.and_eq_false_iff,Gf,Qc];omega
 by_cases c1:0<=f.sig;case neg=>
  refine gr ?_;exact⟨by rw[bad (badI.2 fun h=>c1 h.1.1)];rfl,e12⟩
 by_cases c2:f.sig<(T.length:Int);case neg=>
  refine gr ?_;exact⟨by rw[bad (badI.2 fun h=>c2 h.1.2)];rfl,e12⟩
 have hpart:=sm.parts _ (zG (l:=T) (i:=f.sig.toNat) (by omega));obtain⟨csT,⟨vp,rfl,sp,hlp⟩,pcT,hsT⟩:=yN (i:=f.sig.toNat) st2 (by omega);by_cases c3:(T.getD f.sig.toNat default).kind=3;case neg=>
  refine gr ?_;exact⟨by rw[bad (badI.2 fun h=>c3 h.2.1)];simp[one,c3],e12⟩
 by_cases c4:1<=(f.blocks.length:Int);case neg=>
  refine gr ?_;exact⟨by rw[bad (badI.2 fun h=>c4 h.2.2.1.1)];rfl,e12⟩
 by_cases c5:(f.blocks.length:Int)<=16;case neg=>
  refine gr ?_;exact⟨by rw[bad (badI.2 fun h=>c5 h.2.2.1.2)];rfl,e12⟩
 refine go ?_;refine VA (zCD h2 _ f.blocks sb2 hB hI) ?_;rintro _ _ ⟨rfl,rfl⟩;by_cases c6:zM f.blocks<=128;case neg=>
  refine gr ?_;exact⟨by rw[bad (badI.2 fun h=>c6 h.2.2.2)];rfl,e12⟩
 have hbadF:Bo T f=false:=by
  cases hh:Bo T f with
  |false=>rfl
  |true=>exact absurd ⟨⟨c1,c2⟩,c3,⟨c4,c5⟩,c6⟩ (badI.1 hh)
 have hfn:BC T F.length f= !(f.blocks.any fun b=>YW b (Bi T F.length f)):=by unfold BC;rw[hbadF];rfl
 rw[hfn];clear bad badI hbadF hfn;refine go ?_;refine VC 0 rfl rfl ?_;have o1X:Uy h (inC (zC 0 h2)) p [_,_]:=o1;have o2X:Uy h1 (inC (zC 0 h2)) q [_,_]:=o2;have stX:Wl (inC (zC 0 h2)) _ T:=st2;have sfX:WY (inC (zC 0 h2)) _ F:=sf2;have sbX:Wc (inC (zC 0 h2)) _ f.blocks:=sb2;refine U9 ?_;refine VA (zB6 (inC (zC 0 h2)) _ _ _ T F f.sig stX sfX ⟨_,_,_,rfl⟩ ⟨c1,c2⟩ (by omega)) ?_;rintro _ h3 ⟨rfl,e3⟩;refine nE e3 ?_;have o2Y:Uy h1 (inC h3) q [I f.sig,.slice ba bn bk]:=by have:=o2X.ext e3;exact this
 have sbY:Wc (inC h3) (.slice ba bn bk) f.blocks:=by have:=Wc.ext sbX e3;exact this
 refine U9 ?_;refine zCT o2 (QE _) ?_;refine U9 ?_;refine VA (zCD (inC h3) _ f.blocks sbY hB hI) ?_;rintro _ _ ⟨rfl,rfl⟩;refine nQ ?_;refine U9 ?_;have e5:Ext h2 (outC h2 (inC h3)):=e3.reg;obtain⟨h5,hh5⟩:∃ h5,h5=outC h2 (inC h3):=⟨_,rfl⟩;rw[<-hh5]at e5;rw[<-hh5];clear o1X o2X stX sfX sbX o2Y sbY e3 hh5;have o1:=o1.ext e5;have o2:=o2.ext e5;have e15:=e12.trans e5;have st5:=st2.ext e5;have sf5:=WY.ext sf2 e5;have sb5:=Wc.ext sb2 e5;have hsz:Bi T F.length f=⟨T.length,F.length,((T.getD f.sig.toNat default).parts.length:Int)+zM f.blocks,f.blocks.length⟩:=rfl;rw[hsz];clear hsz pcT sp e12 e1 e2;generalize((T.getD f.sig.toNat default).parts.length:Int)+zM f.blocks=regs at *;obtain⟨s,hs⟩:∃ s:Ba,s=⟨T.length,F.length,regs,f.blocks.length⟩:=⟨_,rfl⟩;rw[<-hs];refine go ?_;refine VD (fun i=>f.blocks.length-i) (fun i t h6=>Ext h5 h6/\zB t 6=I i/\i<=f.blocks.length/\U7 (∀ j,j<i->YW (f.blocks.getD j default) s=false)) 0 ?_ ?_
 ·exact⟨Ext.refl _,U2,QL _,⟨fun j hj=>absurd hj (Ql _)⟩⟩
 rintro i t h6 hsame ⟨e6,s6,hi,hall⟩;have o1:=o1.ext e6;have o2:=o2.ext e6;have e16:=e15.trans e6;have st6:=st5.ext e6;have sf6:=WY.ext sf5 e6;have sb6:=Wc.ext sb5 e6;refine go ?_;refine VE (fun hc=> ?_) (fun hc=> ?_)<;>simp only[DB]at hc;case refine_2=>
  have hany:(f.blocks.any fun b=>YW b s)=false:=YI fun b hb=>by
   obtain⟨j,hj,rfl⟩:=ZW hb;exact hall.out j (by omega)
  refine gr ?_;exact⟨by rw[hany];rfl,e16⟩
 have hi':i<f.blocks.length:=by omega
 obtain⟨csB,⟨vi,rfl,sn,hln⟩,pcB,hsB⟩:=zi sb6 hi';have hmemB:=zG (l:=f.blocks) hi';have hIB:=hI _ hmemB;have hXB:=hX _ hmemB;have bad:YW (f.blocks.getD i default) s=true->(!f.blocks.any fun b=>YW b s)=false:=fun hb=>by
  rw[Gx.2 ⟨_,hmemB,hb⟩];rfl
 generalize hB0:f.blocks.getD i default=B at *;refine go ?_;refine VD (fun k=>B.ins.length-k) (fun k t h7=>Ext h6 h7/\zB t 7=I k/\k<=B.ins.length/\U7 (∀ j,j<k->Bb (B.ins.getD j default) s=true)) 0 ?_ ?_
 ·exact⟨Ext.refl _,U2,QL _,⟨fun j hj=>absurd hj (Ql _)⟩⟩
 rintro k t2 h7 hsame2 ⟨e7,s7,hk,hallk⟩;have o1:=o1.ext e7;have o2:=o2.ext e7;have e17:=e16.trans e7;have st7:=st6.ext e7;have sf7:=WY.ext sf6 e7;have sb7:=Wc.ext sb6 e7;obtain⟨csB,hcsB,pcB,hsB⟩:=zi sb7 hi';rw[hB0]at hcsB;obtain⟨vi,rfl,sn,hln⟩:=hcsB;refine go ?_;refine VE (fun hd=> ?_) (fun hd=> ?_)<;>simp only[DB]at hd
 ·have hk':k<B.ins.length:=by omega
  have hmemI:=zG (l:=B.ins) hk';obtain⟨csI,hcsI,pcI,hsI⟩:=zi sn hk';obtain⟨va,vfr,rfl,sa,sfr,hla,hlf,ho,ho2⟩:=id hcsI;refine go ?_;refine VC 0 rfl rfl ?_;have o1X:Uy h (inC (zC 0 h7)) p [_,_]:=o1;have o2X:Uy h1 (inC (zC 0 h7)) q [_,_]:=o2;have stX:Wl (inC (zC 0 h7)) _ T:=st7;have sfX:WY (inC (zC 0 h7)) _ F:=sf7;have sbX:Wc (inC (zC 0 h7)) _ f.blocks:=sb7;obtain⟨csX,hcsX,pcX,hsX⟩:=zi sbX hi';rw[hB0]at hcsX;obtain⟨viX,rfl,snX,hlnX⟩:=hcsX;obtain⟨csIX,riX,pcIX,hsIX⟩:=zi snX hk';obtain⟨vaX,vfrX,rfl,saX,sfrX,_,_,_,_⟩:=id riX;obtain⟨xa,xn,xk,rfl⟩:=yX saX;obtain⟨ya,yn,yk,rfl⟩:=yX sfrX;refine U9 ?_;refine VA (zIb (inC (zC 0 h7)) _ _ T F (B.ins.getD k default) _ regs f.blocks.length stX sfX (by omega) (by omega) riX (hXB _ hmemI)) ?_;rintro _ h8 ⟨rfl,e8⟩;refine nE e8 ?_;refine U9 ?_;have e9:Ext h7 (outC h7 (inC h8)):=e8.reg;obtain⟨h9,hh9⟩:∃ h9,h9=outC h7 (inC h8):=⟨_,rfl⟩;rw[<-hh9]at e9;rw[<-hh9];rw[<-hs];clear o1X o2X stX sfX sbX pcX snX pcIX riX e8 hh9 saX sfrX;cases hins:Bb (B.ins.getD k default) s with
  |false=>
   refine gr ?_;refine⟨?_,e17.trans e9⟩;rw[bad (by unfold YW;rw[Gx.2 ⟨_,hmemI,by rw[hins];rfl⟩];rfl)];rfl
  |true=>
   refine go ?_;refine zA (k+1) (by omega) ⟨e7.trans e9,Wa,by omega,⟨fun j hj=> ?_⟩⟩;by_cases e:j=k
   ·subst e;exact hins
   ·exact hallk.out j (by omega)
 ·have hanyI:(B.ins.any fun x=> !Bb x s)=false:=YI fun x hx=>by
   obtain⟨j,hj,rfl⟩:=ZW hx;rw[hallk.out j (by omega)];rfl
  refine go ?_;refine VC 0 rfl rfl ?_;have o2X:Uy h1 (inC (zC 0 h7)) q [_,_]:=o2;have sbX:Wc (inC (zC 0 h7)) _ f.blocks:=sb7;obtain⟨csX,hcsX,pcX,hsX⟩:=zi sbX hi';rw[hB0]at hcsX;obtain⟨viX,rfl,snX,hlnX⟩:=hcsX;obtain⟨xa,xn,xk,rfl⟩:=zD snX;refine U9 ?_;refine VA (zIm (inC (zC 0 h7)) B.fin T.length F.length regs f.blocks.length) ?_;rintro _ h8 ⟨rfl,e8⟩;refine nE e8 ?_;refine U9 ?_;have e9:Ext h7 (outC h7 (inC h8)):=e8.reg;obtain⟨h9,hh9⟩:∃ h9,h9=outC h7 (inC h8):=⟨_,rfl⟩;rw[<-hh9]at e9;rw[<-hh9];rw[<-hs];clear o2X sbX pcX snX e8 hh9;cases hend:Bq B.fin s with
  |false=>
   refine gr ?_;refine⟨?_,e17.trans e9⟩;rw[bad (by unfold YW;rw[hend,hanyI];rfl)];rfl
  |true=>
   refine go ?_;refine zA (i+1) (by omega) ⟨(e6.trans e7).trans e9,Wa,by omega,⟨fun j hj=> ?_⟩⟩;by_cases e:j=i
   ·subst e;rw[hB0];unfold YW;rw[hend,hanyI];rfl
   ·exact hall.out j (by omega)
end Go.Proofs.YtfnndahpddkniaaGreatDoor
