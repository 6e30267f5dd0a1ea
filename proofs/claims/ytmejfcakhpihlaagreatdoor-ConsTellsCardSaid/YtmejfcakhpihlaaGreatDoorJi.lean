/- Walks of functions, plain laws; proves no statement. -/
import Derived.Test.YtmejfcakhpihlaaGreatDoorJh
set_option linter.all false
set_option maxHeartbeats 2000000
set_option maxRecDepth 100000
namespace Go.Proofs.YtmejfcakhpihlaaGreatDoor
open Go.Am
section
variable {P:Program}{tab:Wy}{t:WG Value}{ds:List Deferred}{rd:Option Nat}{h:WA}{Q:WR->WA->Prop}{l:List WF}{d:Nat}{ty:TypeId}{x:Operand}{v r:Value}
theorem WO.as{ok:Bool}(hr:zEK P ty ok v=some r)(k:WO P tab l ⟨t.set d r,ds,rd⟩ h Q)(hx:WM t x v:=by exact zQ):WO P tab (⟨some d,none,.assert ty ok x⟩::l) ⟨t,ds,rd⟩ h Q:=
 WO.op _ _ rfl (by unfold WM at *;simp only[WN,hx,hr,QJ]) k
theorem UR(hr:zEH P ty v=some r)(k:WO P tab l ⟨t.set d r,ds,rd⟩ h Q)(hx:WM t x v:=by exact zQ):WO P tab (⟨some d,none,.typeOf ty x⟩::l) ⟨t,ds,rd⟩ h Q:=
 WO.op _ _ rfl (by unfold WM at *;simp only[WN,hx,hr,QJ]) k
theorem Uz{f:FuncId}{name:String}{u:Value}(hm:zBv P ty name=some f)(k:WC P tab f [u] h fun v h'=>WO P tab l ⟨t.set d v,ds,rd⟩ h' Q)(hx:WM t x (.iface ty u):=by exact zQ):WO P tab (⟨some d,none,.invoke x name []⟩::l) ⟨t,ds,rd⟩ h Q:=
 WO.invoke hx hm rfl k
theorem Uj{G rt:Nat}{b:Bool}(hb:Yr P G rt ty=some b)(k:WO P tab l ⟨t.set d (.bool b),ds,rd⟩ h Q)(hx:WM t x (zGU G rt ty):=by exact zQ):WO P tab (⟨some d,none,.invoke x "Comparable" []⟩::l) ⟨t,ds,rd⟩ h Q:=
 XF hx hb k
end
abbrev tyE:Nat:=29
abbrev zLX:Value:= .iface tyE (I 120)
theorem zJc(h:WA)(f b:Int):WC Tryz.prog tb 276 [.agg #[I f,I b,I 120]] h fun r h'=>r=zLX/\Ext h h':=by
 refine en ?_;refine VF ?_;intro p h1 e1 o1;replace o1:WB h h1 p [I f,I b,I 120]:=o1;refine go ?_;refine VV ?_;refine gr ?_;exact⟨rfl,e1⟩
theorem zQb(h:WA)(f b:Int):WC Tryz.prog tb 79 [Bz f b,zLX,.bool true] h fun r h'=>r=.bool true/\Ext h h':=by
 refine en ?_;refine VD (fun i=>2-i) (fun i t h'=>Ext h h'/\((i=0/\zC t 0=Bz f b)\/(i=1/\zC t 0=zLX))) 0 ?_ ?_
 ·exact⟨Ext.refl _,.inl ⟨rfl,WH⟩⟩
 rintro i t h1 ab ⟨e1,⟨rfl,s0⟩|⟨rfl,s0⟩⟩
 ·unfold Bz at s0;refine go ?_;refine Vt (v:= .bool false) (by kernel_rfl) ?_;refine go ?_;refine WO.as (r:= .tuple #[.nilIface,.bool false]) (by kernel_rfl) ?_;refine go ?_;refine WO.as (r:= .tuple #[.iface tyF (.agg #[I f,I b,I 120]),.bool true]) (by kernel_rfl) ?_;refine go ?_;refine Uz (f:=276) (by kernel_rfl) ?_;refine WC.mono (zJc h1 f b) ?_;rintro _ h2 ⟨rfl,e2⟩;refine go ?_;simp only[Gb,Qa];refine go ?_;exact zA 1 (by omega) ⟨e1.trans e2,.inr ⟨rfl,WH⟩⟩
 ·refine go ?_;refine Vt (v:= .bool true) (by kernel_rfl) ?_;refine gr ?_;exact⟨rfl,e1⟩
theorem zQR(h:WA)(f b:Int):WC Tryz.prog tb 39 [Bz f b,zLX] h fun r h'=>r=.bool true/\Ext h h':=by
 unfold Bz;refine en ?_;simp only[Gb,Qa];refine go ?_;simp only[Gb,Qa];refine go ?_;refine UR (v:=zLX) rfl ?_;refine go ?_;refine Uj (b:=true) (by kernel_rfl) ?_;refine go ?_;have hk:=zQb h f b;unfold Bz at hk;refine VA hk ?_;rintro _ h2 ⟨rfl,e2⟩;refine gr ?_;exact⟨rfl,e2⟩
theorem zOm(h:WA):WC Tryz.prog tb 39 [.nilIface,zLX] h fun r h'=>r=.bool false/\h=h':=by
 refine en ?_;simp only[Gb,Qa];refine go ?_;refine Vt (v:= .bool false) (by kernel_rfl) ?_;refine gr ?_;exact⟨rfl,rfl⟩
noncomputable def z8(T:List WE)(F:List Wa):Int:=open Classical in if ZE T F≠0 then ZE T F else if WfP T F then 0 else 120
theorem zKw(h:WA)(vt vf:Value)(T:List WE)(F:List Wa)(E:Env h vt vf T F):
  WC Tryz.prog tb 16 [.agg #[vt,vf]] h fun r h'=>r=I (z8 T F)/\Ext h h':=by
 unfold z8;have hF:=E.sm.funcs;refine en ?_;refine VF ?_;intro p1 h1 e1 o1;replace o1:WB h h1 p1 [vt,vf]:=o1;have E1:=E.ext e1;refine go ?_;refine VA (zKf h1 vt vf T F E1.tt E1.hm E1.sm E1.st E1.sf) ?_;rintro _ h2 ⟨rfl,e2⟩;have o2:=o1.ext e2;have E2:=E1.ext e2;have cW:=E2.sf;by_cases hp:ZE T F=0;case neg=>
  rw[QF hp];refine gr ?_;exact⟨rfl,e1.trans e2⟩
 rw[QC (fun e=>e hp),hp];refine go ?_;refine VD (fun i=>F.length-i) (fun i t h'=>Ext h2 h'/\zC t 14=I i/\i<=F.length/\WK (∀ f:Int,0<=f->f<(i:Int)->zHl T F f)) 0 ?_ ?_
 ·exact⟨Ext.refl _,WH,QK _,⟨fun f f0 f1=>by omega⟩⟩
 rintro i t h3 ab ⟨e3,O5,hi,hI⟩;have o3:=o2.ext e3;have aN:=e1.trans (e2.trans e3);refine go ?_;refine VE (fun hb=> ?_) (fun hb=> ?_)<;>simp only[DB]at hb
 ·have ae:i<F.length:=by omega
  refine go ?_;refine VA (zHC h3 vt vf T F i (E2.ext e3) hp ⟨by omega,by omega⟩) ?_;rintro q h4 ⟨⟨rfl,hq⟩|⟨⟨b,rfl⟩,hq⟩,e4⟩
  ·refine go ?_;refine VV ?_;refine go ?_;refine VA (zOm h4) ?_;rintro _ _ ⟨rfl,rfl⟩;refine go ?_;refine zA (i+1) (by omega) ⟨e3.trans e4,Wn,by omega,⟨fun f f0 f1=> ?_⟩⟩;by_cases fI:f=i
   ·subst fI;exact hq
   ·exact hI.out f f0 (by omega)
  ·refine go ?_;refine VV ?_;refine go ?_;refine VA (zQR h4 i b) ?_;rintro _ h5 ⟨rfl,e5⟩;refine gr ?_;refine⟨?_,aN.trans (e4.trans e5)⟩;rw[QC (fun w=>hq (w i (by omega) (by omega)))];rfl
 ·have aK:i=F.length:=by omega
  refine gr ?_;refine⟨?_,aN⟩;rw[QF (show WfP T F from fun f f0 f1=>hI.out f f0 (by omega))];rfl
theorem z9{T:List WE}{F:List Wa}(h:z8 T F=0):ZE T F=0/\WfP T F:=by
 unfold z8 at h;split at h
 ·rename_i hp;exact absurd h hp
 ·rename_i hp;split at h
  ·rename_i hw;exact⟨Classical.not_not.1 hp,hw⟩
  ·cases h
theorem Y3{α:Type}{a b:List α}{i:Nat}{d:α}(h:i<a.length):(a++b).getD i d=a.getD i d:=by
 rw[QG,QG,Qy h]
theorem Yj{α:Type}{a b:List α}{i:Nat}{d:α}(h:a.length<=i):(a++b).getD i d=b.getD (i-a.length) d:=by
 rw[QG,QG,GD h]
theorem YJ{α β:Type}{l:List α}{i:Nat}{f:α->β}{a:α}{b:β}(h:i<l.length):(l.map f).getD i b=f (l.getD i a):=by
 rw[QG,QG,GQ,QB h];rfl
theorem zCq(b:Wc)(L:List Wc):∀ n,yr (b::L) (n+1)=((List.range b.ins.length).map fun(i:Nat)=>((0:Int),(i:Int)))++(yr L n).map fun p=>(p.1+1,p.2)
 |0=>by simp[yr]
 |n+1=>by
  show yr (b::L) (n+1)++(List.range (L.getD n default).ins.length).map (fun(i:Nat)=>(((n+1:Nat):Int),(i:Int)))=_++(yr L n++(List.range (L.getD n default).ins.length).map fun(i:Nat)=>((n:Int),(i:Int))).map (fun p=>(p.1+1,p.2));rw[zCq b L n,Qx,List.map_map,QT];rfl
theorem zJS(L:List Wc):((yr L L.length).length:Int)=zJ L:=by
 rw[<-zDT L _ (QE _),Qg,zE3]
theorem zCg:∀ (L:List Wc) (k:Int),0<=k->k<zJ L->(yr L L.length).getD k.toNat default=yF L k
 |[],k,h0,h1=>by have h1:k<0:=h1;omega
 |b::L,k,h0,h1=>by
  rw[GF,zCq];rw[Zj]at h1;unfold yF;by_cases hk:k<b.ins.length
  ·rw[QC (by omega),Y3 (by rw[Qi,G5];omega),YJ (a:=0) (by rw[G5];omega)];rw[QG,List.getElem?_range (by omega)];show((0:Int),((k.toNat:Nat):Int))=_;rw[show((k.toNat:Nat):Int)=k by omega]
  ·rw[QF (by omega),Yj (by rw[Qi,G5];omega),Qi,G5];have hl:=zJS L;rw[YJ (a:=default) (by omega),show k.toNat-b.ins.length=(k-b.ins.length).toNat by omega,zCg L _ (by omega) (by omega)]
theorem zDu:∀ (L:List Wc) (k:Int),0<=k->k<zJ L->(ZK L).getD k.toNat 0=Ys ((L.getD (yF L k).1.toNat default).ins.getD (yF L k).2.toNat default)
 |[],k,h0,h1=>by have h1:k<0:=h1;omega
 |b::L,k,h0,h1=>by
  have hc:ZK (b::L)=b.ins.map Ys++ZK L:=by unfold ZK;rw[List.flatMap_cons]
  rw[hc];rw[Zj]at h1;unfold yF;by_cases hk:k<b.ins.length
  ·rw[QC (by omega),Y3 (by rw[Qi];omega),YJ (a:=default) (by omega)];rfl
  ·rw[QF (by omega),Yj (by rw[Qi];omega),Qi,show k.toNat-b.ins.length=(k-b.ins.length).toNat by omega,zDu L _ (by omega) (by omega)];have:=(zB1 (l:=L) (a:=k-b.ins.length) (by omega) (by omega)).1;show _=Ys (((b::L).getD ((yF L (k-b.ins.length)).1+1).toNat default).ins.getD _ default);rw[show((yF L (k-b.ins.length)).1+1).toNat=(yF L (k-b.ins.length)).1.toNat+1 by omega,List.getD_cons_succ]
theorem zQB{T:List WE}{F:List Wa}{f r:Int}(h0:0<=r)(h1:r<B1 ((zj T F f).parts.length:Int) (zF F f)):
  (Bv T F f).getD r.toNat default=if r<((zj T F f).parts.length:Int)then(-1,-1)else yF (zF F f) (r-((zj T F f).parts.length:Int)):=by
 unfold Bv zEM;unfold B1 at h1;split
 ·rename_i h;rw[Y3 (by rw[G2];omega),zNM (by omega)]
 ·rename_i h;rw[Yj (by rw[G2];omega),G2,show r.toNat-(zj T F f).parts.length=(r-((zj T F f).parts.length:Int)).toNat by omega,zCg _ _ (by omega) (by omega)]
theorem zQd{T:List WE}{F:List Wa}{f r:Int}(h0:0<=r)(h1:r<B1 ((zj T F f).parts.length:Int) (zF F f)):
  (W6 T F f).getD r.toNat 0=if r<((zj T F f).parts.length:Int)then(zj T F f).parts.getD r.toNat 0 else Ys (((zF F f).getD (yF (zF F f) (r-((zj T F f).parts.length:Int))).1.toNat default).ins.getD (yF (zF F f) (r-((zj T F f).parts.length:Int))).2.toNat default):=by
 unfold W6 zCR;unfold B1 at h1;split
 ·rename_i h;rw[Y3 (by omega)]
 ·rename_i h;rw[Yj (by omega),show r.toNat-(zj T F f).parts.length=(r-((zj T F f).parts.length:Int)).toNat by omega,zDu _ _ (by omega) (by omega)]
theorem zKz{T:List WE}{F:List Wa}{f r:Int}(hp:ZE T F=0):ZH T F f r=if f<0\/(F.length:Int)<=f\/r<0\/B1 ((zj T F f).parts.length:Int) (zF F f)<=r then(0,0,2)else
  if r<((zj T F f).parts.length:Int)then(-1,r,0)else((yF (zF F f) (r-((zj T F f).parts.length:Int))).1,(yF (zF F f) (r-((zj T F f).parts.length:Int))).2,0):=by
 unfold ZH;by_cases hf:0<=f/\f<(F.length:Int)
 ·have cO:yL T F f=(((zj T F f).parts.length:Int),0):=by
   unfold yL;rw[QC (fun e=>e hp),QF (by unfold zd;simp;omega)];rfl
  rw[cO];rw[QC (fun e=>e rfl)];show(if r<0\/((zj T F f).parts.length:Int)+zJ (F.getD f.toNat default).blocks<=r then(0,0,2)else if r<((zj T F f).parts.length:Int)then(-1,r,0)else((yF (zF F f) (r-((zj T F f).parts.length:Int))).1,(yF (zF F f) (r-((zj T F f).parts.length:Int))).2,0))=_;by_cases h1:r<0\/((zj T F f).parts.length:Int)+zJ (F.getD f.toNat default).blocks<=r
  ·rw[QF h1,QF (by unfold B1 zF;omega)]
  ·rw[QC h1,QC (c:=f<0\/_) (by unfold B1 zF;omega)]
 ·have cO:yL T F f=(0,2):=by
   unfold yL;rw[QC (fun e=>e hp),QC (by unfold zd;simp;omega)]
  rw[cO,QF (by decide),QF (by omega)]
theorem zOT{T:List WE}{F:List Wa}{f r block at':Int}(hp:ZE T F=0)(Z:FnIn T F f)(h0:0<=r)(h1:r<B1 ((zj T F f).parts.length:Int) (zF F f))(hb:0<=block/\block<((zF F f).length:Int)):
  (ZH T F f r).2.2=0/\(zPp T F f r block at'↔zCX (Wr (zF F f)) ((Bv T F f).getD r.toNat default) block at'):=by
 have hf:=Z.hf;have fe:nxF T F f=Wr (zF F f):=by unfold nxF;rw[Z.bl 0 (Ql 0) (by have:=Z.n1;omega)]
 have bD:=zKz (f:=f) (r:=r) hp;rw[QC (by omega)]at bD;unfold zPp zCX;rw[bD,zQB h0 h1,fe];by_cases c:r<((zj T F f).parts.length:Int)
 ·rw[QF c,QF c];refine⟨rfl,?_⟩;rw[QC (by show ¬(-1:Int)=block;omega)];simp
 ·rw[QC c,QC c];refine⟨rfl,?_⟩;unfold B1 at h1;have hw:=zB1 (l:=zF F f) (a:=r-((zj T F f).parts.length:Int)) (by omega) (by omega);have aq:(yF (zF F f) (r-((zj T F f).parts.length:Int))).1≠ -1:=by omega
  by_cases d:(yF (zF F f) (r-((zj T F f).parts.length:Int))).1=block
  ·rw[QF d];exact⟨fun h=>h.elim (fun h=>absurd h aq) fun h=>h.elim (fun h=>h.2) fun h=>absurd d h.2.1,fun h=> .inr (.inl ⟨d,h⟩)⟩
  ·rw[QC d];exact⟨fun h=>h.elim (fun h=>absurd h aq) fun h=>h.elim (fun h=>absurd h.1 d) fun h=> .inr h.2.2,fun h=>h.elim (fun h=>absurd h aq) fun h=> .inr (.inr ⟨aq,d,h⟩)⟩
end Go.Proofs.YtmejfcakhpihlaaGreatDoor
set_option maxRecDepth 100000
namespace Go.Proofs.YtmejfcakhpihlaaGreatDoor
open Go.Am
end Go.Proofs.YtmejfcakhpihlaaGreatDoor
set_option maxRecDepth 100000
namespace Go.Proofs.YtmejfcakhpihlaaGreatDoor
open Go.Am
theorem zDb(h:WA)(vt:Value)(T:List WE)(k:Int)(st:Wu h vt T)(hT:(T.length:Int)<=1000):
  WC Tryz.prog tb 226 [vt,I k] h fun r h'=>(∃ b,r=.bool b/\(b=true↔PlT T k))/\h=h':=by
 refine en ?_;by_cases h0:0<=k;case neg=>
  refine gr ?_;exact⟨⟨_,rfl,by unfold PlT;simp only[BF];omega⟩,rfl⟩
 by_cases h1:k<(T.length:Int);case neg=>
  refine gr ?_;exact⟨⟨_,rfl,by unfold PlT;simp only[BF];omega⟩,rfl⟩
 obtain⟨cs,⟨va,rfl,sa,br⟩,pc,hs⟩:=yM (i:=k.toNat) st (by omega);refine go ?_;repeat' (first|(refine VE (fun hb=> ?_) (fun hb=> ?_)<;>(try simp only[DB]at hb)<;>refine go ?_)|(refine VJ (fun hb=> ?_) (fun hb=> ?_)<;>(try simp only[DB]at hb)<;>refine go ?_))
 all_goals (refine rt ?_;exact⟨⟨_,rfl,by unfold PlT;simp only[BF];omega⟩,rfl⟩)
theorem zLM(h:WA)(v:Value)(l:List Int)(m:Int)(s:WQ h v l)(hl:(l.length:Int)<=1000000):
  WC Tryz.prog tb 197 [v,I m] h fun r h'=>(∃ b,r=.bool b/\(b=true↔∀ p∈l,0<=p/\p<m))/\h=h':=by
 refine en ?_;refine VD (fun i=>l.length-i) (fun i t h1=>h=h1/\zC t 5=I i/\i<=l.length/\∀ j,j<i->0<=l.getD j 0/\l.getD j 0<m) 0 ?_ ?_
 ·exact⟨rfl,WH,QK _,fun j hj=>absurd hj (Qk _)⟩
 rintro i t _ ab ⟨rfl,s5,hi,hm⟩;refine go ?_;refine VE (fun hb=> ?_) (fun hb=> ?_)<;>simp only[DB]at hb
 ·have ae:i<l.length:=by omega
  by_cases a8:0<=l.getD i 0/\l.getD i 0<m
  ·refine go ?_;refine zA (i+1) (by omega) ⟨rfl,Wn,by omega,fun j hj=> ?_⟩;by_cases e:j=i
   ·subst e;exact a8
   ·exact hm j (by omega)
  ·have bW:¬∀ p∈l,0<=p/\p<m:=fun hh=>a8 (hh _ (zM ae));by_cases h0:l.getD i 0<0
   ·refine gr ?_;exact⟨⟨_,rfl,by simp only[BF];exact bW⟩,rfl⟩
   ·refine gr ?_;exact⟨⟨_,rfl,by simp only[BF];exact bW⟩,rfl⟩
 ·refine gr ?_;refine⟨⟨_,rfl,?_⟩,rfl⟩;simp only[BF];intro p hp;obtain⟨j,hj,rfl⟩:=Zw hp;exact hm j (by omega)
theorem zLZ(h:WA)(vt va:Value)(T:List WE)(x:WE)(st:Wu h vt T)(hT:(T.length:Int)<=1000)(sa:WQ h va x.parts)(br:(x.parts.length:Int)<=1000000):
  WC Tryz.prog tb 196 [vt,.agg #[.int .u8 x.kind,I x.elem,I x.many,va]] h fun r h'=>(∃ b,r=.bool b/\(b=true↔zDG T x))/\Ext h h':=by
 refine en ?_;refine VF ?_;intro p h1 e1 o1;have bL:=st.ext e1;have je:=sa.ext e1;obtain⟨_,_,_,rfl⟩:=Wi.shape sa;refine go ?_;refine VD (fun i=>x.parts.length-i) (fun i t h2=>h1=h2/\zC t 5=I i/\i<=x.parts.length/\∀ j,j<i->PlT T (x.parts.getD j 0)) 0 ?_ ?_
 ·exact⟨rfl,WH,QK _,fun j hj=>absurd hj (Qk _)⟩
 rintro i t _ ab ⟨rfl,s5,hi,hm⟩;refine go ?_;refine VE (fun hb=> ?_) (fun hb=> ?_)<;>simp only[DB]at hb
 ·have ae:i<x.parts.length:=by omega
  refine go ?_;refine VA (zDb h1 vt T (x.parts.getD i 0) bL hT) ?_;rintro _ _ ⟨⟨b,rfl,aC⟩,rfl⟩;cases b with
  |true=>
   refine go ?_;refine zA (i+1) (by omega) ⟨rfl,Wn,by omega,fun j hj=> ?_⟩;by_cases e:j=i
   ·subst e;exact aC.1 rfl
   ·exact hm j (by omega)
  |false=>
   refine gr ?_;exact⟨⟨_,rfl,by simp only[BF];exact fun hh=>absurd (aC.2 (hh.1 _ (zM ae))) Bool.noConfusion⟩,e1⟩
 ·have aF:∀ p∈x.parts,PlT T p:=fun p hp=>by
   obtain⟨j,hj,rfl⟩:=Zw hp;exact hm j (by omega)
  replace aF:=WK.mk aF;replace hm:=WK.mk hm;refine go ?_;refine VA (zDb h1 vt T x.elem bL hT) ?_;rintro _ _ ⟨⟨b,rfl,aC⟩,rfl⟩;replace aC:=WK.mk aC;have key:∀ q:Bool,(q=true↔b=true/\(x.parts.length:Int)<=4/\x.many=0)->(q=true↔zDG T x):=fun q hq=>by
   rw[hq];unfold zDG;rw[aC.out];refine⟨fun h=>⟨aF.out,h.1,by omega,h.2.2⟩,fun h=>⟨h.2.1,by omega,h.2.2.2⟩⟩
  cases b with
  |false=>
   refine gr ?_;exact⟨⟨_,rfl,key _ (by simp)⟩,e1⟩
  |true=>
   refine go ?_;repeat' (first|(refine VE (fun hb=> ?_) (fun hb=> ?_)<;>(try simp only[DB]at hb)<;>refine go ?_)|(refine VJ (fun hb=> ?_) (fun hb=> ?_)<;>(try simp only[DB]at hb)<;>refine go ?_))
   all_goals (refine rt ?_;exact⟨⟨_,rfl,key _ (by simp only[BF,true_and];omega)⟩,e1⟩)
theorem zN3{T:List WE}{x:WE}{k:Nat}:zD7 T x k↔(x.kind=1/\x.elem=0/\x.many=0/\(x.parts.length:Int)=0)\/
 (x.kind=2/\0<=x.elem/\x.elem<(T.length:Int)/\x.many=0/\(x.parts.length:Int)=0)\/(x.kind=3/\zDG T x)\/
 (x.kind=4/\x.elem=0/\x.many=0/\1<=(x.parts.length:Int)/\(x.parts.length:Int)<=8/\∀ p∈x.parts,0<=p/\p<(k:Int))\/
 (x.kind=5/\0<=x.elem/\x.elem<(k:Int)/\1<=x.many/\x.many<=16/\(x.parts.length:Int)=0):=by
 unfold zD7;have h0:(x.parts.length:Int)=0↔x.parts.length=0:=by omega
 have h1:1<=(x.parts.length:Int)↔1<=x.parts.length:=by omega
 have h8:(x.parts.length:Int)<=8↔x.parts.length<=8:=by omega
 rw[h0,h1,h8]
theorem zHV(h:WA)(vt:Value)(T:List WE)(k:Nat)(st:Wu h vt T)(hT:(T.length:Int)<=1000)(hk:k<T.length)(bD:((T.getD k default).parts.length:Int)<=1000000):
  WC Tryz.prog tb 138 [vt,I k] h fun r h'=>(∃ b,r=.bool b/\(b=true↔ZM T k))/\Ext h h':=by
 obtain⟨cs,⟨va,rfl,sa,br⟩,pc,hs⟩:=yM (i:=k) st hk;unfold ZM;generalize T.getD k default=x at *;have fG:=WK.mk (zN3 (T:=T) (x:=x) (k:=k));obtain⟨_,_,_,rfl⟩:=Wi.shape sa;refine en ?_;refine WO.al ?_;intro p h1 e1 o1;refine go ?_;refine VH o1 e1 ?_;intro h2 e2 o2 _;have bC:=st.ext e2;have pZ:=sa.ext e2;by_cases h1:x.kind=1
 ·skip;refine go ?_;repeat' (first|(refine VE (fun hb=> ?_) (fun hb=> ?_)<;>(try simp only[DB]at hb)<;>refine go ?_)|(refine VJ (fun hb=> ?_) (fun hb=> ?_)<;>(try simp only[DB]at hb)<;>refine go ?_))
  all_goals (refine rt ?_;exact⟨⟨_,rfl,by rw[fG.out];simp only[BF];omega⟩,e2⟩)
 by_cases h2:x.kind=2
 ·skip;refine go ?_;repeat' (first|(refine VE (fun hb=> ?_) (fun hb=> ?_)<;>(try simp only[DB]at hb)<;>refine go ?_)|(refine VJ (fun hb=> ?_) (fun hb=> ?_)<;>(try simp only[DB]at hb)<;>refine go ?_))
  all_goals (refine rt ?_;exact⟨⟨_,rfl,by rw[fG.out];simp only[BF];omega⟩,e2⟩)
 by_cases h3:x.kind=3
 ·refine go ?_;refine VA (zLZ _ vt _ T x bC hT pZ bD) ?_;rintro _ h5 ⟨⟨b,rfl,aC⟩,e5⟩;refine gr ?_;refine⟨⟨_,rfl,?_⟩,e2.trans e5⟩;rw[aC,fG.out];refine⟨fun h=> .inr (.inr (.inl ⟨h3,h⟩)),fun h=> ?_⟩;rcases h with h|h|h|h|h
  ·omega
  ·omega
  ·exact h.2
  ·omega
  ·omega
 by_cases h4:x.kind=4
 ·refine go ?_;refine VJ (fun hd=> ?_) (fun hd=> ?_)<;>simp only[DB]at hd;case refine_2=>
   refine gr ?_;refine⟨⟨_,rfl,?_⟩,e2⟩;rw[fG.out];simp only[BF];omega
  refine go ?_;refine VJ (fun lR=> ?_) (fun lR=> ?_)<;>simp only[DB]at lR;case refine_2=>
   refine gr ?_;refine⟨⟨_,rfl,?_⟩,e2⟩;rw[fG.out];simp only[BF];omega
  refine go ?_;refine VJ (fun xJ=> ?_) (fun xJ=> ?_)<;>simp only[DB]at xJ;case refine_2=>
   refine gr ?_;refine⟨⟨_,rfl,?_⟩,e2⟩;rw[fG.out];simp only[BF];omega
  refine go ?_;refine VJ (fun xK=> ?_) (fun xK=> ?_)<;>simp only[DB]at xK;case refine_2=>
   refine gr ?_;refine⟨⟨_,rfl,?_⟩,e2⟩;rw[fG.out];simp only[BF];omega
  refine go ?_;refine VA (zLM _ _ x.parts k pZ bD) ?_;rintro _ _ ⟨⟨b,rfl,aC⟩,rfl⟩;refine gr ?_;refine⟨⟨_,rfl,?_⟩,e2⟩;rw[aC,fG.out];refine⟨fun h=> .inr (.inr (.inr (.inl ⟨h4,hd,lR,xJ,xK,h⟩))),fun h=> ?_⟩;rcases h with h|h|h|h|h
  ·omega
  ·omega
  ·omega
  ·exact h.2.2.2.2.2
  ·omega
 by_cases h5:x.kind=5
 ·skip;refine go ?_;repeat' (first|(refine VE (fun hb=> ?_) (fun hb=> ?_)<;>(try simp only[DB]at hb)<;>refine go ?_)|(refine VJ (fun hb=> ?_) (fun hb=> ?_)<;>(try simp only[DB]at hb)<;>refine go ?_))
  all_goals (refine rt ?_;exact⟨⟨_,rfl,by rw[fG.out];simp only[BF];omega⟩,e2⟩)
 ·refine gr ?_;refine⟨⟨_,rfl,?_⟩,e2⟩;rw[fG.out];simp only[BF];omega
theorem zBN{α:Type}{l:List α}{f:α->List Int}(h:∀ x∈l,(f x).length<=32):(l.map f).flatten.length<=32*l.length:=by
 induction l with
 |nil=>simp
 |cons a l ih=>
  have:=h a (by simp);have:=ih fun x hx=>h x (by simp[hx]);simp only[Qm,GW,QM,GF];omega
theorem zDc{α:Type}[Inhabited α]{l:List α}{f:α->List Int}{i:Nat}(h:i<l.length):((l.take (i+1)).map f).flatten=((l.take i).map f).flatten++f (l.getD i default):=by
 rw[Q1,QB h,Qx,List.flatten_append];simp[List.getD,QB h]
theorem zQl(vt:Value)(T:List WE)(hT:(T.length:Int)<=1000):∀ (n k:Nat) (h:WA),k<n->Wu h vt T->k<T.length->zEB T k->ZM T k->
  WC Tryz.prog tb 139 [vt,I k] h fun r h'=>WL h h' r (BM T k)/\Ext h h':=by
 intro n;induction n with
 |zero=>intro k h hk;omega
 |succ n ih=>
  intro k h xc st hk ag hM;have ft:=zAD (T:=T) (k:=k) fun j hj=>by
   by_cases e:j=k
   ·subst e;exact hM
   ·exact(ag j (by omega)).1
  obtain⟨cs,⟨va,rfl,sa,br⟩,pc,hs⟩:=yM (i:=k) st hk;unfold ZM zD7 at hM;rw[ft];clear ft;generalize T.getD k default=x at *;obtain⟨_,_,_,rfl⟩:=Wi.shape sa;refine en ?_;refine WO.al ?_;intro p h1 e1 o1;refine go ?_;refine VH o1 e1 ?_;intro h2 e2 o2 _;have bC:=st.ext e2;have pZ:=sa.ext e2;by_cases h4:x.kind=4
  ·have hp:x.parts.length<=8/\∀ p∈x.parts,0<=p/\p<(k:Int):=by
    rcases hM with h|h|h|h|h
    ·omega
    ·omega
    ·omega
    ·exact⟨h.2.2.2.2.1,h.2.2.2.2.2⟩
    ·omega
   have gx:∀ p∈x.parts,(BM T p.toNat).length<=32:=fun p dv=>by
    have:=hp.2 p dv;exact(ag p.toNat (by omega)).2
   simp only[h4,Q6];replace hM:=WK.mk hM;replace ag:=WK.mk ag;have Ds:=hp.1;replace hp:=WK.mk hp;replace gx:=WK.mk gx;refine go ?_;refine VD (fun i=>x.parts.length-i) (fun i t h3=>zC t 7=I i/\i<=x.parts.length/\Ext h2 h3/\∃ w,zC t 6=w/\WL h2 h3 w (((x.parts.take i).map fun p=>BM T p.toNat).flatten)) 0 ?_ ?_
   ·exact⟨WH,QK _,Ext.refl _,.slice none 0 0,WH,.inl ⟨rfl,by simp⟩⟩
   rintro i t h3 ab ⟨s7,hi,d7,w,s6,ow⟩;have gS:=bC.ext d7;have i7:=pZ.ext d7;have o3:=o2.ext d7;refine go ?_;refine VE (fun hc=> ?_) (fun hc=> ?_)<;>simp only[DB]at hc
   ·have ae:i<x.parts.length:=by omega
    have nM:=hp.out.2 _ (zM ae);have au:=zDc (f:=fun p=>BM T p.toNat) ae;have tY:=zBN (l:=x.parts.take i) (f:=fun p=>BM T p.toNat) fun q hq=>gx.out q (Q5 hq);have eD:=gx.out _ (zM ae);have AI:(x.parts.take i).length<=i:=List.length_take_le _ _;have rf:I (x.parts.getD i 0)=I ((x.parts.getD i 0).toNat:Int):=by rw[Int.toNat_of_nonneg nM.1]
    obtain⟨q,hq⟩:∃ q:Nat,x.parts.getD i 0=q:=⟨(x.parts.getD i 0).toNat,by omega⟩;have gA:q<k:=by omega
    refine go ?_;rw[hq];refine VA (ih q h3 (by omega) gS (by omega) (fun j hj=>ag.out j (by omega)) (ag.out q gA).1) ?_;rintro r h4 ⟨or,e4⟩;refine go ?_;have mQ:x.parts.getD i default=(q:Int):=hq;rw[mQ]at au;simp only[QL]at au;have df:(BM T q).length<=32:=by rw[hq]at eD;exact eD
    refine VN (ow.ext e4) or.sl (d7.trans e4) (by omega) ?_;intro v5 h5 e5 o5;refine go ?_;exact zA (i+1) (by omega) ⟨Wn,by omega,e5,v5,WH,by rw[au];exact o5⟩
   ·have aK:i=x.parts.length:=by omega
    subst aK;rw[Qg]at ow;refine gr ?_;exact⟨ow.since e2,e2.trans d7⟩
  by_cases h5:x.kind=5
  ·have hp:0<=x.elem/\x.elem<(k:Int)/\1<=x.many/\x.many<=16:=by omega
   obtain⟨q,hq⟩:∃ q:Nat,x.elem=q:=⟨x.elem.toNat,by omega⟩;obtain⟨m,hm⟩:∃ m:Nat,x.many=m:=⟨x.many.toNat,by omega⟩;have gA:q<k:=by omega
   have jH:=(ag q gA).2;simp only[h5,Q6,Gb,show ¬((5:Int)=4) by decide,hq,hm,QL];replace hM:=WK.mk hM;replace ag:=WK.mk ag;have PM:m<=16:=by omega
   refine go ?_;refine VD (fun i=>m-i) (fun i t h3=>zC t 9=I i/\i<=m/\Ext h2 h3/\∃ w,zC t 8=w/\WL h2 h3 w (List.replicate i (BM T q)).flatten) 0 ?_ ?_
   ·exact⟨WH,QK _,Ext.refl _,.slice none 0 0,WH,.inl ⟨rfl,by simp⟩⟩
   rintro i t h3 ab ⟨s7,hi,d7,w,s6,ow⟩;have gS:=bC.ext d7;have o3:=o2.ext d7;refine go ?_;rw[hm];refine go ?_;refine VE (fun hc=> ?_) (fun hc=> ?_)<;>simp only[DB]at hc
   ·have ae:i<m:=by omega
    have tY:=zBE i (BM T q);have hmul:i*(BM T q).length<=16*32:=Nat.mul_le_mul (by omega) jH;refine go ?_;rw[hq];refine VA (ih q h3 (by omega) gS (by omega) (fun j hj=>ag.out j (by omega)) (ag.out q gA).1) ?_;rintro r h4 ⟨or,e4⟩;refine go ?_;refine VN (ow.ext e4) or.sl (d7.trans e4) (by omega) ?_;intro v5 h5 e5 o5;refine go ?_;refine zA (i+1) (by omega) ⟨Wn,by omega,e5,v5,WH,?_⟩;rw[List.replicate_succ',List.flatten_append];simpa using o5
   ·have aK:i=m:=by omega
    subst aK;refine gr ?_;exact⟨ow.since e2,e2.trans d7⟩
  ·rw[QC h4,QC h5];refine go ?_;refine WO.bl [(k:Int)] ?_;intro v h3 e3 o3;refine gr ?_;exact⟨.inr (o3.since e2),e2.trans e3⟩
theorem zK0(h:WA)(vt:Value)(T:List WE)(st:Wu h vt T)(hT:(T.length:Int)<=1000)(bD:∀ x∈T,x.parts.length<=1000000):
  WC Tryz.prog tb 89 [vt] h fun r h'=>r=I (yS T)/\Ext h h':=by
 refine en ?_;rw[zAz];replace bD:=WK.mk bD;by_cases tw:16<(T.length:Int)
 ·refine gr ?_;rw[QF (by omega)];exact⟨rfl,Ext.refl _⟩
 rw[QC (by omega)];refine go ?_;refine VD (fun i=>T.length-i) (fun i t h1=>Ext h h1/\zC t 3=I i/\i<=T.length/\WK (zEB T i)) 0 ?_ ?_
 ·exact⟨Ext.refl _,WH,QK _,⟨fun j hj=>absurd hj (Qk _)⟩⟩
 rintro i t h1 ab ⟨e1,s3,hi,ag⟩;have bL:=st.ext e1;refine go ?_;refine VE (fun hc=> ?_) (fun hc=> ?_)<;>simp only[DB]at hc
 ·have ae:i<T.length:=by omega
  refine go ?_;refine VA (zHV h1 vt T i bL hT ae (by have:=bD.out _ (zE (l:=T) ae);omega)) ?_;rintro _ h2 ⟨⟨b,rfl,aC⟩,e2⟩;have bC:=bL.ext e2;have no:¬(ZM T i/\(BM T i).length<=32)->¬zEB T T.length:=fun hn hl=>hn (hl i ae);cases b with
  |false=>
   have hf:¬zEB T T.length:=no fun hh=>absurd (aC.2 hh.1) Bool.noConfusion;refine gr ?_;rw[QC hf];exact⟨rfl,e1.trans e2⟩
  |true=>
   have hM:=aC.1 rfl;refine go ?_;refine VA (zQl vt T hT (i+1) i h2 (by omega) bC ae ag.out hM) ?_;rintro r h3 ⟨or,e3⟩;have sr:=or.sl;have aN:=(e1.trans e2).trans e3;refine go ?_;refine VE (fun hd=> ?_) (fun hd=> ?_)<;>simp only[DB]at hd
   ·have hf:¬zEB T T.length:=no fun hh=>by have:=hh.2;omega
    refine gr ?_;rw[QC hf];exact⟨rfl,aN⟩
   ·refine go ?_;refine zA (i+1) (by omega) ⟨aN,Wn,by omega,⟨fun j hj=> ?_⟩⟩;by_cases e:j=i
    ·subst e;exact⟨hM,by omega⟩
    ·exact ag.out j (by omega)
 ·have aK:i=T.length:=by omega
  subst aK;refine gr ?_;rw[QF ag.out];exact⟨rfl,e1⟩
end Go.Proofs.YtmejfcakhpihlaaGreatDoor
set_option maxRecDepth 100000
namespace Go.Proofs.YtmejfcakhpihlaaGreatDoor
open Go.Am
theorem zJ3(h:WA)(op:Int):WC Tryz.prog tb 201 [.int .u8 op] h fun r h'=>(∃ b,r=.bool b/\(b=true↔zB3 op))/\h=h':=by
 refine en ?_;repeat' (first|(refine VE (fun hb=> ?_) (fun hb=> ?_)<;>(try simp only[DB]at hb)<;>refine go ?_)|(refine VJ (fun hb=> ?_) (fun hb=> ?_)<;>(try simp only[DB]at hb)<;>refine go ?_))
 all_goals (refine rt ?_;exact⟨⟨_,rfl,by unfold zB3;simp only[BF];omega⟩,rfl⟩)
theorem zMt(h:WA)(op:Int)(ho:0<=op):WC Tryz.prog tb 201 [.int .u8 op] h fun r h'=>r=.bool (zU op).2.1/\h=h':=by
 refine(zJ3 h op).mono ?_;rintro _ _ ⟨⟨b,rfl,hb⟩,rfl⟩;exact⟨congrArg _ (by rw[GZ,hb,(Yl ho).1]),rfl⟩
theorem zKP(h:WA)(op:Int)(ho:0<=op):WC Tryz.prog tb 200 [.int .u8 op] h fun r h'=>r=.bool (zU op).1/\h=h':=by
 refine WC.mono (Q:=fun r h'=>(∃ b,r=.bool b/\(b=true↔zB6 op))/\h=h') ?_ ?_
 ·refine en ?_;refine VA (zJ3 h op) ?_;rintro _ _ ⟨⟨b,rfl,hb⟩,rfl⟩;cases b with
  |true=>
   have hT:=hb.1 rfl;refine gr ?_;exact⟨⟨_,rfl,⟨fun _=> .inl hT,fun _=>rfl⟩⟩,rfl⟩
  |false=>
   have hT:¬zB3 op:=fun hh=>absurd (hb.2 hh) Bool.noConfusion;unfold zB6;refine go ?_;repeat' (first|(refine VE (fun hb=> ?_) (fun hb=> ?_)<;>(try simp only[DB]at hb)<;>refine go ?_)|(refine VJ (fun hb=> ?_) (fun hb=> ?_)<;>(try simp only[DB]at hb)<;>refine go ?_))
   all_goals (refine rt ?_;exact⟨⟨_,rfl,by simp only[BF,hT,false_or];omega⟩,rfl⟩)
 ·rintro _ _ ⟨⟨b,rfl,hb⟩,rfl⟩;exact⟨congrArg _ (by rw[GZ,hb,(Yl ho).2.1]),rfl⟩
theorem zKd(h:WA)(op:Int)(ho:0<=op):WC Tryz.prog tb 202 [.int .u8 op] h fun r h'=>r=.bool (zU op).2.2.2.1/\h=h':=by
 refine WC.mono (Q:=fun r h'=>(∃ b,r=.bool b/\(b=true↔zCE op))/\h=h') ?_ ?_
 ·refine en ?_;repeat' (first|(refine VE (fun hb=> ?_) (fun hb=> ?_)<;>(try simp only[DB]at hb)<;>refine go ?_)|(refine VJ (fun hb=> ?_) (fun hb=> ?_)<;>(try simp only[DB]at hb)<;>refine go ?_))
  all_goals (refine rt ?_;exact⟨⟨_,rfl,by unfold zCE;simp only[BF];omega⟩,rfl⟩)
 ·rintro _ _ ⟨⟨b,rfl,hb⟩,rfl⟩;exact⟨congrArg _ (by rw[GZ,hb,(Yl ho).2.2.1]),rfl⟩
theorem zA2(h:WA)(op:Int)(ho:0<=op):WC Tryz.prog tb 158 [.int .u8 op] h fun r h'=>r=.bool (zU op).2.2.2.2.2/\h=h':=by
 refine WC.mono (Q:=fun r h'=>(∃ b,r=.bool b/\(b=true↔zMw op))/\h=h') ?_ ?_
 ·refine en ?_;repeat' (first|(refine VE (fun hb=> ?_) (fun hb=> ?_)<;>(try simp only[DB]at hb)<;>refine go ?_)|(refine VJ (fun hb=> ?_) (fun hb=> ?_)<;>(try simp only[DB]at hb)<;>refine go ?_))
  all_goals (refine rt ?_;exact⟨⟨_,rfl,by unfold zMw;simp only[BF];omega⟩,rfl⟩)
 ·rintro _ _ ⟨⟨b,rfl,hb⟩,rfl⟩;exact⟨congrArg _ (by rw[GZ,hb,(Yl ho).2.2.2.1]),rfl⟩
theorem yo{h:WA}{va:Value}{l:List Int}(s:WQ h va l):∃ a n k,va=.slice a n k:=Wi.shape s
theorem zEf(h:WA)(x:Wj)(cs:List Value)(bP:W8 h cs x)(hx:x.args.length<=20):
  WC Tryz.prog tb 144 [.agg cs.toArray] h fun r h'=>WL h h' r (zt x)/\Ext h h':=by
 obtain⟨va,xO,rfl,sa,mj,br,dZ,ho,wh⟩:=bP;obtain⟨aa,an,ak,rfl⟩:=yo sa;obtain⟨fa,fn,fk,rfl⟩:=yo mj;refine en ?_;refine VF ?_;intro p h1 e1 o1;have je:=sa.ext e1;refine go ?_;refine VA (zKP h1 x.op ho) ?_;rintro _ _ ⟨rfl,rfl⟩;unfold zt;refine go ?_;refine VL (fun t h'=>Ext h1 h'/\∃ w,zC t 3=w/\WL h1 h' w (if(zU x.op).1 then[x.a]else[])) ?_ ?_
 ·cases hA:(zU x.op).1 with
  |true=>
   refine go ?_;refine WO.bl [x.a] ?_;intro v h2 e2 o2;refine go ?_;refine VN (v:= .slice none 0 0) (xs:=[]) (h0:=h1) (.inl ⟨rfl,rfl⟩) o2.sl e2 (by simp) ?_;intro v3 h3 e3 o3;refine go ?_;exact zK ⟨e3,v3,WH,o3⟩
  |false=>
   refine go ?_;exact zK ⟨Ext.refl _,_,WH,.inl ⟨rfl,rfl⟩⟩
 rintro t2 h2 eW ⟨e2,w2,q2,kU⟩;have o2:=o1.ext e2;have l2:(if(zU x.op).1 then[x.a]else[]).length<=1:=by split<;>simp
 generalize(if(zU x.op).1 then[x.a]else[])=lA at *;refine go ?_;refine VA (zMt h2 x.op ho) ?_;rintro _ _ ⟨rfl,rfl⟩;refine go ?_;refine VL (fun t h'=>Ext h1 h'/\∃ w,zC t 3=w/\WL h1 h' w (lA++if(zU x.op).2.1 then[x.b]else[])) ?_ ?_
 ·cases hB:(zU x.op).2.1 with
  |true=>
   refine go ?_;refine WO.bl [x.b] ?_;intro v h3 e3 o3;refine go ?_;refine VN (kU.ext e3) o3.sl (e2.trans e3) (by simp only[QV];omega) ?_;intro v4 h4 e4 o4;refine go ?_;exact zK ⟨e4,v4,WH,o4⟩
  |false=>
   refine go ?_;exact zK ⟨e2,_,WH,by simpa using kU⟩
 rintro t3 h3 xB ⟨e3,w3,q3,pI⟩;have o3:=o1.ext e3;have i7:=je.ext e3;have l3:(lA++if(zU x.op).2.1 then[x.b]else[]).length<=2:=by split<;>simp<;>omega
 rw[<-QT];generalize(lA++if(zU x.op).2.1 then[x.b]else[])=lB at *;refine go ?_;refine VA (zKd h3 x.op ho) ?_;rintro _ _ ⟨rfl,rfl⟩;refine go ?_;cases hG:(zU x.op).2.2.2.1 with
 |true=>
  refine go ?_;refine VN pI i7 e3 (by omega) ?_;intro v4 h4 e4 o4;refine gr ?_;exact⟨o4.since e1,e1.trans e4⟩
 |false=>
  refine gr ?_;exact⟨(by simpa using pI.since e1:WL h h3 w3 _),e1.trans e3⟩
theorem Y5(h:WA)(v:Value)(l:List Int)(m:Int)(s:WQ h v l)(hl:(l.length:Int)<=1000000):
  WC Tryz.prog tb 198 [v,I m] h fun r h'=>(∃ b,r=.bool b/\(b=true↔Bi l m))/\h=h':=by
 refine en ?_;refine VD (fun i=>l.length-i) (fun i t h1=>h=h1/\zC t 5=I i/\i<=l.length/\∀ j,j<i->0<=l.getD j 0/\l.getD j 0<m) 0 ?_ ?_
 ·exact⟨rfl,WH,QK _,fun j hj=>absurd hj (Qk _)⟩
 rintro i t _ ab ⟨rfl,s5,hi,hm⟩;refine go ?_;refine VE (fun hb=> ?_) (fun hb=> ?_)<;>simp only[DB]at hb
 ·have ae:i<l.length:=by omega
  by_cases a8:0<=l.getD i 0/\l.getD i 0<m
  ·refine go ?_;refine zA (i+1) (by omega) ⟨rfl,Wn,by omega,fun j hj=> ?_⟩;by_cases e:j=i
   ·subst e;exact a8
   ·exact hm j (by omega)
  ·have bW:¬Bi l m:=fun hh=>a8 (hh _ (zM ae));by_cases h0:l.getD i 0<0
   ·refine gr ?_;exact⟨⟨_,rfl,by simp only[BF];exact bW⟩,rfl⟩
   ·refine gr ?_;exact⟨⟨_,rfl,by simp only[BF];exact bW⟩,rfl⟩
 ·refine gr ?_;refine⟨⟨_,rfl,?_⟩,rfl⟩;simp only[BF];intro p hp;obtain⟨j,hj,rfl⟩:=Zw hp;exact hm j (by omega)
theorem zNt(h:WA)(vt vf:Value)(T:List WE)(F:List Wa)(x:Wj)(cs:List Value)(st:Wu h vt T)(sf:Wo h vf F)(hF:F.length<=1000)(bP:W8 h cs x):
  WC Tryz.prog tb 199 [.agg #[vt,vf],.agg cs.toArray] h fun r h'=>(∃ b,r=.bool b/\(b=true↔zHv x F.length))/\Ext h h':=by
 obtain⟨va,xO,rfl,sa,mj,br,dZ,ho,wh⟩:=bP;obtain⟨aa,an,ak,rfl⟩:=yo sa;obtain⟨fa,fn,fk,rfl⟩:=yo mj;obtain⟨ta,tn,tk,rfl⟩:=zD st;obtain⟨ga,gn,gk,rfl⟩:=zD sf;refine en ?_;refine VF ?_;intro p h1 e1 o1;refine go ?_;refine VF ?_;intro q h2 e2 o2;have o1:=o1.ext e2;have az:=e1.trans e2;have cW:=Wo.ext sf az;unfold zHv;by_cases k1:x.op=1
 ·rw[QF k1];refine gr ?_;exact⟨⟨_,rfl,by simp⟩,az⟩
 rw[QC k1];by_cases k3:x.op=3
 ·rw[QF (.inl k3)];skip;refine go ?_;repeat' (first|(refine VE (fun hb=> ?_) (fun hb=> ?_)<;>(try simp only[DB]at hb)<;>refine go ?_)|(refine VJ (fun hb=> ?_) (fun hb=> ?_)<;>(try simp only[DB]at hb)<;>refine go ?_))
  all_goals (refine rt ?_;exact⟨⟨_,rfl,by simp only[BF];omega⟩,az⟩)
 by_cases Dt:x.op=18
 ·rw[QF (.inr Dt)];skip;refine go ?_;repeat' (first|(refine VE (fun hb=> ?_) (fun hb=> ?_)<;>(try simp only[DB]at hb)<;>refine go ?_)|(refine VJ (fun hb=> ?_) (fun hb=> ?_)<;>(try simp only[DB]at hb)<;>refine go ?_))
  all_goals (refine rt ?_;exact⟨⟨_,rfl,by simp only[BF];omega⟩,az⟩)
 rw[QC (by omega)];by_cases nV:x.op=14
 ·rw[QF nV];skip;refine go ?_;repeat' (first|(refine VE (fun hb=> ?_) (fun hb=> ?_)<;>(try simp only[DB]at hb)<;>refine go ?_)|(refine VJ (fun hb=> ?_) (fun hb=> ?_)<;>(try simp only[DB]at hb)<;>refine go ?_))
  all_goals (refine rt ?_;exact⟨⟨_,rfl,by simp only[BF];omega⟩,az⟩)
 rw[QC nV];refine gr ?_;exact⟨⟨_,rfl,by simp only[BF]⟩,az⟩
theorem zI0(h:WA)(vt vf:Value)(T:List WE)(F:List Wa)(x:Wj)(cs:List Value)(aG many:Int)(st:Wu h vt T)(sf:Wo h vf F)(hT:T.length<=1000)(hF:F.length<=1000)(bP:W8 h cs x)(hx:x.args.length<=20/\x.frm.length<=20):
  WC Tryz.prog tb 140 [.agg #[vt,vf],.agg cs.toArray,I aG,I many] h fun r h'=>r=.bool (B2 x ⟨T.length,F.length,aG,many⟩)/\Ext h h':=by
 obtain⟨va,xO,rfl,sa,mj,br,dZ,ho,wh⟩:=id bP;obtain⟨aa,an,ak,rfl⟩:=yo sa;obtain⟨fa,fn,fk,rfl⟩:=yo mj;obtain⟨ta,tn,tk,rfl⟩:=zD st;obtain⟨ga,gn,gk,rfl⟩:=zD sf;refine WC.mono (Q:=fun r h'=>(∃ b,r=.bool b/\(b=true↔MayI x ⟨T.length,F.length,aG,many⟩))/\Ext h h') ?_ ?_;case refine_2=>
  rintro _ _ ⟨⟨b,rfl,hb⟩,e⟩;exact⟨congrArg _ (by rw[GZ,hb,zBi ho]),e⟩
 have hu:(zt x).length<=22:=by unfold zt;split<;>split<;>split<;>simp<;>omega
 refine en ?_;refine VF ?_;intro p h1 e1 o1;refine go ?_;refine VF ?_;intro q h2 e2 o2;have o1:=o1.ext e2;have az:=e1.trans e2;by_cases k1:1<=x.op;case neg=>
  refine gr ?_;exact⟨⟨_,rfl,by simp only[BF];exact fun m=>k1 m.op.1⟩,az⟩
 by_cases k22:x.op<=22;case neg=>
  refine gr ?_;exact⟨⟨_,rfl,by simp only[BF];exact fun m=>k22 m.op.2⟩,az⟩
 refine go ?_;refine VA (zEf h2 x _ (bP.ext az) hx.1) ?_;rintro u h3 ⟨ou,e3⟩;have o1:=o1.ext e3;have o2:=o2.ext e3;have dk:=az.trans e3;refine go ?_;refine VA (Y5 h3 u _ aG ou.sl (by omega)) ?_;rintro _ _ ⟨⟨b1,rfl,cZ⟩,rfl⟩;cases b1 with
 |false=>
  refine gr ?_;exact⟨⟨_,rfl,by simp only[BF];exact fun m=>absurd (cZ.2 m.uses) Bool.noConfusion⟩,dk⟩
 |true=>
 have U:=WK.mk (cZ.1 rfl);clear cZ;refine go ?_;refine VA (zNt h3 _ _ T F x _ (st.ext dk) (Wo.ext sf dk) hF (bP.ext dk)) ?_;rintro _ h4 ⟨⟨b2,rfl,aI⟩,e4⟩;have o1:=o1.ext e4;have o2:=o2.ext e4;have bV:=dk.trans e4;have Ah:=sa.ext bV;have Hy:=mj.ext bV;have pC:=st.ext bV;cases b2 with
 |false=>
  refine gr ?_;exact⟨⟨_,rfl,by simp only[BF];exact fun m=>absurd (aI.2 m.num) Bool.noConfusion⟩,bV⟩
 |true=>
 have V:=WK.mk (aI.1 rfl);clear aI e1 e2 az e3 dk e4 ou;refine go ?_;refine VA (zKP h4 x.op ho) ?_;rintro _ _ ⟨rfl,rfl⟩;refine VT 29 (fun t' h'=>h4=h'/\∃ b,zC t' 61=.bool b/\(b=false↔((zU x.op).1=true\/x.a=0)/\((zU x.op).2.1=true\/x.b=0)/\((zU x.op).2.2.2.1=true\/(x.args.length:Int)<=0))) ?_ ?_<;>simp only[Qo,GC,GE,Q2]
 ·refine VT 6 (fun t' h'=>h4=h'/\∃ b,zC t' 38=.bool b/\(b=false↔((zU x.op).1=true\/x.a=0))) ?_ ?_<;>simp only[Qo,GC,GE,Q2]
  ·cases hA:(zU x.op).1 with
   |true=>
    refine go ?_;exact⟨rfl,rfl,rfl,_,WH,by simp⟩
   |false=>
    refine go ?_;exact⟨rfl,rfl,rfl,_,WH,by simp⟩
  rintro t5 _ vV ⟨rfl,b5,q38,kO⟩;refine VT 11 (fun t' h'=>h4=h'/\∃ b,zC t' 49=.bool b/\(b=false↔((zU x.op).1=true\/x.a=0)/\((zU x.op).2.1=true\/x.b=0))) ?_ ?_<;>simp only[Qo,GC,GE,Q2]
  ·cases b5 with
   |true=>
    refine go ?_;exact⟨rfl,rfl,rfl,_,WH,by rw[<-kO];simp⟩
   |false=>
    refine go ?_;refine VA (zMt h4 x.op ho) ?_;rintro _ _ ⟨rfl,rfl⟩;have h5:=kO.1 rfl;cases hB:(zU x.op).2.1 with
    |true=>
     refine go ?_;exact⟨rfl,rfl,rfl,_,WH,by simp[h5]⟩
    |false=>
     refine go ?_;exact⟨rfl,rfl,rfl,_,WH,by simp[h5]⟩
  rintro t6 _ vW ⟨rfl,b6,q49,AJ⟩;rw[<-and_assoc,<-AJ];cases b6 with
  |true=>
   refine go ?_;exact⟨rfl,rfl,rfl,_,WH,by simp⟩
  |false=>
   refine go ?_;refine VA (zKd h4 x.op ho) ?_;rintro _ _ ⟨rfl,rfl⟩;cases hG:(zU x.op).2.2.2.1 with
   |true=>
    refine go ?_;exact⟨rfl,rfl,rfl,_,WH,by simp⟩
   |false=>
    refine go ?_;exact⟨rfl,rfl,rfl,_,WH,by simp only[BF,true_and,Qa,false_or];omega⟩
 rintro t5 _ vV ⟨rfl,b5,q61,kO⟩;cases b5 with
 |true=>
  refine gr ?_;refine⟨⟨_,rfl,?_⟩,bV⟩;simp only[BF];exact fun m=>absurd (kO.2 ⟨m.a,m.b,m.g⟩) Bool.noConfusion
 |false=>
 have W:=WK.mk (kO.1 rfl);clear kO;refine go ?_;refine VA (zA2 h4 x.op ho) ?_;rintro _ _ ⟨rfl,rfl⟩;refine VT 24 (fun t' h'=>h4=h'/\∃ b,zC t' 88=.bool b/\(b=false↔if(zU x.op).2.2.2.2.2 then 0<=x.ty/\x.ty<(T.length:Int)else x.ty=0)) ?_ ?_<;>simp only[Qo,GC,GE,Q2]
 ·cases hS:(zU x.op).2.2.2.2.2 with
  |true=>
   simp only[Q6];by_cases c1:x.ty<0
   ·refine go ?_;exact⟨rfl,rfl,rfl,_,WH,by simp only[BF];omega⟩
   by_cases c2:(T.length:Int)<=x.ty
   ·refine go ?_;exact⟨rfl,rfl,rfl,_,WH,by simp only[BF];omega⟩
   ·refine go ?_;refine VA (zA2 h4 x.op ho) ?_;rintro _ _ ⟨rfl,rfl⟩;refine go ?_;exact⟨rfl,rfl,rfl,_,WH,by simp only[BF];omega⟩
  |false=>
   simp only[Qa,Gb];refine go ?_;refine VA (zA2 h4 x.op ho) ?_;rintro _ _ ⟨rfl,rfl⟩;refine go ?_;exact⟨rfl,rfl,rfl,_,WH,by simp⟩
 rintro t6 _ vW ⟨rfl,b6,q88,AJ⟩;cases b6 with
 |true=>
  refine gr ?_;refine⟨⟨_,rfl,?_⟩,bV⟩;simp only[BF];exact fun m=>absurd (AJ.2 m.ans) Bool.noConfusion
 |false=>
 have X:=WK.mk (AJ.1 rfl);clear AJ;have hf:=(Yl ho).2.2.2.2.1;have mk:∀ q:Bool,(q=true↔if(zU x.op).2.2.2.2.1 then(x.frm.length:Int)=x.args.length/\1<=(x.frm.length:Int)/\(x.frm.length:Int)<=16/\Bi x.frm many else(x.frm.length:Int)=0/\(x.args.length:Int)<=4)->(q=true↔MayI x ⟨T.length,F.length,aG,many⟩):=fun q hq=>by
  rw[hq];exact⟨fun h=>⟨⟨k1,k22⟩,U.out,V.out,W.out.1,W.out.2.1,W.out.2.2,X.out,h⟩,fun m=>m.frm⟩
 replace mk:=WK.mk mk;by_cases k:x.op=22
 ·rw[hf.2 k]at mk;simp only[Q6]at mk;by_cases c1:(x.frm.length:Int)=x.args.length;case neg=>
   refine gr ?_;exact⟨⟨_,rfl,mk.out _ (by simp only[BF];exact fun h=>c1 h.1)⟩,bV⟩
  by_cases c2:1<=(x.frm.length:Int);case neg=>
   refine gr ?_;exact⟨⟨_,rfl,mk.out _ (by simp only[BF];exact fun h=>c2 h.2.1)⟩,bV⟩
  by_cases c3:(x.frm.length:Int)<=16;case neg=>
   refine gr ?_;exact⟨⟨_,rfl,mk.out _ (by simp only[BF];exact fun h=>c3 h.2.2.1)⟩,bV⟩
  refine go ?_;refine VA (Y5 h4 _ x.frm many Hy (by omega)) ?_;rintro _ _ ⟨⟨b,rfl,hb⟩,rfl⟩;refine gr ?_;exact⟨⟨_,rfl,mk.out _ (by rw[hb];exact⟨fun h=>⟨c1,c2,c3,h⟩,fun h=>h.2.2.2⟩)⟩,bV⟩
 ·have qc:(zU x.op).2.2.2.2.1=false:=by cases hh:(zU x.op).2.2.2.2.1 with
   |false=>rfl
   |true=>exact absurd (hf.1 hh) k
  rw[qc]at mk;simp only[Qa,Gb]at mk;by_cases c1:(x.frm.length:Int)=0;case neg=>
   refine gr ?_;exact⟨⟨_,rfl,mk.out _ (by simp only[BF];exact fun h=>c1 h.1)⟩,bV⟩
  refine gr ?_;exact⟨⟨_,rfl,mk.out _ (by simp only[BF];omega)⟩,bV⟩
theorem zJN(h:WA)(x:Bl)(T F aG many:Int):
  WC Tryz.prog tb 141 [.agg #[.int .u8 x.kind,I x.a,I x.to,I x.aE],I aG,I many] h fun r h'=>r=.bool (B4 x ⟨T,F,aG,many⟩)/\Ext h h':=by
 refine WC.mono (Q:=fun r h'=>(∃ b,r=.bool b/\(b=true↔(x.kind=1/\x.a=0/\x.aE=0/\Bi [x.to] many)\/(x.kind=2/\Bi [x.a] aG/\Bi [x.to,x.aE] many)\/(x.kind=3/\x.to=0/\x.aE=0/\Bi [x.a] aG)))/\Ext h h') ?_ ?_;case refine_2=>
  rintro _ _ ⟨⟨b,rfl,hb⟩,e⟩;exact⟨congrArg _ (by rw[GZ,hb,zHg]),e⟩
 refine en ?_;refine VF ?_;intro p h1 e1 o1;by_cases k1:x.kind=1
 ·by_cases c1:x.a=0;case neg=>
   refine gr ?_;exact⟨⟨_,rfl,by simp only[BF];omega⟩,e1⟩
  by_cases c2:x.aE=0;case neg=>
   refine gr ?_;exact⟨⟨_,rfl,by simp only[BF];omega⟩,e1⟩
  refine go ?_;refine WO.bl [x.to] ?_;intro v h2 e2 o2;refine go ?_;refine VA (Y5 h2 v _ many o2.sl (by simp)) ?_;rintro _ _ ⟨⟨b,rfl,hb⟩,rfl⟩;refine gr ?_;refine⟨⟨_,rfl,?_⟩,e1.trans e2⟩;rw[hb];simp[k1,c1,c2]
 by_cases k2:x.kind=2
 ·refine go ?_;refine WO.bl [x.a] ?_;intro v h2 e2 o2;have o1:=o1.ext e2;refine go ?_;refine VA (Y5 h2 v _ aG o2.sl (by simp)) ?_;rintro _ _ ⟨⟨b,rfl,hb⟩,rfl⟩;cases b with
  |false=>
   have hn:¬Bi [x.a] aG:=fun hh=>absurd (hb.2 hh) Bool.noConfusion;refine gr ?_;refine⟨⟨_,rfl,?_⟩,e1.trans e2⟩;simp[k2,hn]
  |true=>
   have hn:=hb.1 rfl;refine go ?_;refine WO.bl [x.to,x.aE] ?_;intro v h3 e3 o3;refine go ?_;refine VA (Y5 h3 v _ many o3.sl (by simp)) ?_;rintro _ _ ⟨⟨b,rfl,hb⟩,rfl⟩;refine gr ?_;refine⟨⟨_,rfl,?_⟩,(e1.trans e2).trans e3⟩;rw[hb];simp[k2,hn]
 by_cases k3:x.kind=3
 ·by_cases c1:x.to=0;case neg=>
   refine gr ?_;exact⟨⟨_,rfl,by simp only[BF];omega⟩,e1⟩
  by_cases c2:x.aE=0;case neg=>
   refine gr ?_;exact⟨⟨_,rfl,by simp only[BF];omega⟩,e1⟩
  refine go ?_;refine WO.bl [x.a] ?_;intro v h2 e2 o2;refine go ?_;refine VA (Y5 h2 v _ aG o2.sl (by simp)) ?_;rintro _ _ ⟨⟨b,rfl,hb⟩,rfl⟩;refine gr ?_;refine⟨⟨_,rfl,?_⟩,e1.trans e2⟩;rw[hb];simp[k3,c1,c2]
 ·refine gr ?_;exact⟨⟨_,rfl,by simp only[BF];omega⟩,e1⟩
end Go.Proofs.YtmejfcakhpihlaaGreatDoor
set_option maxRecDepth 100000
namespace Go.Proofs.YtmejfcakhpihlaaGreatDoor
open Go.Am
theorem _root_.Go.Am.Ext.reg{h h':WA}(e:Ext (inC (zB 0 h)) h'):Ext h (outC h (inC h')):=by
 have x:Ext h (outC h h'):=Ext.outC e;exact x
theorem zCJ(h:WA)(vt vf vb:Value)(T:List WE)(F:List Wa)(sig:Int)(st:Wu h vt T)(sf:Wo h vf F)(hb:∃ a n k,vb=.slice a n k)(hs:0<=sig/\sig<(T.length:Int))(hp:(T.getD sig.toNat default).parts.length<=1000):
  WC Tryz.prog tb 98 [.agg #[vt,vf],.agg #[I sig,vb]] h fun r h'=>r=I ((T.getD sig.toNat default).parts.length:Int)/\Ext h h':=by
 obtain⟨ta,tn,tk,rfl⟩:=zD st;obtain⟨ga,gn,gk,rfl⟩:=zD sf;obtain⟨ba,bn,bk,rfl⟩:=hb;refine en ?_;refine VF ?_;intro p h1 e1 o1;refine go ?_;refine VF ?_;intro q h2 e2 o2;have o1:=o1.ext e2;have bC:=(st.ext e1).ext e2;obtain⟨cs,⟨va,rfl,sa,br⟩,pc,hss⟩:=yM (i:=sig.toNat) bC (by omega);refine gr ?_;exact⟨rfl,e1.trans e2⟩
theorem zFL(l:List Wc){i:Nat}(h:i<l.length):zJ (l.take (i+1))=zJ (l.take i)+((l.getD i default).ins.length:Int):=by
 unfold zJ;rw[Q1,QB h];simp only[Qx,Gq,Option.toList_some,Qm,GP,JE,List.sum_nil,List.getD,QB h,GB,Int.add_zero]
theorem zCe{l:List Wc}(h:∀ b∈l,b.ins.length<=1000):0<=zJ l/\zJ l<=1000*l.length:=by
 unfold zJ;induction l with
 |nil=>simp
 |cons b l ih=>
  have h1:=h b (by simp);have:=ih fun x hx=>h x (by simp[hx]);simp only[Qm,JE,GF];omega
theorem zCl(h:WA)(v:Value)(l:List Wc)(s:Wv h v l)(hl:l.length<=1000)(hi:∀ b∈l,b.ins.length<=1000):
  WC Tryz.prog tb 99 [v] h fun r h'=>r=I (zJ l)/\h=h':=by
 refine en ?_;refine VD (fun i=>l.length-i) (fun i t h1=>h=h1/\zC t 4=I i/\i<=l.length/\zC t 3=I (zJ (l.take i))) 0 ?_ ?_
 ·exact⟨rfl,WH,QK _,WH⟩
 rintro i t _ ab ⟨rfl,s4,ah,s3⟩;have gx:=zCe (l:=l.take i) fun b hb=>hi b (Q5 hb);have Fx:(l.take i).length<=i:=List.length_take_le _ _;refine go ?_;refine VE (fun hc=> ?_) (fun hc=> ?_)<;>simp only[DB]at hc
 ·have ae:i<l.length:=by omega
  obtain⟨cs,⟨vi,rfl,si,fc⟩,pc,hs⟩:=zq s ae;have gW:=zFL l ae;have PN:=hi _ (zE (l:=l) ae);refine go ?_;exact zA (i+1) (by omega) ⟨rfl,Wn,by omega,by rw[gW];exact WH⟩
 ·have aK:i=l.length:=by omega
  subst aK;rw[Qg]at s3;refine gr ?_;exact⟨rfl,rfl⟩
theorem zIF(h:WA)(vt vf:Value)(T:List WE)(F:List Wa)(f:Wa)(cs:List Value)(sm:BC T F)(si:zEw F)(hf:f∈F)(hm:h.mark<=h.n)(st:Wu h vt T)(sf:Wo h vf F)(bP:RFn h cs f):
  WC Tryz.prog tb 90 [.agg #[vt,vf],.agg cs.toArray] h fun r h'=>r=.bool (BW T F.length f)/\Ext h h':=by
 obtain⟨vb,rfl,sb,cD⟩:=bP;obtain⟨ta,tn,tk,rfl⟩:=zD st;obtain⟨ga,gn,gk,rfl⟩:=zD sf;obtain⟨ba,bn,bk,rfl⟩:=zD sb;have hT:=sm.types;have hF:=sm.funcs;have hB:=sm.blocks f hf;have hI:=sm.ins f hf;have hX:=si f hf;have rz:=zCe hI;refine en ?_;refine VF ?_;intro p h1 e1 o1;refine go ?_;refine VF ?_;intro q h2 e2 o2;have o1:=o1.ext e2;have az:=e1.trans e2;have bC:=st.ext az;have cW:=Wo.ext sf az;have th:=Wv.ext sb az;have cS:=zp az hm;have bad:B6 T f=true->BW T F.length f=false:=fun h=>by unfold BW;rw[QF h]
 have il:B6 T f=true↔¬((0<=f.sig/\f.sig<(T.length:Int))/\(T.getD f.sig.toNat default).kind=3/\(1<=(f.blocks.length:Int)/\(f.blocks.length:Int)<=16)/\zJ f.blocks<=128):=by
  unfold B6 zd;simp only[GN,Gj,Bool.and_eq_false_iff,Gk,Qd];omega
 by_cases c1:0<=f.sig;case neg=>
  refine gr ?_;exact⟨by rw[bad (il.2 fun h=>c1 h.1.1)];rfl,az⟩
 by_cases c2:f.sig<(T.length:Int);case neg=>
  refine gr ?_;exact⟨by rw[bad (il.2 fun h=>c2 h.1.2)];rfl,az⟩
 have rC:=sm.parts _ (zE (l:=T) (i:=f.sig.toNat) (by omega));obtain⟨kQ,⟨vp,rfl,sp,pJ⟩,dR,mh⟩:=yM (i:=f.sig.toNat) bC (by omega);by_cases c3:(T.getD f.sig.toNat default).kind=3;case neg=>
  refine gr ?_;exact⟨by rw[bad (il.2 fun h=>c3 h.2.1)];simp[one,c3],az⟩
 by_cases c4:1<=(f.blocks.length:Int);case neg=>
  refine gr ?_;exact⟨by rw[bad (il.2 fun h=>c4 h.2.2.1.1)];rfl,az⟩
 by_cases c5:(f.blocks.length:Int)<=16;case neg=>
  refine gr ?_;exact⟨by rw[bad (il.2 fun h=>c5 h.2.2.1.2)];rfl,az⟩
 refine go ?_;refine VA (zCl h2 _ f.blocks th hB hI) ?_;rintro _ _ ⟨rfl,rfl⟩;by_cases c6:zJ f.blocks<=128;case neg=>
  refine gr ?_;exact⟨by rw[bad (il.2 fun h=>c6 h.2.2.2)];rfl,az⟩
 have jB:B6 T f=false:=by
  cases hh:B6 T f with
  |false=>rfl
  |true=>exact absurd ⟨⟨c1,c2⟩,c3,⟨c4,c5⟩,c6⟩ (il.1 hh)
 have hfn:BW T F.length f= !(f.blocks.any fun b=>Yv b (B0 T F.length f)):=by unfold BW;rw[jB];rfl
 rw[hfn];clear bad il jB hfn;refine go ?_;refine VC 0 rfl rfl ?_;have jd:WB h (inC (zB 0 h2)) p [_,_]:=o1;have mw:WB h1 (inC (zB 0 h2)) q [_,_]:=o2;have lh:Wu (inC (zB 0 h2)) _ T:=bC;have dJ:Wo (inC (zB 0 h2)) _ F:=cW;have fj:Wv (inC (zB 0 h2)) _ f.blocks:=th;refine WJ ?_;refine VA (zCJ (inC (zB 0 h2)) _ _ _ T F f.sig lh dJ ⟨_,_,_,rfl⟩ ⟨c1,c2⟩ (by omega)) ?_;rintro _ h3 ⟨rfl,e3⟩;refine nE e3 ?_;have Lq:WB h1 (inC h3) q [I f.sig,.slice ba bn bk]:=by have:=mw.ext e3;exact this
 have tZ:Wv (inC h3) (.slice ba bn bk) f.blocks:=by have:=Wv.ext fj e3;exact this
 refine WJ ?_;refine zCt o2 (QE _) ?_;refine WJ ?_;refine VA (zCl (inC h3) _ f.blocks tZ hB hI) ?_;rintro _ _ ⟨rfl,rfl⟩;refine nQ ?_;refine WJ ?_;have e5:Ext h2 (outC h2 (inC h3)):=e3.reg;obtain⟨h5,ub⟩:∃ h5,h5=outC h2 (inC h3):=⟨_,rfl⟩;rw[<-ub]at e5;rw[<-ub];clear jd mw lh dJ fj Lq tZ e3 ub;have o1:=o1.ext e5;have o2:=o2.ext e5;have er:=az.trans e5;have Kk:=bC.ext e5;have tf:=Wo.ext cW e5;have AH:=Wv.ext th e5;have hsz:B0 T F.length f=⟨T.length,F.length,((T.getD f.sig.toNat default).parts.length:Int)+zJ f.blocks,f.blocks.length⟩:=rfl;rw[hsz];clear hsz dR sp az e1 e2;generalize((T.getD f.sig.toNat default).parts.length:Int)+zJ f.blocks=aG at *;obtain⟨s,hs⟩:∃ s:By,s=⟨T.length,F.length,aG,f.blocks.length⟩:=⟨_,rfl⟩;rw[<-hs];refine go ?_;refine VD (fun i=>f.blocks.length-i) (fun i t h6=>Ext h5 h6/\zC t 6=I i/\i<=f.blocks.length/\WK (∀ j,j<i->Yv (f.blocks.getD j default) s=false)) 0 ?_ ?_
 ·exact⟨Ext.refl _,WH,QK _,⟨fun j hj=>absurd hj (Qk _)⟩⟩
 rintro i t h6 ab ⟨e6,s6,hi,aF⟩;have o1:=o1.ext e6;have o2:=o2.ext e6;have gG:=er.trans e6;have xE:=Kk.ext e6;have pD:=Wo.ext tf e6;have xN:=Wv.ext AH e6;refine go ?_;refine VE (fun hc=> ?_) (fun hc=> ?_)<;>simp only[DB]at hc;case refine_2=>
  have uc:(f.blocks.any fun b=>Yv b s)=false:=YW fun b hb=>by
   obtain⟨j,hj,rfl⟩:=Zo hb;exact aF.out j (by omega)
  refine gr ?_;exact⟨by rw[uc];rfl,gG⟩
 have ae:i<f.blocks.length:=by omega
 obtain⟨pE,⟨vi,rfl,sn,tY⟩,kR,mo⟩:=zq xN ae;have mR:=zE (l:=f.blocks) ae;have hIB:=hI _ mR;have PO:=hX _ mR;have bad:Yv (f.blocks.getD i default) s=true->(!f.blocks.any fun b=>Yv b s)=false:=fun hb=>by
  rw[Gy.2 ⟨_,mR,hb⟩];rfl
 generalize ud:f.blocks.getD i default=B at *;refine go ?_;refine VD (fun k=>B.ins.length-k) (fun k t h7=>Ext h6 h7/\zC t 7=I k/\k<=B.ins.length/\WK (∀ j,j<k->B2 (B.ins.getD j default) s=true)) 0 ?_ ?_
 ·exact⟨Ext.refl _,WH,QK _,⟨fun j hj=>absurd hj (Qk _)⟩⟩
 rintro k t2 h7 aZ ⟨e7,s7,hk,rD⟩;have o1:=o1.ext e7;have o2:=o2.ext e7;have et:=gG.trans e7;have xF:=xE.ext e7;have xH:=Wo.ext pD e7;have Du:=Wv.ext xN e7;obtain⟨pE,AK,kR,mo⟩:=zq Du ae;rw[ud]at AK;obtain⟨vi,rfl,sn,tY⟩:=AK;refine go ?_;refine VE (fun hd=> ?_) (fun hd=> ?_)<;>simp only[DB]at hd
 ·have bK:k<B.ins.length:=by omega
  have rE:=zE (l:=B.ins) bK;obtain⟨N1,Hz,N2,Fj⟩:=zq sn bK;obtain⟨va,xO,rfl,sa,mj,br,dZ,ho,wh⟩:=id Hz;refine go ?_;refine VC 0 rfl rfl ?_;have jd:WB h (inC (zB 0 h7)) p [_,_]:=o1;have mw:WB h1 (inC (zB 0 h7)) q [_,_]:=o2;have lh:Wu (inC (zB 0 h7)) _ T:=xF;have dJ:Wo (inC (zB 0 h7)) _ F:=xH;have fj:Wv (inC (zB 0 h7)) _ f.blocks:=Du;obtain⟨wD,mS,fN,wE⟩:=zq fj ae;rw[ud]at mS;obtain⟨PQ,rfl,AL,HA⟩:=mS;obtain⟨PR,HB,AM,PS⟩:=zq AL bK;obtain⟨vaX,PT,rfl,og,AN,_,_,_,_⟩:=id HB;obtain⟨xa,xn,xk,rfl⟩:=yo og;obtain⟨ya,yn,yk,rfl⟩:=yo AN;refine WJ ?_;refine VA (zI0 (inC (zB 0 h7)) _ _ T F (B.ins.getD k default) _ aG f.blocks.length lh dJ (by omega) (by omega) HB (PO _ rE)) ?_;rintro _ h8 ⟨rfl,e8⟩;refine nE e8 ?_;refine WJ ?_;have e9:Ext h7 (outC h7 (inC h8)):=e8.reg;obtain⟨h9,ue⟩:∃ h9,h9=outC h7 (inC h8):=⟨_,rfl⟩;rw[<-ue]at e9;rw[<-ue];rw[<-hs];clear jd mw lh dJ fj fN AL AM HB e8 ue og AN;cases bw:B2 (B.ins.getD k default) s with
  |false=>
   refine gr ?_;refine⟨?_,et.trans e9⟩;rw[bad (by unfold Yv;rw[Gy.2 ⟨_,rE,by rw[bw];rfl⟩];rfl)];rfl
  |true=>
   refine go ?_;refine zA (k+1) (by omega) ⟨e7.trans e9,Wn,by omega,⟨fun j hj=> ?_⟩⟩;by_cases e:j=k
   ·subst e;exact bw
   ·exact rD.out j (by omega)
 ·have rF:(B.ins.any fun x=> !B2 x s)=false:=YW fun x hx=>by
   obtain⟨j,hj,rfl⟩:=Zo hx;rw[rD.out j (by omega)];rfl
  refine go ?_;refine VC 0 rfl rfl ?_;have mw:WB h1 (inC (zB 0 h7)) q [_,_]:=o2;have fj:Wv (inC (zB 0 h7)) _ f.blocks:=Du;obtain⟨wD,mS,fN,wE⟩:=zq fj ae;rw[ud]at mS;obtain⟨PQ,rfl,AL,HA⟩:=mS;obtain⟨xa,xn,xk,rfl⟩:=zD AL;refine WJ ?_;refine VA (zJN (inC (zB 0 h7)) B.fin T.length F.length aG f.blocks.length) ?_;rintro _ h8 ⟨rfl,e8⟩;refine nE e8 ?_;refine WJ ?_;have e9:Ext h7 (outC h7 (inC h8)):=e8.reg;obtain⟨h9,ue⟩:∃ h9,h9=outC h7 (inC h8):=⟨_,rfl⟩;rw[<-ue]at e9;rw[<-ue];rw[<-hs];clear mw fj fN AL e8 ue;cases bN:B4 B.fin s with
  |false=>
   refine gr ?_;refine⟨?_,et.trans e9⟩;rw[bad (by unfold Yv;rw[bN,rF];rfl)];rfl
  |true=>
   refine go ?_;refine zA (i+1) (by omega) ⟨(e6.trans e7).trans e9,Wn,by omega,⟨fun j hj=> ?_⟩⟩;by_cases e:j=i
   ·subst e;rw[ud];unfold Yv;rw[bN,rF];rfl
   ·exact aF.out j (by omega)
end Go.Proofs.YtmejfcakhpihlaaGreatDoor
