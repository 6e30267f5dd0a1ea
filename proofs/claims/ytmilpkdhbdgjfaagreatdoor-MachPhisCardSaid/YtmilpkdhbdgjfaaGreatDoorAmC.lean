/- A part of the machine and of its soundness; proves no statement. -/
import Derived.Test.YtmilpkdhbdgjfaaGreatDoorAmB
import Derived.Orders
set_option linter.all false
namespace Go.Am
structure Wk(m:Nat)(h h':WF):Prop where
 n:h.n<=h'.n
 gone:∀ g,g<m->h.get g=none->h'.get g=none
 mark:h'.mark=h.mark
 wr:∀ g,g∈h.wr->g∈h'.wr
 log:∀ g,g<h.mark->g<m->g∉h'.wr->h'.get g=h.get g
 notown:∀ g o,h'.get g=some o->zBc o=false->h.get g=some o
 wf:(∀ g,h.n<=g->h.get g=none)->∀ g,h'.n<=g->h'.get g=none
theorem Wk.refl(m:Nat)(h:WF):Wk m h h:=⟨QE _,fun _ _ x=>x,rfl,fun _ x=>x,fun _ _ _ _=>rfl,fun _ _ x _=>x,fun x=>x⟩
theorem Wk.le{m m':Nat}{h h':WF}(x:Wk m h h')(hm:m'<=m):Wk m' h h':=
 ⟨x.n,fun g hg=>x.gone g (QK hg hm),x.mark,x.wr,fun g h1 h2=>x.log g h1 (QK h2 hm),x.notown,x.wf⟩
theorem Wk.trans{m:Nat}{h h' h'':WF}(x:Wk m h h')(y:Wk m h' h''):Wk m h h'':=
 ⟨QN x.n y.n,fun g hg e=>y.gone g hg (x.gone g hg e),y.mark.trans x.mark,fun g e=>y.wr g (x.wr g e),
  fun g h1 h2 h3=>(y.log g (by rw[x.mark];exact h1) h2 h3).trans (x.log g h1 h2 fun e=>h3 (y.wr g e)),fun g o e k=>x.notown g o (y.notown g o e k) k,fun e=>y.wf (x.wf e)⟩
theorem Wk.on{h h' h'':WF}(x:Wk h.n h h')(y:Wk h'.n h' h''):Wk h.n h h'':=x.trans (y.le x.n)
theorem YC(h:WF){o:Wm}(ho:zBc o=true):Wk h.n h (h.push o):=by
 refine⟨GO _,fun g hg e=> ?_,rfl,fun _ x=>x,fun g _ hg _=> ?_,fun g o' e k=> ?_,fun e g hg=> ?_⟩
 ·rw[zY,QC (Nat.ne_of_lt hg)];exact e
 ·rw[zY,QC (Nat.ne_of_lt hg)]
 ·rw[zY]at e;split at e
  ·cases e;rw[ho]at k;cases k
  ·exact e
 ·have:h.n+1<=g:=hg;rw[zY,QC (by omega)];exact e g (by omega)
theorem zFr{h:WF}{g k:Nat}(hk:k∈h.wr):k∈h.log g:=by
 unfold WF.log;cases Nat.ble h.mark g<;>simp[hk]
theorem zAj{h:WF}{g:Nat}(hg:g<h.mark):g∈h.log g:=by
 unfold WF.log;have:Nat.ble h.mark g=false:=by
  cases hb:Nat.ble h.mark g with
  |false=>rfl
  |true=>have:=QO hb;omega
 simp[this]
theorem Zm(h:WF){g:Nat}{o o':Wm}(hg:h.get g=some o')(ho:zBc o=true)(m:Nat):Wk m h (h.set g o):=by
 refine⟨QE _,fun k _ e=> ?_,rfl,fun k hk=>zFr hk,fun k h1 _ h3=> ?_,fun k o2 e q=> ?_,fun e k hk=> ?_⟩
 ·rw[zT];split
  ·rename_i e';subst e';rw[hg]at e;cases e
  ·exact e
 ·rw[zT];split
  ·rename_i e';subst e';exact absurd (zAj h1) h3
  ·rfl
 ·rw[zT]at e;split at e
  ·cases e;rw[ho]at q;cases q
  ·exact e
 ·have hk:h.n<=k:=hk;rw[zT];split
  ·rename_i e';subst e';rw[e k hk]at hg;cases hg
  ·exact e k hk
theorem zKh(h:WF)(g m:Nat):Wk m h (h.kill g):=by
 refine⟨QE _,fun k _ e=> ?_,rfl,fun k hk=>zFr hk,fun k h1 _ h3=> ?_,fun k o2 e q=> ?_,fun e k hk=> ?_⟩
 ·rw[yh];split
  ·rfl
  ·exact e
 ·rw[yh];split
  ·rename_i e';subst e';exact absurd (zAj h1) h3
  ·rfl
 ·rw[yh]at e;split at e
  ·cases e
  ·exact e
 ·rw[yh];split
  ·rfl
  ·exact e k hk
theorem ZB(h:WF)(k:Nat)(o:Wm)(g:Nat):(h.lay k o).get g=if g=k then some o else h.get g:=zd _ _ _ _
theorem zNm(h:WF){g m:Nat}{o:Wm}(hg:m<=g)(hn:g<h.n)(ho:zBc o=true):Wk m h (h.lay g o):=by
 refine⟨QE _,fun k hk e=> ?_,rfl,fun k hk=>zFr hk,fun k h1 hk h3=> ?_,fun k o2 e q=> ?_,fun e k hk=> ?_⟩
 ·rw[ZB,QC (by omega)];exact e
 ·rw[ZB,QC (by omega)]
 ·rw[ZB]at e;split at e
  ·cases e;rw[ho]at q;cases q
  ·exact e
 ·have hk:h.n<=k:=hk;rw[ZB,QC (by omega)];exact e k hk
def ZD(ih:Ex):Prop:=(∀ c fr h e fr' h',ih.exec c fr h=some (e,fr',h')->Wk h.n h h')/\∀ f args h v h',ih.call f args h=some (v,h')->Wk h.n h h'
theorem zA5{h h':WF}{a:Addr}{vs:List Value}(hx:ze h a vs=some h'):Wk h.n h h':=by
 unfold ze at hx;split at hx
 ·rename_i cells lo hg;simp only[Q2]at hx;split at hx
  ·cases hx;exact Zm h hg rfl _
  ·cases hx
 ·cases hx
theorem zGE{c:Nat}{s x v:Value}{h h':WF}(hx:z8 c s x h=some (v,h')):Wk h.n h h':=by
 have hm:∀ {y ys n},some (mk h (y::ys) n c)=some (v,h')->Wk h.n h h':=fun {y ys n} e=>by
  simp only[mk,QA,QD]at e;obtain⟨rfl,rfl⟩:=e;exact YC h rfl
 unfold z8 at hx;simp only[Q2]at hx;repeat' split at hx
 all_goals first
  |(cases hx;done)
  |exact hm hx
  |(simp only[QA,QD]at hx
    obtain⟨rfl,rfl⟩:=hx
    first
     |exact Wk.refl _ _
     |exact Wk.on (zKh h _ _) (YC _ rfl))
theorem zEt{l:Nat}{r:W2}{h h':WF}{e:WP}{v:Value}(hl:h.get l=some (.loop r))(hx:ZL l r h e=(v,h')):Wk h.n h h':=by
 cases e<;>(
  simp only[ZL,QD]at hx
  obtain⟨rfl,rfl⟩:=hx
  exact Zm h hl rfl _)
theorem zHW{ih:Ex}(hi:ZD ih){l:Nat}{r:W2}{args:List Value}{h h':WF}{v:Value}(hx:zAd ih l r args h=some (v,h')):Wk h.n h h':=by
 unfold zAd at hx;split at hx
 ·rename_i fr1 h1 hex1;split at hx
  ·rename_i r1 hl1;have hst:r1.state=.ready:=by
    cases hs:r1.state<;>first|rfl|(rw[hs]at hx;cases hx)
   rw[hst]at hx;dsimp only[cond_true]at hx;split at hx
   ·rename_i e fr2 h2 hex2;split at hx
    ·rename_i r2 _ hl2;have g1:=hi.1 _ _ _ _ _ _ hex1;have g2:=Zm h1 (o:= .loop {r1 with state:= .busy}) hl1 rfl h1.n;have g3:=hi.1 _ _ _ _ _ _ hex2;have g4:Wk h2.n h2 h':=by
      simp only[QA]at hx;exact zEt hl2 hx
     exact((g1.on g2).on g3).on g4
    ·cases hx
   ·cases hx
  ·cases hx
 ·cases hx
theorem zEe{ih:Ex}(hi:ZD ih){f:Value}{args:List Value}{h h':WF}{v:Value}(hx:zAK ih f args h=some (v,h')):Wk h.n h h':=by
 unfold zAK at hx;split at hx
 ·exact hi.2 _ _ _ _ _ hx
 ·split at hx
  ·simp only[Q2]at hx;split at hx
   ·exact zHW hi hx
   ·cases hx
  ·cases hx
 ·cases hx
theorem zGm{P:Program}{ih:Ex}(hi:ZD ih){name:String}{x:Value}{args:List Value}{h h':WF}{v:Value}(hx:Y2 P ih name x args h=some (v,h')):Wk h.n h h':=by
 unfold Y2 at hx;split at hx
 ·split at hx
  ·exact hi.2 _ _ _ _ _ hx
  ·cases hx
 ·simp only[Q2]at hx;repeat' split at hx
  all_goals first
   |(cases hx;done)
   |(simp only[QP,QD]at hx
     obtain⟨_,_,_,rfl⟩:=hx
     exact Wk.refl _ _)
theorem zFK{x v:Value}{h h':WF}(hx:zBM x h=some (v,h')\/zCT x h=some (v,h')):Wk h.n h h':=by
 rcases hx with hx|hx
 ·unfold zBM at hx;split at hx
  ·cases hx;exact YC h rfl
  ·cases hx
 ·unfold zCT at hx;simp only[Q2]at hx;repeat' split at hx
  all_goals first
   |(cases hx;done)
   |(simp only[QA,QD]at hx
     obtain⟨rfl,rfl⟩:=hx
     first
      |exact Wk.refl _ _
      |exact Zm h (by assumption) rfl _)
theorem zGU{c:Nat}{z:List Value}{x v:Value}{h h':WF}(hx:zBK c z x h=some (v,h')):Wk h.n h h':=by
 unfold zBK at hx;simp only[Q2]at hx;repeat' split at hx
 all_goals first
  |(cases hx;done)
  |(cases hx;exact Wk.refl _ _)
  |(simp only[QP,QD]at hx
    obtain⟨_,q,_,rfl⟩:=hx
    exact zA5 q)
theorem zML{P:Program}{ih:Ex}(hi:ZD ih){t:WI Value}{h h':WF}{op:W4}{v:Value}(hx:WN P ih t h op=some (v,h')):Wk h.n h h':=by
 cases op with
 |store n a x=>
  simp only[WN,Q2]at hx;repeat' split at hx
  all_goals first
   |(cases hx;done)
   |(simp only[QP,QD]at hx;obtain⟨h1,hs,_,rfl⟩:=hx;exact zA5 hs)
 |append c s x=>exact zGE hx
 |copy c d s=>
  simp only[WN,Q2]at hx;repeat' split at hx
  all_goals first
   |(cases hx;done)
   |(cases hx;exact Wk.refl _ _)
   |(simp only[QP,QD]at hx;obtain⟨h1,hs,_,rfl⟩:=hx;exact zA5 hs)
 |call f args=>exact zEe hi hx
 |invoke x n args=>exact zGm hi hx
 |rangeStr x=>exact zFK (.inl hx)
 |nextStr x=>exact zFK (.inr hx)
 |clearS c z x=>exact zGU hx
 |update m k v0=>
  simp only[WN]at hx;repeat' split at hx
  all_goals first
   |(cases hx;done)
   |(simp only[QA,QD]at hx
     obtain⟨rfl,rfl⟩:=hx
     exact Zm h (by assumption) rfl _)
 |delete m k=>
  simp only[WN]at hx;repeat' split at hx
  all_goals first
   |(cases hx;done)
   |(simp only[QA,QD]at hx
     obtain⟨rfl,rfl⟩:=hx
     exact Zm h (by assumption) rfl _)
 |clear m=>
  simp only[WN]at hx;repeat' split at hx
  all_goals first
   |(cases hx;done)
   |(simp only[QA,QD]at hx
     obtain⟨rfl,rfl⟩:=hx
     exact Zm h (by assumption) rfl _)
 |_=>
  simp only[WN,Q2,mk]at hx;repeat' split at hx
  all_goals first
   |(cases hx;done)
   |(cases hx;exact Wk.refl _ _)
   |(cases hx;exact YC h rfl)
   |(simp only[QP,QD]at hx
     obtain⟨_,_,_,rfl⟩:=hx
     first
      |exact Wk.refl _ _
      |exact YC h rfl)
theorem yi{α:Type}{b:Bool}{x:Option α}{y:α}(h:(bif b then x else none)=some y):b=true/\x=some y:=by
 cases b with
 |false=>cases h
 |true=>exact⟨rfl,h⟩
section
variable {P:Program}{ih:Ex}
theorem zHY(hi:ZD ih){t:WI Value}{rd:Option Nat}{h h':WF}{op:W4}{v:Value}{ds:List Deferred}(hx:zk P ih t rd h op=some (v,ds,h')):Wk h.n h h':=by
 unfold zk at hx;split at hx
 ·split at hx
  ·cases hx;exact Wk.refl _ _
  ·cases hx
 ·split at hx
  ·cases hx;exact Wk.refl _ _
  ·cases hx
 ·split at hx
  ·cases hx;exact Wk.refl _ _
  ·cases hx
 ·cases ha:WN P ih t h op with
  |none=>simp[ha]at hx
  |some p=>
   obtain⟨v0,h0⟩:=p;simp only[ha,QA,QD]at hx;obtain⟨rfl,rfl,rfl⟩:=hx;exact zML hi ha
theorem YJ(hi:ZD ih){o:WG}{fr fr':WR}{h h':WF}(hx:yD P ih o fr h=some (fr',h')):Wk h.n h h':=by
 unfold yD at hx;cases hw:zW fr.tm o.guard with
 |false=>
  simp only[hw,QR,QA,QD]at hx;obtain⟨_,rfl⟩:=hx;exact Wk.refl _ _
 |true=>
  simp only[hw,cond_true]at hx;cases hv:zk P ih fr.tm fr.round h o.op with
  |none=>simp[hv]at hx
  |some p=>
   obtain⟨v,ds,h1⟩:=p;simp only[hv,QA,QD]at hx;obtain⟨_,rfl⟩:=hx;exact zHY hi hv
theorem zHk(hi:ZD ih):∀ {l:List WG} {fr fr':WR} {h h':WF},yT P ih l fr h=some (fr',h')->Wk h.n h h':=by
 intro l;induction l with
 |nil=>intro fr fr' h h' hx;simp only[yT,QA,QD]at hx;obtain⟨_,rfl⟩:=hx;exact Wk.refl _ _
 |cons o l ihl=>
  intro fr fr' h h' hx;simp only[yT]at hx;cases ho:yD P ih o fr h with
  |none=>simp[ho]at hx
  |some p=>
   obtain⟨fr1,h1⟩:=p;simp only[ho]at hx;exact(YJ hi ho).on (ihl hx)
theorem zFB{t:WI Value}{op:W4}{o:Wm}{f:Nat->Value}(hx:yg t op=some (o,f)):zBc o=true:=by
 unfold yg at hx;simp only[Q2]at hx;repeat' split at hx
 all_goals first
  |(cases hx;done)
  |(cases hx;rfl)
  |(simp only[QP,QD]at hx;obtain⟨_,_,rfl,_⟩:=hx;rfl)
theorem zHL(hi:ZD ih){g m:Nat}{o:WG}{fr fr':WR}{h h':WF}(hm:m<=h.n)(hg:zG o.op=3->m<=g/\g<h.n)(hx:yB P ih g o fr h=some (fr',h')):Wk m h h':=by
 unfold yB at hx;cases hk:Nat.beq (zG o.op) 3 with
 |false=>
  simp only[hk,QR]at hx;exact(YJ hi hx).le hm
 |true=>
  simp only[hk,cond_true]at hx;obtain⟨h1,h2⟩:=hg (QI hk);cases hw:zW fr.tm o.guard with
  |false=>
   simp only[hw,QR,QA,QD]at hx;obtain⟨_,rfl⟩:=hx;exact Wk.refl _ _
  |true=>
   simp only[hw,cond_true]at hx;cases hv:yg fr.tm o.op with
   |none=>simp[hv]at hx
   |some p=>
    obtain⟨ob,f⟩:=p;simp only[hv,QA,QD]at hx;obtain⟨_,rfl⟩:=hx;exact zNm h h1 h2 (zFB hv)
theorem zPi:∀ {a b:Value},eqV a b=true->a=b:=by
 intro a b h;have addr:∀ {x y:Addr},x.block=y.block->x.off=y.off->x.spot=none->y.spot=none->x=y:=by
  intro x y h1 h2 h3 h4;cases x;cases y;simp_all
 unfold eqV at h;split at h<;>first|(cases h;done)|skip
 all_goals try simp only[QJ,QY,beq_iff_eq,Option.isNone_iff_eq_none]at h
 ·obtain⟨rfl,rfl⟩:=h;rfl
 ·rw[h]
 ·rw[QI h.1,QI h.2]
 ·obtain⟨⟨⟨⟨⟨h1,h2⟩,h3⟩,h4⟩,h5⟩,h6⟩:=h;rw[addr (QI h1) (QI h2) h3 h4,QI h5,QI h6]
 ·rfl
 ·obtain⟨⟨⟨h1,h2⟩,h3⟩,h4⟩:=h;rw[addr (QI h1) (QI h2) h3 h4]
 ·rfl
 ·rw[QI h]
theorem zJk:∀ {l m:List Value},zOq l m=true->l=m
 |[],[],_=>rfl
 |a::l,b::m,h=>by
  simp only[zOq,QJ]at h;rw[zPi h.1,zJk h.2]
def zFf(h:WF)(g:Nat)(vw:Option (Nat×Nat×List Value)):Prop:=∃ off n cells,vw=some (off,n,cells)/\((zv h g).bind fun row=>cut row off n)=some cells
theorem zOW{h:WF}{g:Nat}{vw:Option (Nat×Nat×List Value)}(hs:zDC h g vw=true):zFf h g vw:=by
 unfold zDC at hs;split at hs
 ·rename_i off n cells;split at hs
  ·rename_i c hc;exact⟨off,n,cells,rfl,by rw[hc,zJk hs]⟩
  ·cases hs
 ·cases hs
structure Tr(P:Program)(ih:Ex)(l:List (WG×List Nat))(i:Nat)(FR:Nat->WR)(H:Nat->WF)(G:Nat->Nat):Prop where
 step:∀ k x,l[k]?=some x->yB P ih (G k) x.1 (FR k) {H k with mark:=(H k).n,wr:=[]}=some (FR (k+1),H (k+1))
 next:∀ k x,l[k]?=some x->G (k+1)=bif Nat.beq (zG x.1.op) 3 then G k+1 else G k
 read:∀ k x g k2,l[k]?=some x->zi (FR k).tm x.1=some g->k2<k->(i+k2)∈x.2->g<(H k2).n/\g∉(H (k2+1)).wr
 write:∀ k x k2 x2 g,l[k]?=some x->k2<k->l[k2]?=some x2->zi (FR k2).tm x2.1=some g->(i+k2)∈x.2->g∉(H (k+1)).wr\/zFf (H (k+1)) g (Yw (FR k2).tm (H k2) x2.1.op)
theorem zPR:∀ {l:List (WG×List Nat)} {i g:Nat} {ws:List (Nat×Nat)} {rs:List (Nat×Nat×Option (Nat×Nat×List Value))} {bs ws':List (Nat×Nat)} {fr fr':WR} {h h':WF},yF P ih l i g ws rs bs fr h=some (fr',h',ws')->
  ∃ FR H G,FR 0=fr/\H 0=h/\G 0=g/\FR l.length=fr'/\H l.length=h'/\Tr P ih l i FR H G/\
   (∀ k x g,l[k]?=some x->zi (FR k).tm x.1=some g->(∀ j g',(j,g')∈ws->j∈x.2->g≠g')/\∀ j n,(j,n)∈bs->j∈x.2->g<n)/\
   (∀ k x j g vw,l[k]?=some x->(j,g,vw)∈rs->j∈x.2->g∉(H (k+1)).wr\/zFf (H (k+1)) g vw)/\
   (∀ e,e∈ws->e∈ws')/\∀ k,k<l.length->∀ g,g∈(H (k+1)).wr->∃ j,(j,g)∈ws':=by
 intro l;induction l with
 |nil=>
  intro i g ws rs bs ws' fr fr' h h' hx;simp only[yF,QA,QD]at hx;obtain⟨rfl,rfl,rfl⟩:=hx;exact⟨fun _=>fr,fun _=>h,fun _=>g,rfl,rfl,rfl,rfl,rfl,⟨fun k x e=>by simp at e,fun k x e=>by simp at e,fun k x g k2 e=>by simp at e,fun k x k2 x2 g e=>by simp at e⟩,
   fun k x g e=>by simp at e,fun k x j g vw e=>by simp at e,fun e x=>x,fun k hk=>by simp at hk⟩
 |cons y l ihl=>
  intro i g ws rs bs ws' fr fr' h h' hx;obtain⟨o,un⟩:=y;simp only[yF]at hx;cases ho:yB P ih g o fr {h with mark:=h.n,wr:=[]} with
  |none=>simp[ho]at hx
  |some p=>
  obtain⟨fr1,h1⟩:=p;simp only[ho]at hx;obtain⟨hok,hx⟩:=yi hx;rw[QJ]at hok;obtain⟨hok1,hok2⟩:=hok;obtain⟨FR,H,G,f0,f1,f2,f3,f4,tr,f5,f6,f7,f8⟩:=ihl hx;have hread0:∀ g0,zi fr.tm o=some g0->(∀ j g',(j,g')∈ws->j∈un->g0≠g')/\∀ j n,(j,n)∈bs->j∈un->g0<n:=by
   intro g0 hr0;rw[hr0]at hok1;simp only[QJ,QV]at hok1;refine⟨fun j g' hm hj e=> ?_,fun j n hm hj=> ?_⟩
   ·have:=hok1.1 _ hm;subst e;simp[hj]at this
   ·have:=hok1.2 _ hm;simp[hj]at this;omega
  have hwr0:∀ j g0 vw,(j,g0,vw)∈rs->j∈un->g0∉h1.wr\/zFf h1 g0 vw:=by
   intro j g0 vw hm hj;by_cases hw:g0∈h1.wr
   ·have:=QV.1 hok2 _ hm;simp[hj,hw]at this;exact .inr (zOW this)
   ·exact .inl hw
  refine⟨fun k=>match k with|0=>fr|k+1=>FR k,fun k=>match k with|0=>h|k+1=>H k,fun k=>match k with|0=>g|k+1=>G k,rfl,rfl,rfl,f3,f4,⟨?_,?_,?_,?_⟩,?_,?_,?_,?_⟩
  ·intro k x e;cases k with
   |zero=>
    simp only[GZ,QA]at e;subst e;simp only[f0,f1];exact ho
   |succ k=>exact tr.step k x (by simpa using e)
  ·intro k x e;cases k with
   |zero=>
    simp only[GZ,QA]at e;subst e;simp only[f2,Q2]
   |succ k=>exact tr.next k x (by simpa using e)
  ·intro k x g0 k2 e hr0 hlt hj;cases k with
   |zero=>omega
   |succ k=>
    have e':l[k]?=some x:=by simpa using e
    cases k2 with
    |zero=>
     have hq:=f5 k x g0 e' hr0;refine⟨hq.2 i h.n (Q0 ..) (by simpa using hj),fun hw=> ?_⟩;simp only[f1]at hw;exact hq.1 i g0 (Gg _ (GQ.2 ⟨g0,hw,rfl⟩)) (by simpa using hj) rfl
    |succ k2=>exact tr.read k x g0 k2 e' hr0 (by omega) (by rw[show i+1+k2=i+(k2+1) by omega];exact hj)
  ·intro k x k2 x2 g0 e hlt e2 hr0 hj;cases k with
   |zero=>omega
   |succ k=>
    have e':l[k]?=some x:=by simpa using e
    cases k2 with
    |zero=>
     simp only[GZ,QA]at e2;subst e2;simp only at hr0;refine f6 k x i g0 _ e' ?_ (by simpa using hj);rw[hr0];exact Q0 ..
    |succ k2=>exact tr.write k x k2 x2 g0 e' (by omega) (by simpa using e2) hr0 (by rw[show i+1+k2=i+(k2+1) by omega];exact hj)
  ·intro k x g0 e hr0;cases k with
   |zero=>
    simp only[GZ,QA]at e;subst e;exact hread0 g0 hr0
   |succ k=>
    have hq:=f5 k x g0 (by simpa using e) hr0;exact⟨fun j g' hm=>hq.1 j g' (Gd _ hm),fun j n hm=>hq.2 j n (GC _ hm)⟩
  ·intro k x j g0 vw e hm hj;cases k with
   |zero=>
    simp only[GZ,QA]at e;subst e;simp only[f1];exact hwr0 j g0 vw hm hj
   |succ k=>
    refine f6 k x j g0 vw (by simpa using e) ?_ hj;split
    ·exact GC _ hm
    ·exact hm
  ·intro e he;exact f7 e (Gd _ he)
  ·intro k hk g0 hw;cases k with
   |zero=>
    simp only[f1]at hw;exact⟨i,f7 _ (Gg _ (GQ.2 ⟨g0,hw,rfl⟩))⟩
   |succ k=>exact f8 k (by simpa using hk) g0 hw
end
section
variable {P:Program}{ih:Ex}
def cnt(l:List (WG×List Nat)):Nat:=(l.filter fun x=>Nat.beq (zG x.1.op) 3).length
theorem zH1(l:List (WG×List Nat))(k:Nat):cnt (l.take k)<=cnt l:=((List.take_sublist k l).filter _).length_le
theorem Tr.count{l:List (WG×List Nat)}{i:Nat}{FR:Nat->WR}{H:Nat->WF}{G:Nat->Nat}(tr:Tr P ih l i FR H G):∀ k,k<=l.length->G k=G 0+cnt (l.take k):=by
 intro k;induction k with
 |zero=>intro _;simp[cnt]
 |succ k ihk=>
  intro hk;have hlt:k<l.length:=hk;have e:l[k]?=some l[k]:=QB hlt;rw[tr.next k _ e,GE,e];simp only[Option.toList_some,cnt,List.filter_append,QT];rw[ihk (by omega)];simp only[cnt];cases hb:Nat.beq (zG l[k].1.op) 3 with
  |false=>simp[List.filter_cons,hb]
  |true=>simp[List.filter_cons,hb];omega
theorem Tr.below{l:List (WG×List Nat)}{i:Nat}{FR:Nat->WR}{H:Nat->WF}{G:Nat->Nat}(tr:Tr P ih l i FR H G){k:Nat}{x:WG×List Nat}(e:l[k]?=some x)(h3:zG x.1.op=3):G 0<=G k/\G k<G 0+cnt l:=by
 have hk:k<l.length:=(QM.1 e).1;have h1:=tr.count k (by omega);have h2:=tr.count (k+1) hk;have h4:=tr.next k x e;rw[h3]at h4;have hb:Nat.beq 3 3=true:=rfl;simp only[hb,cond_true]at h4;have:=zH1 l (k+1);omega
theorem Tr.grow{l:List (WG×List Nat)}{i:Nat}{FR:Nat->WR}{H:Nat->WF}{G:Nat->Nat}(tr:Tr P ih l i FR H G)(hi:ZD ih){m:Nat}(hm:m<=G 0)(hg:G 0+cnt l<=(H 0).n):
  ∀ k,(k<=l.length->(H 0).n<=(H k).n)/\(k<l.length->Wk m {H k with mark:=(H k).n,wr:=[]} (H (k+1))):=by
 have step:∀ k,k<l.length->(H 0).n<=(H k).n->Wk m {H k with mark:=(H k).n,wr:=[]} (H (k+1)):=fun k hk hn=>by
  have e:l[k]?=some l[k]:=QB hk;refine zHL hi (by show m<=(H k).n;omega) (fun h3=> ?_) (tr.step k _ e);have:=tr.below e h3;exact⟨by omega,by show G k<(H k).n;omega⟩
 intro k;induction k with
 |zero=>exact⟨fun _=>QE _,fun hk=>step 0 hk (QE _)⟩
 |succ k ihk=>
  have hn:k+1<=l.length->(H 0).n<=(H (k+1)).n:=fun hk=>by
   have h1:=ihk.1 (by omega);have h2:(H k).n<=(H (k+1)).n:=(ihk.2 hk).n;omega
  exact⟨hn,fun hk=>step _ hk (hn (by omega))⟩
theorem zGA(hi:ZD ih){l:List (WG×List Nat)}{fr fr':WR}{h h':WF}(hx:YN P ih l fr h=some (fr',h')):Wk h.n h h':=by
 unfold YN at hx;cases hc:yF P ih l 0 h.n [] [] [] fr {h with n:=h.n+(l.filter fun x=>Nat.beq (zG x.1.op) 3).length} with
 |none=>simp[hc]at hx
 |some p=>
 obtain⟨fr1,h1,ws⟩:=p;simp only[hc,QA,QD]at hx;obtain⟨_,rfl⟩:=hx;obtain⟨FR,H,G,f0,f1,f2,f3,f4,tr,_,_,_,f8⟩:=zPR hc;have hgr:=tr.grow hi (m:=h.n) (by omega) (by rw[f1,f2];exact QE _);have hget:∀ (k g:Nat),({H k with mark:=(H k).n,wr:=[]}:WF).get g=(H k).get g:=fun _ _=>rfl;have h0:∀ g,(H 0).get g=h.get g:=fun g=>by rw[f1];rfl
 have hn0:h.n<=(H 0).n:=by rw[f1];exact G8 _ _
 subst f4;refine⟨?_,fun g hg e=> ?_,rfl,fun g hg=>Gd _ hg,fun g h1 h2 h3=> ?_,fun g o e q=> ?_,fun e g hg=> ?_⟩
 ·have:=(hgr l.length).1 (QE _);show h.n<=(H l.length).n;omega
 ·have:∀ k,k<=l.length->(H k).get g=none:=by
   intro k;induction k with
   |zero=>intro _;rw[h0];exact e
   |succ k ihk=>intro hk;exact((hgr k).2 hk).gone g hg (ihk (by omega))
  exact this l.length (QE _)
 ·have hno:∀ k,k<l.length->g∉(H (k+1)).wr:=fun k hk hw=>by
   obtain⟨j,hj⟩:=f8 k hk g hw;apply h3;refine Gg _ (Gt.2 ⟨GQ.2 ⟨_,hj,rfl⟩,?_⟩);have:Nat.ble h.mark g=false:=by
    cases hb:Nat.ble h.mark g with
    |false=>rfl
    |true=>have:=QO hb;omega
   simp[this]
  have:∀ k,k<=l.length->(H k).get g=h.get g:=by
   intro k;induction k with
   |zero=>intro _;exact h0 g
   |succ k ihk=>
    intro hk;rw[<-ihk (by omega)];refine((hgr k).2 hk).log g ?_ h2 (hno k hk);have:=(hgr k).1 (by omega);show g<(H k).n;omega
  exact this l.length (QE _)
 ·have:∀ k,k<=l.length->(H k).get g=some o->h.get g=some o:=by
   intro k;induction k with
   |zero=>intro _ e;rw[<-h0];exact e
   |succ k ihk=>intro hk e;exact ihk (by omega) (((hgr k).2 hk).notown g o e q)
  exact this l.length (QE _) e
 ·have:∀ k,k<=l.length->∀ g,(H k).n<=g->(H k).get g=none:=by
   intro k;induction k with
   |zero=>
    intro _ g hg;rw[h0];exact e g (by omega)
   |succ k ihk=>intro hk;exact((hgr k).2 hk).wf (ihk (by omega))
  exact this l.length (QE _) g hg
theorem zHC(hi:ZD ih):∀ (n:Nat) {b c:WU} {fr fr':WR} {h h':WF} {e:WP},Zk ih n b c fr h=some (e,fr',h')->Wk h.n h h':=by
 intro n;induction n with
 |zero=>intro b c fr fr' h h' e hx;simp[Zk]at hx
 |succ n ihn=>
  intro b c fr fr' h h' e hx;simp only[Zk]at hx;cases he:ih.exec c fr h with
  |none=>simp[he]at hx
  |some p=>
   obtain⟨e0,fr0,h0⟩:=p;have g0:=hi.1 _ _ _ _ _ _ he;rw[he]at hx;cases e0 with
   |goto l=>
    simp only at hx;cases hf:zx b l with
    |none=>simp only[hf,QA,QD]at hx;obtain⟨_,_,rfl⟩:=hx;exact g0
    |some rest=>simp only[hf]at hx;exact g0.on (ihn hx)
   |_=>simp only[QA,QD]at hx;obtain⟨_,_,rfl⟩:=hx;exact g0
theorem zC6(hi:ZD ih){f:Value}{ps:List Nat}{a b:WU}{fr fr':WR}{d:Nat}{mark:List Deferred}{h h':WF}{e:WP}(hx:Yu ih f ps a b fr d mark h=some (e,fr',h')):Wk h.n h h':=by
 unfold Yu at hx;split at hx
 ·cases hx
 ·rename_i v0 h2 hcv;have g1:=YC h (o:= .loop {state:= .ready,pending:=none,fn:=0,tm:=fr.tm,params:=ps,assign:=a,body:=b,defers:=d}) rfl;have g2:=zEe hi hcv;split at hx
  ·rename_i r hl;have g3:=Zm h2 (o:= .loop {r with state:= .exhausted}) hl rfl h2.n;have g4:=(g1.on g2).on g3;repeat' split at hx
   all_goals first
    |(cases hx;done)
    |(simp only[QA,QD]at hx;obtain⟨_,_,rfl⟩:=hx;exact g4)
  ·cases hx
theorem zGz(hi:ZD ih){f:Value}{ps:List Nat}{a b:WU}{fr fr':WR}{h h':WF}{e:WP}(hx:zAe ih f ps a b fr h=some (e,fr',h')):Wk h.n h h':=by
 unfold zAe at hx;split at hx
 ·exact(YC h rfl).on (zC6 hi hx)
 ·split at hx
  ·exact zC6 hi hx
  ·cases hx
theorem zJG(hi:ZD ih){c:WU}{fr fr':WR}{h h':WF}{e:WP}(hx:zh P ih c fr h=some (e,fr',h')):Wk h.n h h':=by
 cases c with
 |region ops=>
  simp only[zh,QP,QD]at hx;obtain⟨⟨fr1,h1⟩,hx,_,_,rfl⟩:=hx;exact zHk hi hx
 |regionC ops=>
  simp only[zh,QP,QD]at hx;obtain⟨⟨fr1,h1⟩,hx,_,_,rfl⟩:=hx;exact zGA hi hx
 |seq a b=>
  simp only[zh]at hx;cases he:ih.exec a fr h with
  |none=>simp[he]at hx
  |some p=>
   obtain⟨e0,fr0,h0⟩:=p;have g0:=hi.1 _ _ _ _ _ _ he;rw[he]at hx;cases e0 with
   |normal=>exact g0.on (hi.1 _ _ _ _ _ _ hx)
   |_=>simp only[QA,QD]at hx;obtain⟨_,_,rfl⟩:=hx;exact g0
 |cond t a b=>
  simp only[zh]at hx;repeat' split at hx
  all_goals first
   |(cases hx;done)
   |exact hi.1 _ _ _ _ _ _ hx
 |block id b=>
  simp only[zh]at hx;cases he:ih.exec b fr h with
  |none=>simp[he]at hx
  |some p=>
   obtain⟨e0,fr0,h0⟩:=p;have g0:=hi.1 _ _ _ _ _ _ he;rw[he]at hx;cases e0 with
   |exit id'=>
    simp only at hx;split at hx<;>(simp only[QA,QD]at hx;obtain⟨_,_,rfl⟩:=hx;exact g0)
   |_=>simp only[QA,QD]at hx;obtain⟨_,_,rfl⟩:=hx;exact g0
 |loop b=>
  simp only[zh]at hx;cases he:ih.exec b fr h with
  |none=>simp[he]at hx
  |some p=>
   obtain⟨e0,fr0,h0⟩:=p;have g0:=hi.1 _ _ _ _ _ _ he;rw[he]at hx;cases e0 with
   |normal=>exact g0.on (hi.1 _ _ _ _ _ _ hx)
   |_=>simp only[QA,QD]at hx;obtain⟨_,_,rfl⟩:=hx;exact g0
 |rangeFunc f ps a b=>exact zGz hi hx
 |scope b=>exact zHC hi _ hx
 |_=>simp only[zh,QA,QD]at hx;obtain⟨_,_,rfl⟩:=hx;exact Wk.refl _ _
theorem zFh(hi:ZD ih):∀ {ds:List Deferred} {h h':WF},yX ih ds h=some h'->Wk h.n h h':=by
 intro ds;induction ds with
 |nil=>intro h h' hx;simp only[yX,QA]at hx;subst hx;exact Wk.refl _ _
 |cons d ds ihd=>
  intro h h' hx;simp only[yX]at hx;split at hx
  ·split at hx
   ·rename_i hc;exact(hi.2 _ _ _ _ _ hc).on (ihd hx)
   ·cases hx
  ·split at hx
   ·split at hx
    ·rename_i hg;exact(Zm h hg rfl h.n).on (ihd hx)
    ·cases hx
   ·cases hx
  ·split at hx
   ·rename_i hg;exact(Zm h hg rfl h.n).on (ihd hx)
   ·cases hx
  ·cases hx
theorem zIQ(hi:ZD ih){tab:FuncId->Option B8}{f:FuncId}{args:List Value}{h h':WF}{v:Value}(hx:zCV P tab ih f args h=some (v,h')):Wk h.n h h':=by
 unfold zCV at hx;split at hx
 ·cases hx
 ·split at hx
  ·rename_i e fr1 h1 he;obtain⟨_,hx⟩:=yi hx;split at hx
   ·cases hx
   ·rename_i h2 hd;split at hx
    ·cases hx
    ·simp only[QA,QD]at hx;obtain⟨_,rfl⟩:=hx;exact(hi.1 _ _ _ _ _ _ he).on (zFh hi hd)
  ·cases hx
theorem zII(hi:ZD ih){tab:Wv}(hst:∀ f s,tab.stub f=some s->∀ args h v h',s args h=some (v,h')->Wk h.n h h'){f:FuncId}{args:List Value}{h h':WF}{v:Value}
  (hx:zAo P tab ih f args h=some (v,h')):Wk h.n h h':=by
 unfold zAo at hx;split at hx
 ·exact hst _ _ (by assumption) _ _ _ _ hx
 ·exact zIQ hi hx
theorem zNf{tab:Wv}(hst:∀ f s,tab.stub f=some s->∀ args h v h',s args h=some (v,h')->Wk h.n h h'):∀ n,ZD (BI P tab n):=by
 intro n;induction n with
 |zero=>exact⟨(fun c fr h e fr' h' hx=>by cases hx),(fun f args h v h' hx=>by cases hx)⟩
 |succ n ihn=>exact⟨fun c fr h e fr' h' hx=>zJG ihn hx,fun f args h v h' hx=>zII (P:=P) ihn hst hx⟩
end
section
variable {P:Program}{ih:Ex}
theorem Zr{t t2:WI Value}{o:Option Operand}(hx:∀ x∈zEf o,ev t x=ev t2 x):Yv t o=Yv t2 o:=by
 cases o with
 |none=>rfl
 |some x=>simp only[Yv,hx x (by simp[zEf])]
theorem Yh{t t2:WI Value}{l:List Operand}(hx:∀ x∈l,ev t x=ev t2 x):l.map (ev t)=l.map (ev t2):=Gz hx
theorem zA6{t t2:WI Value}{l:List (Nat×Nat×Operand)}(hx:∀ x∈l.map (·.2.2),ev t x=ev t2 x):zr t l=zr t2 l:=by
 unfold zr;refine Gz fun p hp=> ?_;obtain⟨a,b,x⟩:=p;simp only[hx x (GQ.2 ⟨_,hp,rfl⟩)]
theorem zFT{t t2:WI Value}{h:WF}{op:W4}(hx:∀ x∈zEs op,ev t x=ev t2 x):WN P ih t h op=WN P ih t2 h op:=by
 cases op with
 |build z ps=>simp only[WN,zA6 hx]
 |buildSlice l c z ps=>simp only[WN,zA6 hx]
 |slice c x lo hi mx=>
  simp only[zEs,GI,Qy]at hx;simp only[WN,hx x (.inl rfl),Zr (o:=lo) fun y hy=>hx y (.inr (.inl (.inl hy))),Zr (o:=hi) fun y hy=>hx y (.inr (.inl (.inr hy))),Zr (o:=mx) fun y hy=>hx y (.inr (.inr hy))]
 |sliceArr n c x lo hi mx=>
  simp only[zEs,GI,Qy]at hx;simp only[WN,hx x (.inl rfl),Zr (o:=lo) fun y hy=>hx y (.inr (.inl (.inl hy))),Zr (o:=hi) fun y hy=>hx y (.inr (.inl (.inr hy)))]
 |sliceStr x lo hi=>
  simp only[zEs,GI,Qy]at hx;simp only[WN,hx x (.inl rfl),Zr (o:=lo) fun y hy=>hx y (.inr (.inl hy)),Zr (o:=hi) fun y hy=>hx y (.inr (.inr hy))]
 |maxmin m xs=>
  cases xs with
  |nil=>rfl
  |cons x r=>simp only[WN,hx x (Q0 ..),Yh fun y hy=>hx y (GC _ hy)]
 |mkFunc fn a b=>simp only[WN,Yh (l:=a) fun y hy=>hx y (Gg _ hy),Yh (l:=b) fun y hy=>hx y (Gd _ hy)]
 |call f args=>simp only[WN,hx f (Q0 ..),Yh fun y hy=>hx y (GC _ hy)]
 |dfr f args=>rfl
 |dfrClear _ _ _ _=>rfl
 |invoke x n args=>simp only[WN,hx x (Q0 ..),Yh fun y hy=>hx y (GC _ hy)]
 |_=>
  simp only[zEs,GI,List.not_mem_nil,or_false,forall_eq_or_imp,forall_eq]at hx;simp only[WN,hx]
theorem zGk{t t2:WI Value}{rd:Option Nat}{h:WF}{op:W4}(hx:∀ x∈zEs op,ev t x=ev t2 x):zk P ih t rd h op=zk P ih t2 rd h op:=by
 cases op with
 |dfr f args=>simp only[zk,hx f (Q0 ..),Yh fun y hy=>hx y (GC _ hy)]
 |dfrClear ty tp cs m=>simp only[zk,hx m (Q0 ..)]
 |_=>simp only[zk,zFT hx]
theorem zH3{t t2:WI Value}{op:W4}(hx:∀ x∈zEs op,ev t x=ev t2 x):yg t op=yg t2 op:=by
 cases op with
 |buildSlice l c z ps=>simp only[yg,zA6 hx]
 |box x=>simp only[yg,hx x (Q0 ..)]
 |mkSlice c z l cp=>
  simp only[zEs,GI,List.not_mem_nil,or_false,forall_eq_or_imp,forall_eq]at hx;simp only[yg,hx]
 |_=>rfl
theorem zEc{t t2:WI Value}{o:WG}(hx:∀ s∈Zn o,zC t s=zC t2 s):∀ x∈zEs o.op,ev t x=ev t2 x:=by
 intro x hxm;cases x with
 |tmp s=>
  refine hx s (Gg _ ?_);exact Gq.2 ⟨.tmp s,hxm,rfl⟩
 |_=>rfl
theorem Z5{t t2:WI Value}{o:WG}(hx:∀ s∈Zn o,zC t s=zC t2 s):zW t o.guard=zW t2 o.guard:=by
 cases hg:o.guard with
 |none=>rfl
 |some p=>
  obtain⟨j,want⟩:=p;simp only[zW,hx j (by simp[Zn,hg])]
def zBk(t:WI Value):W4->Option Nat
 | .load _ _ x| .sliceArr _ _ x _ _ _=>(match ev t x with
  | .pointer (some a)=>some a.block
  |_=>none)
 | .lookup _ _ m _| .lenMap m=>(match ev t m with
  | .map (some g)=>some g
  |_=>none)
 |_=>none
theorem zLV(t:WI Value)(o:WG)(hw:zW t o.guard=true):zi t o=zBk t o.op:=by
 unfold zi;rw[hw];cases o.op<;>rfl
theorem Yy{h h2:WF}{g:Nat}(e:h2.get g=h.get g):zv h2 g=zv h g:=by unfold zv;rw[e]
theorem zBf{h:WF}{g:Nat}{c:List Value}(e:zv h g=some c):h.get g≠none:=by
 unfold zv at e;intro e';rw[e']at e;cases e
theorem zJV{α:Type}{f:α->Value}{x:Option α}{h h':WF}{v:Value}(e:(x.map fun a=>(f a,h))=some (v,h')):h'=h/\∃ a,x=some a/\f a=v:=by
 simp only[QP,QD]at e;obtain⟨a,e0,e1,e2⟩:=e;exact⟨e2.symm,a,e0,e1⟩
theorem zJM{t:WI Value}{h h':WF}{op:W4}{v:Value}(hk:zG op=0)(hx:WN P ih t h op=some (v,h')):h'=h/\∀ h2:WF,WN P ih t h2 op=some (v,h2):=by
 have plain:∀ {x:Option Value},(x.map fun a=>(a,h))=some (v,h')->h'=h/\∀ h2:WF,(x.map fun a=>(a,h2))=some (v,h2):=fun {x} e=>by
  obtain⟨e1,a,e2,e3⟩:=zJV e;refine⟨e1,fun h2=> ?_⟩;rw[e2,<-e3];rfl
 cases op with
 |mov x=>simp only[WN]at hx |-;cases hx;exact⟨rfl,fun _=>rfl⟩
 |lenC n=>simp only[WN]at hx |-;cases hx;exact⟨rfl,fun _=>rfl⟩
 |pick c a b=>
  simp only[WN]at hx |-;cases hc:ev t c with
  |bool c=>simp only[hc]at hx;cases hx;exact⟨rfl,fun _=>rfl⟩
  |_=>simp[hc]at hx
 |bin op x y=>exact plain hx
 |un op x=>exact plain hx
 |maxmin m xs=>
  cases xs with
  |nil=>cases hx
  |cons x r=>exact plain hx
 |slice c x lo hi mx=>
  simp only[WN]at hx |-;cases h1:Yv t lo with
  |none=>simp[h1]at hx
  |some lo'=>
  cases h2:Yv t hi with
  |none=>simp[h1,h2]at hx
  |some hi'=>
  cases h3:Yv t mx with
  |none=>simp[h1,h2,h3]at hx
  |some mx'=>
  simp only[h1,h2,h3]at hx;exact plain hx
 |isNil k n x=>
  simp only[WN]at hx |-;obtain⟨e1,a,e2,e3⟩:=zJV (f:=fun b=>Value.bool (if n then !b else b)) hx;exact⟨e1,fun h2=>by rw[e2,<-e3];rfl⟩
 |build z ps=>
  simp only[WN]at hx |-;obtain⟨e1,a,e2,e3⟩:=zJV (f:=fun cells:List Value=>Value.agg cells.toArray) hx;exact⟨e1,fun h2=>by rw[e2,<-e3];rfl⟩
 |len x=>
  simp only[WN]at hx |-;cases hl:zMf (ev t x)with
  |none=>rw[hl]at hx;cases hx
  |some n=>
   rw[hl]at hx;cases hx;exact⟨rfl,fun h2=>rfl⟩
 |part agg off n x=>
  simp only[WN]at hx |-;cases hv:ev t x with
  |agg cs=>simp only[hv]at hx;exact plain hx
  |_=>simp[hv]at hx
 |elem len agg n x i=>
  simp only[WN]at hx |-;cases hv:ev t x with
  |agg cs=>
   cases hi:BH (ev t i)with
   |none=>simp[hv,hi]at hx
   |some i'=>
    simp only[hv,hi]at hx;obtain⟨hc,hx⟩:=yi hx;simp only[hc,cond_true];exact plain hx
  |_=>simp[hv]at hx
 |binB neg x y=>
  simp only[WN]at hx |-;cases hv:ev t x with
  |bool a=>
   cases hw:ev t y with
   |bool b=>simp only[hv,hw]at hx;cases hx;exact⟨rfl,fun _=>rfl⟩
   |_=>simp[hv,hw]at hx
  |_=>simp[hv]at hx
 |binP op ty x y=>
  simp only[WN]at hx |-;obtain⟨hc,hx⟩:=yi hx;split at hx
  ·rename_i v0 hp;obtain⟨hc2,hx⟩:=yi hx;cases hx;exact⟨rfl,fun h2=>by simp only[hc,hp,hc2,cond_true]⟩
  ·cases hx
 |convP s d x=>
  simp only[WN]at hx |-;obtain⟨hc,hx⟩:=yi hx;split at hx
  ·rename_i v0 hp;obtain⟨hc2,hx⟩:=yi hx;cases hx;exact⟨rfl,fun h2=>by simp only[hc,hp,hc2,cond_true]⟩
  ·cases hx
 |conv k x=>
  simp only[WN]at hx |-;cases hv:ev t x with
  |int k' n=>simp only[hv]at hx;cases hx;exact⟨rfl,fun _=>rfl⟩
  |_=>simp[hv]at hx
 |idx c x i=>
  simp only[WN]at hx |-;split at hx
  ·rename_i a len k i' q1 q2;obtain⟨hc,hx⟩:=yi hx;cases hx;exact⟨rfl,fun h2=>by simp only[q1,q2,hc,cond_true]⟩
  ·cases hx
 |idxArr len c x i=>
  simp only[WN]at hx |-;split at hx
  ·rename_i a i' q1 q2;obtain⟨hc,hx⟩:=yi hx;cases hx;exact⟨rfl,fun h2=>by simp only[q1,q2,hc,cond_true]⟩
  ·cases hx
 |cplx x y=>exact plain hx
 |cpart im x=>exact plain hx
 |assert ty ok x=>exact plain hx
 |typeOf rt x=>exact plain hx
 |mkIface ty x=>simp only[WN]at hx |-;cases hx;exact⟨rfl,fun _=>rfl⟩
 |nilCheck x=>exact plain hx
 |fld off x=>
  simp only[WN]at hx |-;split at hx
  ·rename_i a q1;obtain⟨hc,hx⟩:=yi hx;cases hx;exact⟨rfl,fun h2=>by simp only[q1,hc,cond_true]⟩
  ·cases hx
 |elemStr x i=>
  simp only[WN]at hx |-;split at hx
  ·rename_i s i' q1 q2;split at hx
   ·rename_i b q3;cases hx;exact⟨rfl,fun h2=>by simp only[q1,q2,q3]⟩
   ·cases hx
  ·cases hx
 |sliceStr x lo hi=>
  simp only[WN]at hx |-;split at hx
  ·rename_i s lo' hi' q1 q2 q3;obtain⟨hc,hx⟩:=yi hx;cases hx;exact⟨rfl,fun h2=>by simp only[q1,q2,q3,hc,cond_true]⟩
  ·cases hx
 |lenStr x=>
  simp only[WN]at hx |-;split at hx
  ·rename_i s q1;cases hx;exact⟨rfl,fun h2=>by simp only[q1]⟩
  ·cases hx
 |mkFunc fn a b=>
  simp only[WN]at hx |-;split at hx
  ·cases hx;exact⟨rfl,fun _=>rfl⟩
  ·cases hx
 |extract x i=>
  simp only[WN]at hx |-;split at hx
  ·rename_i vs q1;split at hx
   ·rename_i v0 q2;cases hx;exact⟨rfl,fun h2=>by simp only[q1,q2]⟩
   ·cases hx
  ·cases hx
 |_=>cases hk
theorem zEa{t:WI Value}{h h':WF}{op:W4}{v:Value}(hk:zG op=0\/zG op=1)(hx:WN P ih t h op=some (v,h')):
  h'=h/\(∀ g,zBk t op=some g->h.get g≠none)/\∀ h2:WF,(∀ g,zBk t op=some g->h2.get g=h.get g\/zFf h2 g (Yw t h op))->WN P ih t h2 op=some (v,h2):=by
 have quiet:∀ {x:Option Value},(x.map fun v=>(v,h))=some (v,h')->h'=h/\x=some v:=fun {x} e=>by
  simp only[QP,QD]at e;obtain⟨v0,e0,rfl,rfl⟩:=e;exact⟨rfl,e0⟩
 cases op with
 |load agg n x=>
  simp only[WN]at hx;simp only[zBk,WN];split at hx
  ·rename_i a ha;simp only[ha];cases hs:a.spot.isNone with
   |false=>simp[hs]at hx
   |true=>
   simp only[hs,cond_true]at hx |-;obtain⟨e1,e2⟩:=quiet hx;refine⟨e1,fun g hg=> ?_,fun h2 hh=> ?_⟩
   ·cases hg;cases hr:zv h a.block with
    |none=>simp[hr]at e2
    |some c=>exact zBf hr
   ·rcases hh _ rfl with q|⟨off,n',cells,q1,q2⟩
    ·rw[Yy q,e2];rfl
    ·simp only[Yw,ha,QP,QD]at q1;obtain⟨c,q3,rfl,rfl,rfl⟩:=q1;rw[q2];rw[q3]at e2;rw[e2];rfl
  ·cases hx
 |sliceArr n c x lo hi mx=>
  simp only[WN]at hx;simp only[zBk,WN];split at hx
  ·rename_i a ha;simp only[ha];split at hx
   ·rename_i lo' hi' cells q1 q2 q4;obtain⟨hc,hx⟩:=yi hx;cases hx;refine⟨rfl,fun g hg=> ?_,fun h2 hh=> ?_⟩
    ·cases hg;exact zBf q4
    ·have hh:=(hh _ rfl).resolve_right (fun⟨_,_,_,q,_⟩=>by cases q);rw[Yy hh];simp only[q1,q2,q4,hc,cond_true]
   ·cases hx
  ·cases hx
 |lenMap m=>
  simp only[WN]at hx;simp only[zBk,WN];split at hx
  ·rename_i hm;simp only[hm];cases hx;exact⟨rfl,(fun g hg=>by cases hg),fun h2 _=>rfl⟩
  ·rename_i g hm;simp only[hm];split at hx
   ·rename_i es cl hg;cases hx;refine⟨rfl,(fun g' hg'=>by cases hg';rw[hg];simp),fun h2 hh=> ?_⟩;have hh:=(hh _ rfl).resolve_right (fun⟨_,_,_,q,_⟩=>by cases q);rw[hh,hg]
   ·cases hx
  ·cases hx
 |lookup ok z m k=>
  simp only[WN]at hx;simp only[zBk,WN];have look:∀ (h1:WF) (es:Option (List MapEntry)),(match es with
    |none=>none
    |some es=>match ev t k with
     | .int kk n=>(match Z9 (.int kk n) es 0 with
      |some (some (_,v))=>some (if ok then Value.tuple #[v,.bool true]else v,h1)
      |some none=>some (if ok then .tuple #[z,.bool false]else z,h1)
      |none=>none)
     |_=>none)=((es.bind fun es=>match ev t k with
     | .int kk n=>(match Z9 (.int kk n) es 0 with
      |some (some (_,v))=>some (if ok then Value.tuple #[v,.bool true]else v)
      |some none=>some (if ok then .tuple #[z,.bool false]else z)
      |none=>none)
     |_=>none).map fun v=>(v,h1)):=by
   intro h1 es;cases es with
   |none=>rfl
   |some es=>
    simp only[QQ];cases hk':ev t k with
    |int kk n=>
     simp only;cases hf:Z9 (.int kk n) es 0 with
     |none=>rfl
     |some r=>cases r with
      |none=>rfl
      |some q=>rfl
    |_=>rfl
  have hx:=(look h _).symm.trans hx;obtain⟨e1,e2⟩:=quiet hx;refine⟨e1,fun g hg=> ?_,fun h2 hh=> ?_⟩
  ·intro hn;split at hg
   ·rename_i g' hm;cases hg;simp only[hm,hn,Option.bind_none]at e2;cases e2
   ·cases hg
  ·refine(look h2 _).trans ?_;cases hm:ev t m with
   |map r=>
    cases r with
    |none=>
     rw[hm]at e2;exact congrArg (Option.map fun v=>(v,h2)) e2
    |some g=>
     rw[hm]at e2;simp only[hm]at hh;have hh:=(hh g rfl).resolve_right (fun⟨_,_,_,q,_⟩=>by cases q);simp only[hh];exact congrArg (Option.map fun v=>(v,h2)) e2
   |_=>rw[hm]at e2;simp at e2
 |alloc _=>rcases hk with e|e<;>cases e
 |box _=>rcases hk with e|e<;>cases e
 |buildSlice _ _ _ _=>rcases hk with e|e<;>cases e
 |mkSlice _ _ _ _=>rcases hk with e|e<;>cases e
 |mkMap=>rcases hk with e|e<;>cases e
 |stuck=>rcases hk with e|e<;>cases e
 |store _ _ _=>rcases hk with e|e<;>cases e
 |append _ _ _=>rcases hk with e|e<;>cases e
 |copy _ _ _=>rcases hk with e|e<;>cases e
 |update _ _ _=>rcases hk with e|e<;>cases e
 |delete _ _=>rcases hk with e|e<;>cases e
 |clear _=>rcases hk with e|e<;>cases e
 |call _ _=>rcases hk with e|e<;>cases e
 |dfr _ _=>rcases hk with e|e<;>cases e
 |dfrClear _ _ _ _=>rcases hk with e|e<;>cases e
 |_=>
  have q:=zJM (by rcases hk with e|e<;>first|exact e|cases e) hx;exact⟨q.1,(fun g hg=>by cases hg),fun h2 _=>q.2 h2⟩
end
section
variable {P:Program}
theorem zJH{nt:Nat}{ops:Array Oper}:∀ {l:List Oper} {as:List WG},YI P nt ops l=some as->as.length=l.length/\∀ (i:Nat) (o:Oper) (ao:WG),l[i]?=some o->as[i]?=some ao->zCZ P nt ops o=some ao:=by
 intro l;induction l with
 |nil=>intro as hc;simp only[YI,QA]at hc;subst hc;exact⟨rfl,fun i o ao h=>by simp at h⟩
 |cons x l ih=>
  intro as hc;simp only[YI]at hc;cases h1:zCZ P nt ops x with
  |none=>simp[h1]at hc
  |some a=>
  cases h2:YI P nt ops l with
  |none=>simp[h1,h2]at hc
  |some as2=>
  simp only[h1,h2,QA]at hc;subst hc;obtain⟨e1,e2⟩:=ih h2;refine⟨by simp[e1],fun i o ao ho ha=> ?_⟩;cases i with
  |zero=>simp at ho ha;subst ho ha;exact h1
  |succ i=>exact e2 i o ao (by simpa using ho) (by simpa using ha)
def Bf(b:List Nat)(j i:Nat):Bool:=(b.getD j 0).testBit i
theorem zLZ{b:List Nat}:∀ {l:List (Nat×WG)},zDU b l=true->∀ (i j:Nat) (x y:Nat×WG),i<j->l[i]?=some x->l[j]?=some y->zGn b x y=true:=by
 intro l;induction l with
 |nil=>intro _ i j x y _ hx;simp at hx
 |cons z l ih=>
  intro hp i j x y hij hx hy;simp only[zDU,QJ]at hp;cases j with
  |zero=>omega
  |succ j=>
   have hy':l[j]?=some y:=by simpa using hy
   cases i with
   |zero=>
    simp only[GZ,QA]at hx;subst hx;exact QV.1 hp.1 y (Ga hy')
   |succ i=>exact ih hp.2 i j x y (by omega) (by simpa using hx) hy'
theorem zBR{as:List WG}{n i:Nat}{ao:WG}(hn:as.length=n)(ha:as[i]?=some ao):((List.range n).zip as)[i]?=some (i,ao):=by
 have hi:i<as.length:=(QM.1 ha).1;rw[List.getElem?_zip_eq_some];exact⟨by rw[List.getElem?_range (by omega)],ha⟩
theorem zLm{b:List Nat}{i j:Nat}{ai aj:WG}(h:zGn b (i,ai) (j,aj)=true):Bf b j i=true\/
  (¬(zG aj.op=2/\2<=zG ai.op)/\(∀ d,ai.dst=some d->d∉Zn aj/\aj.dst≠some d)/\∀ d,aj.dst=some d->d∉Zn ai):=by
 simp only[zGn,GM,QJ]at h;rcases h with h|⟨⟨h1,h2⟩,h3⟩
 ·exact .inl h
 ·refine .inr ⟨fun⟨k1,k2⟩=> ?_,fun d hd=> ?_,fun d hd=> ?_⟩
  ·rw[k1]at h1;have:Nat.ble 2 (zG ai.op)=true:=QF k2;rw[this]at h1;cases h1
  ·rw[hd]at h2;simp only[QJ,Gp,List.contains_eq_mem,JD]at h2;refine⟨h2.1,fun e=> ?_⟩;rw[e]at h2;simp at h2
  ·rw[hd]at h3;simpa using h3
theorem zO2{b:List Nat}:∀ {as:List WG} {before:List (Nat×W4)} {j:Nat},(zBV b before j as).length=as.length/\
  ∀ (k:Nat) (ao:WG),as[k]?=some ao->∃ un,(zBV b before j as)[k]?=some (ao,un)/\
   (∀ i o,(i,o)∈before->Bf b (j+k) i=false->((zG o=1/\zG ao.op=2)\/(2<=zG o/\zG ao.op=1))->i∈un)/\
   ∀ k2 ao2,k2<k->as[k2]?=some ao2->Bf b (j+k) (j+k2)=false->((zG ao2.op=1/\zG ao.op=2)\/(2<=zG ao2.op/\zG ao.op=1))->(j+k2)∈un:=by
 intro as;induction as with
 |nil=>intro before j;exact⟨rfl,fun k ao h=>by simp at h⟩
 |cons a as ih=>
  intro before j;obtain⟨e1,e2⟩:=ih (before:=before++[(j,a.op)]) (j:=j+1);refine⟨by simp[zBV,e1],fun k ao ha=> ?_⟩;cases k with
  |zero=>
   simp only[GZ,QA]at ha;subst ha;refine⟨_,rfl,fun i o hm hb hk=> ?_,fun k2 ao2 hk=>by omega⟩;refine Gq.2 ⟨(i,o),hm,?_⟩;have hb':((b.getD j 0).testBit i)=false:=hb;have hk':((Nat.beq (zG o) 1&&Nat.beq (zG a.op) 2)||(Nat.ble 2 (zG o)&&Nat.beq (zG a.op) 1))=true:=by
    rcases hk with⟨q1,q2⟩|⟨q1,q2⟩
    ·rw[q1,q2];rfl
    ·rw[q2,QF q1];simp
   simp only[hb',hk',Qa,Qg,cond_true]
  |succ k=>
   obtain⟨un,u1,u2,u3⟩:=e2 k ao (by simpa using ha);refine⟨un,by simpa [zBV]using u1,fun i o hm hb hk=>u2 i o (Gg _ hm) (by rw[show j+1+k=j+(k+1) by omega];exact hb) hk,fun k2 ao2 hk2 ha2 hb hk=> ?_⟩;cases k2 with
   |zero=>
    simp only[GZ,QA]at ha2;subst ha2;exact u2 j a.op (Gd _ (Qe.2 rfl)) (by rw[show j+1+k=j+(k+1) by omega];exact hb) hk
   |succ k2=>
    have:=u3 k2 ao2 (by omega) (by simpa using ha2) (by rw[show j+1+k=j+(k+1) by omega,show j+1+k2=j+(k2+1) by omega];exact hb) hk;rw[show j+(k2+1)=j+1+k2 by omega];exact this
def bits(acc:List Nat)(o:Oper):Nat:=o.after.toList.foldl (fun s e=>bif Region.binds .any e then s|||2 ^ e.on|||acc.getD e.on 0 else s) 0
theorem zK9(acc:List Nat)(i:Nat):∀ (l:List Edge) (s:Nat),(l.foldl (fun s e=>bif Region.binds .any e then s|||2 ^ e.on|||acc.getD e.on 0 else s) s).testBit i=true->
  s.testBit i=true\/∃ e∈l,Region.binds .any e=true/\(i=e.on\/(acc.getD e.on 0).testBit i=true):=by
 intro l;induction l with
 |nil=>intro s h;exact .inl h
 |cons e l ih=>
  intro s h;rw[List.foldl_cons]at h;rcases ih _ h with h1|⟨e',h1,h2⟩
  ·cases hb:Region.binds .any e with
   |false=>rw[hb]at h1;exact .inl h1
   |true=>
    rw[hb]at h1;simp only[cond_true,Nat.testBit_or,GM,Nat.testBit_two_pow,QY]at h1;rcases h1 with(h1|h1)|h1
    ·exact .inl h1
    ·exact .inr ⟨e,Q0 ..,hb,.inl h1.symm⟩
    ·exact .inr ⟨e,Q0 ..,hb,.inr h1⟩
  ·exact .inr ⟨e',GC _ h1,h2⟩
theorem zMS:∀ (l:List Oper) (acc:List Nat),(∃ r,Zf l acc=acc++r)/\∀ (k:Nat) (o:Oper),l[k]?=some o->(Zf l acc).getD (acc.length+k) 0=bits ((Zf l acc).take (acc.length+k)) o:=by
 intro l;induction l with
 |nil=>intro acc;exact⟨⟨[],by simp[Zf]⟩,fun k o h=>by simp at h⟩
 |cons x l ih=>
  intro acc;obtain⟨⟨r,hr⟩,hk⟩:=ih (acc++[bits acc x]);have hb:Zf (x::l) acc=Zf l (acc++[bits acc x]):=rfl;refine⟨⟨bits acc x::r,by rw[hb,hr];simp⟩,fun k o ho=> ?_⟩;cases k with
  |zero=>
   simp only[GZ,QA]at ho;subst ho;rw[hb,hr];simp[QL]
  |succ k=>
   have:=hk k o (by simpa using ho);rw[hb,show acc.length+(k+1)=(acc++[bits acc x]).length+k by simp;omega];exact this
theorem zFW{ops:Array Oper}{S:Nat->Prop}(hS:∀ j o,S j->ops[j]?=some o->∀ e∈o.after.toList,Region.binds .any e=true->S e.on):
  ∀ (n j:Nat) (o:Oper),j<n->ops[j]?=some o->(∀ e∈o.after.toList,Region.binds .any e=true->S e.on)->∀ i,Bf (Zf ops.toList []) j i=true->S i:=by
 intro n;induction n with
 |zero=>intro j o h;omega
 |succ n ih=>
  intro j o hj ho hd i hb;have h1:=(zMS ops.toList []).2 j o (by simpa using ho);simp only[Gh,Qk]at h1;unfold Bf at hb;rw[h1]at hb;rcases zK9 _ i _ 0 hb with h2|⟨e,h2,h3,h4⟩
  ·simp at h2
  ·rcases h4 with rfl|h4
   ·exact hd e h2 h3
   ·have hlt:e.on<j:=by
     rcases GB e.on j with q|q
     ·exact q
     ·rw[QL,Q4,QC (by omega)]at h4;simp at h4
    rw[QL,Q4,QG hlt,<-QL]at h4;have hlen:e.on<ops.size:=by
     have:=(Gs.1 ho).1;omega
    exact ih e.on ops[e.on] (by omega) (Qt hlen) (fun e' he' hb'=>hS e.on _ (hd e h2 h3) (Qt hlen) e' he' hb') i h4
theorem zLU{ops:Array Oper}(he:zDi ops=true){j:Nat}{o:Oper}(ho:ops[j]?=some o){e:Edge}(hm:e∈o.after.toList)(hb:Region.binds .any e=true):e.on<j:=by
 unfold zDi at he;rw[QV]at he;have h1:(o,j)∈ops.toList.zipIdx:=by
  rw[List.mem_zipIdx_iff_getElem?];simpa using ho
 have:=he _ h1;simp only[QV]at this;have:=this e hm;rw[hb]at this;simp at this;omega
end
open Go.RowKit
section
variable {P:Program}{B:Nat}{σ σ':Nat->Option Pl}{h h2:WF}{w w':World}
theorem Wg.sub(hr:Wg P B σ h w)(hs:∀ g o,h2.get g=some o->h.get g=some o)(hn:h2.n=h.n):Wg P B σ h2 w:=
 ⟨hr.globals,fun g pl hg=>by rw[hn];exact hr.lt g pl hg,fun g o hg=>hr.live g o (hs g o hg),fun g o g' o' pl pl' a b=>hr.apart g o g' o' pl pl' (hs _ _ a) (hs _ _ b),hr.le⟩
theorem Wy.same(hr:Wg P B σ h w)(hs:∀ g o,h2.get g=some o->h.get g=some o)(hn:h2.n=h.n):Wy P B σ h w σ h2 w:=
 ⟨.refl _,hr.sub hs hn,rfl,rfl,rfl,QE _,fun _ _ _=>rfl,fun b ⟨g,o,pl,h1,h3⟩=> .inr ⟨g,o,pl,hs _ _ h1,h3⟩,Nat.le_of_eq hn.symm,fun _ _=>rfl⟩
theorem zJS(Q:Nat->Nat->Wm->Prop)(hQ:∀ j g ob g' ob',Q j g ob->Q j g' ob'->g=g'/\ob=ob')(h:WF):∀ N,∃ h2:WF,h2.n=h.n/\
  ∀ g,(∃ j ob,j<N/\Q j g ob/\h2.get g=some ob)\/((∀ j ob,j<N->¬Q j g ob)/\h2.get g=h.get g):=by
 intro N;induction N with
 |zero=>exact⟨h,rfl,fun g=> .inr ⟨fun j ob hj=>by omega,rfl⟩⟩
 |succ N ih=>
  obtain⟨h2,e1,e2⟩:=ih;by_cases hq:∃ g ob,Q N g ob
  ·obtain⟨g0,ob0,hq⟩:=hq;refine⟨h2.lay g0 ob0,e1,fun g=> ?_⟩;by_cases hg:g=g0
   ·subst hg;exact .inl ⟨N,ob0,by omega,hq,by rw[ZB,QG rfl]⟩
   ·rcases e2 g with⟨j,ob,a1,a2,a3⟩|⟨a1,a2⟩
    ·exact .inl ⟨j,ob,by omega,a2,by rw[ZB,QC hg];exact a3⟩
    ·refine .inr ⟨fun j ob hj hjq=> ?_,by rw[ZB,QC hg];exact a2⟩;rcases GB j N with q|q
     ·exact a1 j ob q hjq
     ·have:j=N:=by omega
      subst this;exact hg (hQ _ _ _ _ _ hjq hq).1
  ·refine⟨h2,e1,fun g=> ?_⟩;rcases e2 g with⟨j,ob,a1,a2,a3⟩|⟨a1,a2⟩
   ·exact .inl ⟨j,ob,by omega,a2,a3⟩
   ·refine .inr ⟨fun j ob hj hjq=> ?_,a2⟩;rcases GB j N with q|q
    ·exact a1 j ob q hjq
    ·have:j=N:=by omega
     subst this;exact hq ⟨_,_,hjq⟩
theorem BO.symm'{pl o pl' o'}(h:BO pl o pl' o'):BO pl' o' pl o:=by
 cases o<;>cases o'<;>first|exact h.elim|exact⟨fun x=>h.1 ⟨x.2,x.1⟩,h.2.2,h.2.1⟩
theorem zLg{HS Hi H1 HS1:WF}(hr:Wg P B σ HS w)(hsub:∀ g o,Hi.get g=some o->HS.get g=some o)(hn:HS.n=Hi.n)(ev:Wy P B σ Hi w σ' H1 w')(hgr:Wk Hi.n Hi H1)(hn1:HS1.n=H1.n)
  (hp:∀ g o,HS1.get g=some o->H1.get g=some o\/(HS.get g=some o/\zBc o=true/\Hi.get g=none)):Wy P B σ HS w σ' HS1 w':=by
 have more':∀ g o,HS.get g=some o->zBc o=true->Hi.get g=none->∃ pl,σ g=some pl/\σ' g=some pl/\Ba P σ' pl o w'/\B<=pl.b/\pl.b<w.heap.size/\¬zIz σ Hi pl.b:=by
  intro g o hg ho hno;obtain⟨pl,h1,h3,h4⟩:=hr.live g o hg;have hnot:¬zIz σ Hi pl.b:=by
   rintro⟨g2,o2,pl2,k1,k2,k3,k4⟩;have hne:g2≠g:=fun e=>by subst e;rw[hno]at k1;cases k1
   have:=hr.apart g2 o2 g o pl2 pl (hsub _ _ k1) hg hne k3 h1 k4;cases o2 with
   |row c own lo=>
    cases o with
    |row c' own' lo'=>exact this.1 ⟨k2,ho⟩
    |_=>exact this.elim
   |_=>exact this.elim
  exact⟨pl,h1,ev.le _ _ h1,h3.keep ev.le (ev.kept _ (hr.lt _ _ h1).2 hnot),h4 ho,(hr.lt _ _ h1).2,hnot⟩
 have rel:Wg P B σ' HS1 w':=by
  refine⟨ev.rel.globals,fun g pl hg=>by rw[hn1];exact ev.rel.lt g pl hg,fun g o hg=> ?_,?_,ev.rel.le⟩
  ·rcases hp g o hg with h1|⟨h1,h3,h4⟩
   ·exact ev.rel.live g o h1
   ·obtain⟨pl,_,q2,q3,q4,_⟩:=more' g o h1 h3 h4;exact⟨pl,q2,q3,fun _=>q4⟩
  ·have cross:∀ g o g2 o2 pl pl2,H1.get g=some o->HS.get g2=some o2->zBc o2=true->Hi.get g2=none->g≠g2->σ' g=some pl->σ' g2=some pl2->pl.b=pl2.b->BO pl o pl2 o2:=by
    intro g o g2 o2 pl pl2 a1 a2 a3 a4 hne s1 s2 hb;obtain⟨pm,q1,q2,_,_,q5,q6⟩:=more' g2 o2 a2 a3 a4;rw[s2]at q2;cases q2;cases hown:zBc o with
    |true=>
     rcases ev.from_ pl.b ⟨g,o,pl,a1,hown,s1,rfl⟩with k|k
     ·rw[hb]at k;omega
     ·rw[hb]at k;exact absurd k q6
    |false=>
     have k:=hgr.notown g o a1 hown;obtain⟨pl3,z1,_⟩:=hr.live g o (hsub _ _ k);have:=ev.le _ _ z1;rw[s1]at this;cases this;exact hr.apart g o g2 o2 pl pl2 (hsub _ _ k) a2 hne z1 q1 hb
   intro g o g2 o2 pl pl2 a1 a2 hne s1 s2 hb;rcases hp g o a1 with h1|⟨h1,h3,h4⟩<;>rcases hp g2 o2 a2 with k1|⟨k1,k3,k4⟩
   ·exact ev.rel.apart g o g2 o2 pl pl2 h1 k1 hne s1 s2 hb
   ·exact cross g o g2 o2 pl pl2 h1 k1 k3 k4 hne s1 s2 hb
   ·exact(cross g2 o2 g o pl2 pl k1 h1 h3 h4 (fun e=>hne e.symm) s2 s1 hb.symm).symm'
   ·obtain⟨p1,u1,u2,_⟩:=more' g o h1 h3 h4;obtain⟨p2,v1,v2,_⟩:=more' g2 o2 k1 k3 k4;rw[s1]at u2;cases u2;rw[s2]at v2;cases v2;exact hr.apart g o g2 o2 pl pl2 h1 k1 hne u1 v1 hb
 refine⟨ev.le,rel,ev.os,ev.tape,ev.output,ev.size,fun b hb hno=>ev.kept b hb fun⟨g,o,pl,h1,h3⟩=>hno ⟨g,o,pl,hsub _ _ h1,h3⟩,?_,?_⟩
 ·rintro b ⟨g,o,pl,h1,h3,h4,h5⟩;rcases hp g o h1 with k|⟨k1,k2,k3⟩
  ·rcases ev.from_ b ⟨g,o,pl,k,h3,h4,h5⟩with q|⟨g2,o2,pl2,q1,q2⟩
   ·exact .inl q
   ·exact .inr ⟨g2,o2,pl2,hsub _ _ q1,q2⟩
  ·obtain⟨p1,u1,u2,_⟩:=more' g o k1 k2 k3;rw[h4]at u2;cases u2;exact .inr ⟨g,o,pl,k1,h3,u1,h5⟩
 ·rw[hn1,hn];exact ev.old
theorem zO9{g:Nat}{O:Obj}{o:Wm}{n:Nat}(hr:Wg P B σ h w)(hg:σ g=none)(hlt:g<h.n)(hh:w'.heap=w.heap.push O)(hd:w'.os=w.os/\w'.tape=w.tape/\w'.output=w.output)
  (ho:∀ σ',Le σ σ'->Ba P σ' ⟨w.heap.size,0,n⟩ o w'):Wg P B (ZY σ g ⟨w.heap.size,0,n⟩) (h.lay g o) w'/\Le σ (ZY σ g ⟨w.heap.size,0,n⟩)/\w.heap.size<=w'.heap.size/\(∀ b,b<w.heap.size->w'.heap[b]?=w.heap[b]?)/\
   ∀ b,zIz (ZY σ g ⟨w.heap.size,0,n⟩) (h.lay g o) b->w.heap.size<=b\/zIz σ h b:=by
 have hsz:w'.heap.size=w.heap.size+1:=by rw[hh];simp
 have hle:Le σ (ZY σ g ⟨w.heap.size,0,n⟩):=fun k p hk=>by
  unfold ZY;rw[QC (fun e=>by subst e;rw[hg]at hk;cases hk)];exact hk
 have hkeep:∀ b,b<w.heap.size->w'.heap[b]?=w.heap[b]?:=fun b hb=>by
  rw[hh,Array.getElem?_push_lt hb,Qt hb]
 have hsame:∀ k pl,ZY σ g ⟨w.heap.size,0,n⟩ k=some pl->k=g/\pl=⟨w.heap.size,0,n⟩\/k≠g/\σ k=some pl:=fun k pl hk=>by
  unfold ZY at hk;split at hk
  ·exact .inl ⟨by assumption,(Q5 hk).symm⟩
  ·exact .inr ⟨by assumption,hk⟩
 refine⟨⟨fun k hk=> ?_,fun k pl hk=> ?_,fun k o' hk=> ?_,?_,by rw[hsz];have:=hr.le;omega⟩,hle,by omega,hkeep,fun b ⟨k,o',pl,h1,h2,h3,h4⟩=> ?_⟩
 ·obtain⟨pl,h1,h2⟩:=hr.globals k hk;exact⟨pl,hle _ _ h1,h2⟩
 ·rcases hsame k pl hk with⟨rfl,rfl⟩|⟨_,h1⟩
  ·exact⟨hlt,by simp[hsz]⟩
  ·have:=hr.lt k pl h1;exact⟨this.1,by omega⟩
 ·rw[ZB]at hk;split at hk
  ·rename_i e;subst e;cases hk;exact⟨_,yG _ _ _,ho _ hle,fun _=>hr.le⟩
  ·obtain⟨pl,h1,h2,h3⟩:=hr.live k o' hk;exact⟨pl,hle _ _ h1,h2.keep hle (hkeep _ (hr.lt _ _ h1).2),h3⟩
 ·intro k o1 k' o2 pl pl' h1 h2 hne h3 h4 hb;rw[ZB]at h1 h2;rcases hsame k pl h3 with⟨e,rfl⟩|⟨e,h3'⟩<;>rcases hsame k' pl' h4 with⟨e',rfl⟩|⟨e',h4'⟩
  ·exact absurd (e.trans e'.symm) hne
  ·have:=(hr.lt _ _ h4').2;simp at hb;omega
  ·have:=(hr.lt _ _ h3').2;simp at hb;omega
  ·rw[QC e]at h1;rw[QC e']at h2;exact hr.apart k o1 k' o2 pl pl' h1 h2 hne h3' h4' hb
 ·rw[ZB]at h1;rcases hsame k pl h3 with⟨e,rfl⟩|⟨e,h3'⟩
  ·left;rw[<-h4];exact QE _
  ·rw[QC e]at h1;exact .inr ⟨k,o',pl,h1,h2,h3',h4⟩
end
def Made(P:Program)(σ:Nat->Option Pl)(w:World)(s:Sem Next)(ob:Wm)(f:Nat->Value):Prop:=
 ∃ O n w' cv,s.run P w=.ok (.value cv) w'/\w'.heap=w.heap.push O/\(w'.os=w.os/\w'.tape=w.tape/\w'.output=w.output)/\
  (∀ σ',Le σ σ'->Ba P σ' ⟨w.heap.size,0,n⟩ ob w')/\∀ σ' g,σ' g=some ⟨w.heap.size,0,n⟩->WL σ' (f g) cv
section
variable {P:Program}{B:Nat}{σ:Nat->Option Pl}{h:WF}{w:World}
theorem zBs{s:Sem Value}{xs ys extra:List Value}{e:TypeId}{f:Nat->Value}{cv:Value}(hl:WW σ xs ys)(hs:s.run P w=.ok cv (w.alloc (.cells (ys++extra).toArray e)))
  (hv:∀ σ' g,σ' g=some ⟨w.heap.size,0,ys.length+extra.length⟩->WL σ' (f g) cv):Made P σ w (do pure (.value (<-s))) (.row xs true 0) f:=by
 refine⟨.cells (ys++extra).toArray e,ys.length+extra.length,w.alloc (.cells (ys++extra).toArray e),cv,by simp[hs],rfl,⟨rfl,rfl,rfl⟩,fun σ' hle=> ?_,hv⟩;refine⟨(ys++extra).toArray,e,(0,0),by show(w.heap.push _)[w.heap.size]?=_;simp,by simp,by simp[hl.1],fun i x hx=> ?_,fun _=>rfl⟩;obtain⟨y,a,b⟩:=hl.get hx;refine⟨y,?_,b.mono hle⟩;have hi:i<ys.length:=(QM.1 a).1;simp only[Qk,List.getElem?_toArray];rw[Qc hi];exact a
theorem zGa{t e:TypeId}{c l cp:Nat}{zs:List Value}{k k':IntKind}(ht:P.underlying t=some (.slice e))(he:ZM P e=some c)(hz:YV P e=some zs)
  (h1:l<=cp) (h2:cp<=room):
  Made P σ w (do pure (.value (<-Instr.makeSlice t (.int k l) (.int k' cp)))) (.row (zS zs l) true 0) (fun g=> .slice (some ⟨g,0,none⟩) l c):=by
 obtain⟨i,z,hi,hsz,hc0,hb1,hb2,hzz,hzc⟩:=ye he;obtain⟨i',z',hi',hz',rfl,hzs,hcl⟩:=yy hz;rw[hi]at hi';cases hi';rw[hzz]at hz';cases hz';have hroom:room=4294967296:=rfl;have hl:(IntKind.i64.wrap (l:Int))=l:=IntWalk.i64_in _ (by omega);have hcp:(IntKind.i64.wrap (cp:Int))=cp:=IntWalk.i64_in _ (by omega);have hbig:¬((281474976710656:Int)<(i.bytes:Int)*(cp:Int)):=by
  have:i.bytes*cp<=1024*4294967296:=Nat.mul_le_mul hb2 (by omega);have h3:((i.bytes*cp:Nat):Int)<=((1024*4294967296:Nat):Int):=Int.ofNat_le.2 this;rw[Int.natCast_mul]at h3;omega
 have hcl2:WW σ (zS z.cells.toList l) ((zS z.cells.toList l)):=by
  refine VN σ ?_;clear hcp hl h1;induction l with
  |zero=>rfl
  |succ l ih=>simp only[zS,y8,Gu,QJ];exact⟨hcl,ih⟩
 have hsplit:zS z.cells.toList cp=zS z.cells.toList l++zS z.cells.toList (cp-l):=by
  have:∀ a b,zS z.cells.toList (a+b)=zS z.cells.toList a++zS z.cells.toList b:=fun a b=>by
   induction a with
   |zero=>simp[zS]
   |succ a ih=>rw[Nat.succ_add];simp[zS,ih]
  rw[<-this];congr 1;omega
 have hmade:((Array.range (cp*i.size)).map (z.cells[· % z.cells.size]!))=(zS z.cells.toList l++zS z.cells.toList (cp-l)).toArray:=by
  apply JC;rw[<-hsplit,<-zAO z.cells (by omega) cp];simp[hzs]
 refine zBs (extra:=zS z.cells.toList (cp-l)) (e:=e) (cv:= .slice (some ⟨w.heap.size,0,none⟩) l cp) hcl2 ?_ fun σ' g hg=>WL.slice (pl:=⟨w.heap.size,0,_⟩) hg hc0 h1 ?_
 ·rw[<-hmade];by_cases hn:cp=0
  ·subst hn;have:l=0:=by omega
   subst this;have w0:IntKind.i64.wrap 0=0:=by decide
   have hr0:Array.range 0=#[]:=rfl;simp[Instr.makeSlice,asInt,asIntOf,run_underlying ht,typeInfo,hi,zu hi,newRow,w0,hr0]
  ·have hn2:¬(cp*i.size=0):=by
    intro h0;rcases Nat.mul_eq_zero.1 h0 with h|h<;>omega
   have hneg:¬((cp:Int)<0):=by omega
   have hneg2:¬((l:Int)<0):=by omega
   have hneg3:¬cp<l:=by omega
   have hn3:¬i.size=0:=by omega
   simp[Instr.makeSlice,asInt,asIntOf,run_underlying ht,typeInfo,hi,zu hi,newRow,hl,hcp,hbig,zeroValue,hzz,hneg,hneg2,hneg3];intro h0;exact absurd h0 hn2
 ·simp only[Qk,zn];rw[<-Gf];have:l+(cp-l)=cp:=by omega
  rw[this];have:z.cells.toList.length=c:=by simpa using hzc
  rw[this];exact QE _
theorem zFq{b:Builtin}{args:List Operand}{ts:List TypeId}{op:W4}{t:WI Value}(hc:Yo P b args ts=some op):yg t op=none:=by
 unfold Yo at hc;simp only[Q2]at hc;repeat' split at hc
 all_goals first
  |(cases hc;done)
  |(cases hc;rfl)
  |(simp only[QP]at hc;obtain⟨_,_,rfl⟩:=hc;rfl)
theorem zNq(hr:Wg P B σ h w){t:WI Value}{a:Act}(ht:∀ k,WL σ (zC t k) (a.tmps.getD k Go.undef)){o:Oper}{op:W4}(hc:SA P o=some op){ob:Wm}{f:Nat->Value}
  (ho:yg t op=some (ob,f)):Made P σ w (execOp a.eval o) ob f:=by
 unfold SA at hc;cases hok:zBl P o.op.operands.toList with
 |false=>simp[hok]at hc
 |true=>
 simp only[hok,QS,QR]at hc;have hop:∀ x∈o.op.operands.toList,ZU P x=true:=fun x hx=>QV.1 hok x hx;clear hok;have E:∀ x∈o.op.operands.toList,WL σ (ev t x) (a.eval x):=fun x hx=>zAB hr ht (hop x hx);unfold execOp;cases hq:o.op with
 |alloc e=>
  simp only[hq]at hc;cases hz:YV P e with
  |none=>simp[hz]at hc
  |some zs=>
   simp only[hz,QH,QA]at hc;subst hc;obtain⟨i,z,hi,hzz,rfl,hzs,hcl⟩:=yy hz;simp only[yg,QA,QD]at ho;obtain⟨rfl,rfl⟩:=ho;refine zBs (extra:=[]) (e:=e) (cv:= .pointer (some ⟨w.heap.size,0,none⟩)) (VN σ hcl) ?_ fun σ' g hg=>WL.ptr (off:=0) hg;simp[Instr.alloc,zeroValue,typeInfo,hi,hzz,newVar,newRow]
 |box e x=>
  simp only[hq,QA]at hc;subst hc;simp only[yg,QA,QD]at ho;obtain⟨rfl,rfl⟩:=ho;refine zBs (extra:=[]) (e:=e) (cv:= .pointer (some ⟨w.heap.size,0,none⟩)) (E x (by simp[hq,Op.operands])).cells ?_ fun σ' g hg=>WL.ptr (off:=0) hg;simp[Instr.box,newVar,newRow]
 |makeMap ty r=>
  simp only[hq]at hc;cases r with
  |some r=>simp at hc
  |none=>
   simp only at hc;split at hc
   ·rename_i k e hu;simp only[QA]at hc;subst hc;simp only[yg,QA,QD]at ho;obtain⟨rfl,rfl⟩:=ho;exact⟨.map #[] 0,0,w.alloc (.map #[] 0),.map (some w.heap.size),by simp[Instr.makeMap],rfl,⟨rfl,rfl,rfl⟩,fun σ' _=>⟨#[],by show(w.heap.push _)[w.heap.size]?=_;simp,BX.nil⟩,
     fun σ' g hg=>WL.map (pl:=⟨w.heap.size,0,0⟩) hg⟩
   ·cases hc
 |buildSlice ty len parts=>
  simp only[hq]at hc;have hparts:∀ x∈parts.toList,ZU P x.2=true:=fun x hx=>hop x.2 (by simp[hq,Op.operands];exact⟨x.1,by simpa using hx⟩);cases hse:yQ P ty with
  |none=>simp[hse]at hc
  |some e=>
  have hu:P.underlying ty=some (.slice e):=by
   unfold yQ at hse;split at hse
   ·cases hse;assumption
   ·cases hse
  simp only[hse]at hc;split at hc
  ·rename_i n zs he hz;cases hb:Nat.ble (len*n) 65536 with
   |false=>simp[hb]at hc
   |true=>
   simp only[hb,cond_true]at hc;cases hps:Z1 (fun i=>some (i*n,n)) parts.toList with
   |none=>simp[hps]at hc
   |some ps=>
    simp only[hps,QH,QA]at hc;subst hc;obtain⟨i,z,hi,hsz,hc0,_,_,hzz,hzc⟩:=ye he;obtain⟨i',z',hi',hzz',rfl,hzs,hcl⟩:=yy hz;rw[hi]at hi';cases hi';rw[hzz]at hzz';cases hzz';subst hsz;simp only[yg]at ho;cases hf:y9 (zS z.cells.toList len) (zr t ps)with
    |none=>simp[hf]at ho
    |some cells=>
     simp only[hf,QH,QA,QD]at ho;obtain⟨rfl,rfl⟩:=ho;obtain⟨q1,q2⟩:=zBH hr ht hparts hps;have hrc:WW σ (zS z.cells.toList len) (zS z.cells.toList len):=VN σ (Y6 hcl len);obtain⟨ys,f1,f2⟩:=zB2 (parts.toList.map fun x=>(x.1,a.eval x.2)) (fun i_1=>some (i_1*i.size,i.size)) _ _ (zr t ps) cells hrc q1 q2 hf;have hlen:ys.length=len*i.size:=by
      have hfl:∀ (qs:List (Nat×Nat×Value)) (xs r:List Value),y9 xs qs=some r->r.length=xs.length:=fun qs=>by
       induction qs with
       |nil=>intro xs r h;simp[y9]at h;rw[h]
       |cons q qs ihq=>
        intro xs r h;obtain⟨o1,n1,u1⟩:=q;simp only[y9]at h;cases hbb:(Nat.beq u1.cells.size n1&&Nat.ble (o1+n1) xs.length)with
        |false=>simp[hbb]at h
        |true=>
         simp only[hbb,cond_true]at h;simp only[QJ]at hbb;have b1:=QI hbb.1;have b2:=QO hbb.2;rw[ihq _ _ h];simp[zO];omega
      rw[<-f2.1,hfl _ _ _ hf,zn];simp[hzc]
     refine zBs (extra:=[]) (e:=e) (cv:= .slice (some ⟨w.heap.size,0,none⟩) len len) f2 ?_ fun σ' g hg=>WL.slice (pl:=⟨w.heap.size,0,ys.length+0⟩) hg hc0 (QE _) (by simp[hlen]);have hbig:¬(16777216<len*i.size):=by have:=QO hb;omega
     have hmade:((Array.range (len*i.size)).map (z.cells[· % z.cells.size]!))=(zS z.cells.toList len).toArray:=by
      apply JC;rw[<-zAO z.cells (by omega) len];simp[hzc]
     by_cases hl0:len*i.size=0
     ·have hl1:len=0:=by rcases Nat.mul_eq_zero.1 hl0 with h|h<;>omega
      subst hl1;have hr0:Array.range 0=#[]:=rfl;simp only[zS]at f1;simp[Instr.buildSlice,run_underlying hu,zu hi,newRow,hr0,f1]
     ·simp[Instr.buildSlice,run_underlying hu,zu hi,zeroValue,typeInfo,hi,hzz,hbig,newRow,hmade,f1];intro h0;exact absurd h0 hl0
  ·cases hc
 |makeSlice ty l c=>
  simp only[hq]at hc;have e1:=E l (by simp[hq,Op.operands]);have e2:=E c (by simp[hq,Op.operands]);cases hse:yQ P ty with
  |none=>simp[hse]at hc
  |some e=>
   have hu:P.underlying ty=some (.slice e):=by
    unfold yQ at hse;split at hse
    ·cases hse;assumption
    ·cases hse
   simp only[hse]at hc;split at hc
   ·rename_i n zs he hz;simp only[QA]at hc;subst hc;simp only[yg]at ho;split at ho
    ·rename_i ln cn h1 h2;cases hb:(Nat.ble ln cn&&Nat.ble cn room)with
     |false=>simp[hb]at ho
     |true=>
      simp only[hb,cond_true,QA,QD]at ho;simp only[QJ]at hb;obtain⟨rfl,rfl⟩:=ho;obtain⟨k,hk⟩:=Yg e1 h1;obtain⟨k',hk'⟩:=Yg e2 h2;dsimp only;rw[hk,hk'];exact zGa hu he hz (QO hb.1) (QO hb.2)
    ·cases ho
   ·cases hc
 |call c=>
  exfalso;simp only[hq]at hc;split at hc
  ·cases hc;rcases zBm (P:=P) ‹Operand› c.args.toList with q|⟨_,_,_,_,_,_,_,q⟩<;>(rw[q]at ho;cases ho)
  ·unfold Yi at hc;split at hc
   ·cases hc;cases ho
   ·cases hc;cases ho
   ·cases hc;cases ho
   ·cases hc;cases ho
   ·rw[zFq hc]at ho;cases ho
  ·cases hc;cases ho
 |defer c=>
  exfalso;simp only[hq]at hc;repeat' split at hc
  all_goals first
   |(cases hc;done)
   |(cases hc;cases ho;done)
 |_=>
  exfalso;try simp only[hq,Q2]at hc
  repeat' split at hc
  all_goals first
   |(cases hc;done)
   |(cases hc;cases ho;done)
   |(simp only[QP]at hc;obtain⟨_,_,rfl⟩:=hc;cases ho;done)
   |(simp_all;done)
end
section
variable {P:Program}{ih:Ex}
theorem yz{g:Nat}{o:WG}{fr fr':WR}{h h':WF}(hx:yB P ih g o fr h=some (fr',h')):
  ∃ v ds,fr'=val o.dst {fr with dfs:=ds++fr.dfs} v/\(zG o.op≠2->ds=[])/\(zG o.op=0\/zG o.op=1->h'=h)/\
   (zG o.op=3->(zW fr.tm o.guard=false/\h'=h)\/∃ ob f,zW fr.tm o.guard=true/\yg fr.tm o.op=some (ob,f)/\h'=h.lay g ob/\v=f g):=by
 unfold yB at hx;cases hk:Nat.beq (zG o.op) 3 with
 |true=>
  have hk3:=QI hk;simp only[hk,cond_true]at hx;cases hw:zW fr.tm o.guard with
  |false=>
   simp only[hw,QR,QA,QD]at hx;obtain⟨rfl,rfl⟩:=hx;exact⟨undef,[],rfl,fun _=>rfl,fun _=>rfl,fun _=> .inl ⟨rfl,rfl⟩⟩
  |true=>
   simp only[hw,cond_true]at hx;cases hv:yg fr.tm o.op with
   |none=>simp[hv]at hx
   |some p=>
    obtain⟨ob,f⟩:=p;simp only[hv,QA,QD]at hx;obtain⟨rfl,rfl⟩:=hx;exact⟨f g,[],rfl,fun _=>rfl,fun e=>by omega,fun _=> .inr ⟨ob,f,rfl,rfl,rfl,rfl⟩⟩
 |false=>
  have hk3:zG o.op≠3:=fun e=>by rw[e]at hk;cases hk
  simp only[hk,QR]at hx;unfold yD at hx;cases hw:zW fr.tm o.guard with
  |false=>
   simp only[hw,QR,QA,QD]at hx;obtain⟨rfl,rfl⟩:=hx;exact⟨undef,[],rfl,fun _=>rfl,fun _=>rfl,fun e=>absurd e hk3⟩
  |true=>
   simp only[hw,cond_true]at hx;cases hv:zk P ih fr.tm fr.round h o.op with
   |none=>simp[hv]at hx
   |some p=>
    obtain⟨v,ds,h1⟩:=p;simp only[hv,QA,QD]at hx;obtain⟨rfl,rfl⟩:=hx;have hds:zG o.op≠2->ds=[]/\WN P ih fr.tm h o.op=some (v,h1):=by
     intro hk2;unfold zk at hv;split at hv
     ·rename_i e;rw[e]at hk2;exact absurd rfl hk2
     ·rename_i e;rw[e]at hk2;exact absurd rfl hk2
     ·rename_i e;rw[e]at hk2;exact absurd rfl hk2
     ·cases ha:WN P ih fr.tm h o.op with
      |none=>simp[ha]at hv
      |some q=>
       obtain⟨v0,h0⟩:=q;simp only[ha,QA,QD]at hv;obtain⟨rfl,rfl,rfl⟩:=hv;exact⟨rfl,rfl⟩
    exact⟨v,ds,rfl,fun e=>(hds e).1,fun e=>(zEa e (hds (by omega)).2).1,fun e=>absurd e hk3⟩
structure Dr(P:Program)(ih:Ex)(nt:Nat)(ops:Array Oper)(as:List WG)(l:List (WG×List Nat))(FR:Nat->WR)(H:Nat->WF)(G:Nat->Nat):Prop where
 len:as.length=ops.size
 llen:l.length=as.length
 op:∀ (i:Nat) (o:Oper) (ao:WG),ops[i]?=some o->as[i]?=some ao->zCZ P nt ops o=some ao
 lg:∀ (k:Nat) (ao:WG),as[k]?=some ao->∃ un,l[k]?=some (ao,un)/\∀ (k2:Nat) (ao2:WG),k2<k->as[k2]?=some ao2->Bf (Zf ops.toList []) k k2=false->((zG ao2.op=1/\zG ao.op=2)\/(2<=zG ao2.op/\zG ao.op=1))->k2∈un
 pair:∀ (i j:Nat) (ai aj:WG),i<j->as[i]?=some ai->as[j]?=some aj->Bf (Zf ops.toList []) j i=true\/
  (¬(zG aj.op=2/\2<=zG ai.op)/\(∀ d,ai.dst=some d->d∉Zn aj/\aj.dst≠some d)/\∀ d,aj.dst=some d->d∉Zn ai)
 tr:Tr P ih l 0 FR H G
 grow:ZD ih
 room:G 0+cnt l<=(H 0).n
 free:∀ g,G 0<=g->(H 0).get g=none
section
variable {nt:Nat}{ops:Array Oper}{as:List WG}{l:List (WG×List Nat)}{FR:Nat->WR}{H:Nat->WF}{G:Nat->Nat}
theorem Dr.get(d:Dr P ih nt ops as l FR H G){k:Nat}(hk:k<ops.size):∃ o ao un,ops[k]?=some o/\as[k]?=some ao/\l[k]?=some (ao,un):=by
 have h1:k<as.length:=by rw[d.len];exact hk
 obtain⟨un,h2,_⟩:=d.lg k as[k] (QB h1);exact⟨ops[k],as[k],un,Qt hk,QB h1,h2⟩
theorem Dr.lt(d:Dr P ih nt ops as l FR H G){k:Nat}{ao:WG}(ha:as[k]?=some ao):k<ops.size:=by
 rw[<-d.len];exact(QM.1 ha).1
theorem Dr.step(d:Dr P ih nt ops as l FR H G){k:Nat}{ao:WG}(ha:as[k]?=some ao):yB P ih (G k) ao (FR k) {H k with mark:=(H k).n,wr:=[]}=some (FR (k+1),H (k+1)):=by
 obtain⟨un,h2,_⟩:=d.lg k ao ha;exact d.tr.step k _ h2
theorem Dr.next(d:Dr P ih nt ops as l FR H G){k:Nat}{ao:WG}(ha:as[k]?=some ao):G (k+1)=bif Nat.beq (zG ao.op) 3 then G k+1 else G k:=by
 obtain⟨un,h2,_⟩:=d.lg k ao ha;exact d.tr.next k _ h2
theorem Dr.mono(d:Dr P ih nt ops as l FR H G){i:Nat}:∀ {j},i<=j->j<=ops.size->G i<=G j:=by
 intro j;induction j with
 |zero=>intro h _;have:i=0:=by omega
        subst this;exact QE _
 |succ j ihj=>
  intro h hj;rcases GB i (j+1)with q|q
  ·have h1:=ihj (by omega) (by omega);obtain⟨o,ao,un,_,h3,_⟩:=d.get (k:=j) (by omega);have:=d.next h3;cases hb:Nat.beq (zG ao.op) 3<;>rw[hb]at this<;>simp at this<;>omega
  ·have:i=j+1:=by omega
   subst this;exact QE _
theorem Dr.apart(d:Dr P ih nt ops as l FR H G){i j:Nat}{ao:WG}(hij:i<j)(hj:j<=ops.size)(ha:as[i]?=some ao)(hk:zG ao.op=3):G i<G j:=by
 have h1:=d.next ha;have hb:Nat.beq 3 3=true:=rfl;rw[hk,hb]at h1;simp only[cond_true]at h1;have:=d.mono (i:=i+1) (j:=j) (by omega) hj;omega
theorem Dr.below(d:Dr P ih nt ops as l FR H G){k:Nat}{ao:WG}(ha:as[k]?=some ao)(hk:zG ao.op=3):G 0<=G k/\G k<(H 0).n:=by
 obtain⟨un,h2,_⟩:=d.lg k ao ha;have:=d.tr.below h2 hk;have:=d.room;omega
theorem Dr.n_le(d:Dr P ih nt ops as l FR H G){i:Nat}:∀ {j},i<=j->j<=ops.size->(H i).n<=(H j).n:=by
 intro j;induction j with
 |zero=>intro h _;have:i=0:=by omega
        subst this;exact QE _
 |succ j ihj=>
  intro h hj;rcases GB i (j+1)with q|q
  ·have h1:=ihj (by omega) (by omega);have h2:(H j).n<=(H (j+1)).n:=((d.tr.grow d.grow (m:=G 0) (QE _) d.room j).2 (by rw[d.llen,d.len];omega)).n;omega
  ·have:i=j+1:=by omega
   subst this;exact QE _
theorem Dr.unlaid(d:Dr P ih nt ops as l FR H G){j:Nat}{ao:WG}(ha:as[j]?=some ao)(hk:zG ao.op=3):∀ {k},k<=j->(H k).get (G j)=none:=by
 have hj:=d.lt ha;obtain⟨hb1,hb2⟩:=d.below ha hk;intro k;induction k with
 |zero=>intro _;exact d.free _ hb1
 |succ k ihk=>
  intro hkj;have h1:=ihk (by omega);obtain⟨o,ao',un,_,h3,_⟩:=d.get (k:=k) (by omega);have hs:=d.step h3;have hn:=d.n_le (i:=0) (j:=k) (by omega) (by omega);by_cases h3k:zG ao'.op=3
  ·obtain⟨v,ds,_,_,_,q⟩:=yz hs;rcases q h3k with⟨_,q⟩|⟨ob,f,_,_,q,_⟩
   ·rw[q];exact h1
   ·rw[q,ZB,QC (fun e=>by have:=d.apart (i:=k) (j:=j) (by omega) (by omega) h3 h3k;omega)];exact h1
  ·have hb:Nat.beq (zG ao'.op) 3=false:=by
    cases hq:Nat.beq (zG ao'.op) 3 with
    |false=>rfl
    |true=>exact absurd (QI hq) h3k
   unfold yB at hs;rw[hb]at hs;simp only[QR]at hs;exact(YJ d.grow hs).gone _ (by show G j<(H k).n;omega) h1
theorem Dr.slot(d:Dr P ih nt ops as l FR H G){s i:Nat}:∀ {j},i<=j->j<=ops.size->(∀ (m:Nat) (ao:WG),i<=m->m<j->as[m]?=some ao->ao.dst≠some s)->zC (FR j).tm s=zC (FR i).tm s:=by
 intro j;induction j with
 |zero=>intro h _ _;have:i=0:=by omega
        subst this;rfl
 |succ j ihj=>
  intro h hj hn;rcases GB i (j+1)with q|q
  ·rw[<-ihj (by omega) (by omega) (fun m ao a b=>hn m ao a (by omega))];obtain⟨o,ao,un,_,h3,_⟩:=d.get (k:=j) (by omega);obtain⟨v,ds,hf,_⟩:=yz (d.step h3);rw[hf];cases hd:ao.dst with
   |none=>rfl
   |some e=>
    have hne:=hn j ao (by omega) (by omega) h3;rw[hd]at hne;show zC ((FR j).tm.set e v) s=_;rw[yH,QC (fun q=>hne (by rw[q]))]
  ·have:i=j+1:=by omega
   subst this;rfl
theorem zLM(d:Option Nat)(fr:WR)(v:Value):(val d fr v).round=fr.round:=by cases d<;>rfl
theorem zJs(d:Option Nat)(fr:WR)(v:Value):(val d fr v).dfs=fr.dfs:=by cases d<;>rfl
theorem Dr.round(d:Dr P ih nt ops as l FR H G):∀ {j},j<=ops.size->(FR j).round=(FR 0).round:=by
 intro j;induction j with
 |zero=>intro _;rfl
 |succ j ihj=>
  intro hj;obtain⟨o,ao,un,_,h3,_⟩:=d.get (k:=j) (by omega);obtain⟨v,ds,hf,_⟩:=yz (d.step h3);rw[hf,zLM];exact ihj (by omega)
theorem Dr.dfs(d:Dr P ih nt ops as l FR H G){i:Nat}:∀ {j},i<=j->j<=ops.size->(∀ (m:Nat) (ao:WG),i<=m->m<j->as[m]?=some ao->zG ao.op≠2)->(FR j).dfs=(FR i).dfs:=by
 intro j;induction j with
 |zero=>intro h _ _;have:i=0:=by omega
        subst this;rfl
 |succ j ihj=>
  intro h hj hn;rcases GB i (j+1)with q|q
  ·rw[<-ihj (by omega) (by omega) (fun m ao a b=>hn m ao a (by omega))];obtain⟨o,ao,un,_,h3,_⟩:=d.get (k:=j) (by omega);obtain⟨v,ds,hf,hds,_⟩:=yz (d.step h3);rw[hf,zJs,hds (hn j ao (by omega) (by omega) h3)];rfl
  ·have:i=j+1:=by omega
   subst this;rfl
end
end
def Pd(as:List WG)(FR:Nat->WR)(G:Nat->Nat)(S:Nat->Prop)(p j g:Nat)(ob:Wm):Prop:=
 S j/\p<=j/\∃ ao f,as[j]?=some ao/\zG ao.op=3/\zW (FR j).tm ao.guard=true/\yg (FR j).tm ao.op=some (ob,f)/\G j=g
structure Inv(P:Program)(B:Nat)(nt:Nat)(ops:Array Oper)(as:List WG)(FR:Nat->WR)(H:Nat->WF)(G:Nat->Nat)(σ0:Nat->Option Pl)(h0:WF)(w0:World)(b:Frame)
  (S:Nat->Prop) (p:Nat) (tS:WI Value) (HS:WF) (σ:Nat->Option Pl) (w:World) (a:Act):Prop where
 pn:p<=ops.size
 slots:∀ (s m:Nat),m<=ops.size->(∀ (j:Nat) (ao:WG),j<m->as[j]?=some ao->ao.dst=some s->S j)->(∀ (j:Nat) (ao:WG),m<=j->as[j]?=some ao->ao.dst=some s->¬S j)->zC tS s=zC (FR m).tm s
 loud1:∀ (j:Nat) (ao:WG),j<p->as[j]?=some ao->2<=zG ao.op->S j
 loud2:∀ (j:Nat) (ao:WG),p<=j->as[j]?=some ao->zG ao.op=2->¬S j
 hn:HS.n=(H p).n
 pend:∀ g,(∃ j ob,Pd as FR G S p j g ob/\HS.get g=some ob)\/((∀ j ob,¬Pd as FR G S p j g ob)/\HS.get g=(H p).get g)
 free:∀ (j:Nat) (ao:WG),as[j]?=some ao->zG ao.op=3->¬S j->σ (G j)=none
 rel:W5 P σ nt ⟨tS,(FR p).dfs,(FR 0).round⟩ a b
 evo:Wy P B σ0 h0 w0 σ HS w
section
variable {P:Program}{ih:Ex}{nt:Nat}{ops:Array Oper}{as:List WG}{l:List (WG×List Nat)}{FR:Nat->WR}{H:Nat->WF}{G:Nat->Nat}{S:Nat->Prop}
theorem zDg(op:W4):zG op<=3:=by cases op<;>simp[zG]
theorem Dr.pd_fun(d:Dr P ih nt ops as l FR H G){p p' j j' g:Nat}{S':Nat->Prop}{ob ob':Wm}(h1:Pd as FR G S p j g ob)(h2:Pd as FR G S' p' j' g ob'):j=j'/\ob=ob':=by
 obtain⟨_,_,ao,f,a1,a2,_,a3,a4⟩:=h1;obtain⟨_,_,ao',f',b1,b2,_,b3,b4⟩:=h2;have hj:=d.lt a1;have hj':=d.lt b1;have e:j=j':=by
  rcases Nat.lt_trichotomy j j' with q|q|q
  ·have:=d.apart q (by omega) a1 a2;omega
  ·exact q
  ·have:=d.apart q (by omega) b1 b2;omega
 subst e;rw[a1]at b1;cases b1;rw[a3]at b3;cases b3;exact⟨rfl,rfl⟩
theorem Dr.walk(d:Dr P ih nt ops as l FR H G){p g:Nat}:∀ {i},p<=i->i<=ops.size->
  (∀ (m:Nat) (ao:WG),p<=m->m<i->as[m]?=some ao->(zG ao.op=2->(H (m+1)).get g=(H m).get g)/\(zG ao.op=3->¬S m->zW (FR m).tm ao.guard=true->g≠G m))->
  (∃ j ob,j<i/\Pd as FR G S p j g ob/\(H i).get g=some ob)\/((∀ j ob,j<i->¬Pd as FR G S p j g ob)/\(H i).get g=(H p).get g):=by
 intro i;induction i with
 |zero=>intro h _ _;have:p=0:=by omega
        subst this;exact .inr ⟨fun j ob hj=>by omega,rfl⟩
 |succ i ihi=>
  intro h hi hm;rcases GB p (i+1)with q|q
  ·have h1:=ihi (by omega) (by omega) (fun m ao a b=>hm m ao a (by omega));obtain⟨o,ao,un,_,h3,_⟩:=d.get (k:=i) (by omega);obtain⟨m1,m2⟩:=hm i ao (by omega) (by omega) h3;obtain⟨v,ds,_,_,k0,k3⟩:=yz (d.step h3);have same:(H (i+1)).get g=(H i).get g->(∀ ob,¬Pd as FR G S p i g ob)->
     (∃ j ob,j<i+1/\Pd as FR G S p j g ob/\(H (i+1)).get g=some ob)\/((∀ j ob,j<i+1->¬Pd as FR G S p j g ob)/\(H (i+1)).get g=(H p).get g):=by
    intro e hno;rcases h1 with⟨j,ob,a1,a2,a3⟩|⟨a1,a2⟩
    ·exact .inl ⟨j,ob,by omega,a2,e.trans a3⟩
    ·refine .inr ⟨fun j ob hj=> ?_,e.trans a2⟩;rcases GB j i with q2|q2
     ·exact a1 j ob q2
     ·have:j=i:=by omega
      subst this;exact hno ob
   have nk:zG ao.op≠3->∀ ob,¬Pd as FR G S p i g ob:=by
    rintro hk ob ⟨_,_,ao',f,b1,b2,_⟩;rw[h3]at b1;cases b1;exact hk b2
   have hle:=zDg ao.op;rcases(by omega:zG ao.op=0\/zG ao.op=1\/zG ao.op=2\/zG ao.op=3)with hk|hk|hk|hk
   ·exact same (by rw[k0 (.inl hk)];rfl) (nk (by omega))
   ·exact same (by rw[k0 (.inr hk)];rfl) (nk (by omega))
   ·exact same (m1 hk) (nk (by omega))
   ·rcases k3 hk with⟨kw,ke⟩|⟨ob,f,kw,km,ke,_⟩
    ·refine same (by rw[ke];rfl) ?_;rintro ob ⟨_,_,ao',f,b1,b2,b3,_⟩;rw[h3]at b1;cases b1;rw[kw]at b3;cases b3
    ·by_cases hg:g=G i
     ·by_cases hS:S i
      ·exact .inl ⟨i,ob,by omega,⟨hS,by omega,ao,f,h3,hk,kw,km,hg.symm⟩,by rw[ke,ZB,QG hg]⟩
      ·exact absurd hg (m2 hk hS kw)
     ·refine same (by rw[ke,ZB,QC hg];rfl) ?_;rintro ob' ⟨_,_,ao',f',b1,b2,b3,b4,b5⟩;exact hg b5.symm
  ·have:p=i+1:=by omega
   subst this;exact .inr ⟨fun j ob hj ⟨_,h2,_⟩=>by omega,rfl⟩
end
section
variable {P:Program}{ih:Ex}
theorem zNj{ao:WG}{fr fr':WR}{h h':WF}(hk:zG ao.op=0\/zG ao.op=1)(hx:yD P ih ao fr h=some (fr',h')):
  ∃ v,fr'=val ao.dst fr v/\∀ (t2:WI Value) (dfs2:List Deferred) (rd2:Option Nat) (h2:WF),(∀ s∈Zn ao,zC fr.tm s=zC t2 s)->
   (∀ g,zi fr.tm ao=some g->h.get g≠none->h2.get g=h.get g\/zFf h2 g (Yw fr.tm h ao.op))->yD P ih ao ⟨t2,dfs2,rd2⟩ h2=some (val ao.dst ⟨t2,dfs2,rd2⟩ v,h2):=by
 unfold yD at hx;cases hw:zW fr.tm ao.guard with
 |false=>
  simp only[hw,QR,QA,QD]at hx;obtain⟨rfl,_⟩:=hx;refine⟨undef,rfl,fun t2 dfs2 rd2 h2 hn _=> ?_⟩;unfold yD;have:=Z5 hn;rw[hw]at this;simp only[<-this,QR]
 |true=>
  simp only[hw,cond_true]at hx;have hvv:∀ (t:WI Value) (rd:Option Nat) (h:WF),zk P ih t rd h ao.op=match WN P ih t h ao.op with
    |some (v,h)=>some (v,[],h)
    |none=>none:=by
   intro t rd h;unfold zk;split
   ·rename_i e;rw[e]at hk;rcases hk with q|q<;>cases q
   ·rename_i e;rw[e]at hk;rcases hk with q|q<;>cases q
   ·rename_i e;rw[e]at hk;rcases hk with q|q<;>cases q
   ·rfl
  rw[hvv]at hx;cases ha:WN P ih fr.tm h ao.op with
  |none=>simp[ha]at hx
  |some q=>
   obtain⟨v,h1⟩:=q;simp only[ha,QA,QD,GF]at hx;obtain⟨rfl,_⟩:=hx;refine⟨v,rfl,fun t2 dfs2 rd2 h2 hn hh=> ?_⟩;obtain⟨_,q2,q3⟩:=zEa hk ha;have h3:=q3 h2 fun g hg=>hh g (by rw[zLV _ _ hw];exact hg) (q2 g hg);rw[zFT (zEc hn)]at h3;have:=Z5 hn;rw[hw]at this;unfold yD;simp only[<-this,cond_true,hvv,h3,GF]
variable {B:Nat}{nt:Nat}{ops:Array Oper}{as:List WG}{l:List (WG×List Nat)}{FR:Nat->WR}{H:Nat->WF}{G:Nat->Nat}{σ0:Nat->Option Pl}{h0:WF}{w0:World}{b:Frame}
variable {S:Nat->Prop}{p:Nat}{tS:WI Value}{HS:WF}{σ:Nat->Option Pl}{w:World}{a:Act}
theorem Dr.wf(d:Dr P ih nt ops as l FR H G):∀ {k},k<=ops.size->∀ g,(H k).n<=g->(H k).get g=none:=by
 intro k;induction k with
 |zero=>intro _ g hg;exact d.free g (by have:=d.room;omega)
 |succ k ihk=>
  intro hk;exact((d.tr.grow d.grow (m:=G 0) (QE _) d.room k).2 (by rw[d.llen,d.len];omega)).wf (ihk (by omega))
theorem zKk(d:Dr P ih nt ops as l FR H G)(iv:Inv P B nt ops as FR H G σ0 h0 w0 b S p tS HS σ w a){i:Nat}{ao:WG}(ha:as[i]?=some ao)(hS:¬S i)(hk:zG ao.op=0\/zG ao.op=1)
  (pre:∀ j,Bf (Zf ops.toList []) i j=true->S j) (suc:∀ j aj,as[j]?=some aj->S j->Bf (Zf ops.toList []) j i=false) {g:Nat} (hg:zi (FR i).tm ao=some g) (hl:(H i).get g≠none):
  HS.get g=(H i).get g\/zFf HS g (Yw (FR i).tm (H i) ao.op):=by
 have hi:=d.lt ha;have hk1:zG ao.op=1:=by
  rcases hk with q|q
  ·exfalso;unfold zi at hg;cases hw:zW (FR i).tm ao.guard with
   |false=>rw[hw]at hg;cases hg
   |true=>
    rw[hw]at hg;cases hop:ao.op<;>rw[hop]at hg q<;>first|(cases hg;done)|(cases q;done)
  ·exact q
 obtain⟨un,hlun,hun⟩:=d.lg i ao ha;obtain⟨ob,hob⟩:=Option.ne_none_iff_exists'.1 hl;rcases GB i p with hip|hip
 ·
  have hst:∀ q,i<=q->q<=p->(H q).get g=some ob\/zFf (H q) g (Yw (FR i).tm (H i) ao.op):=by
   intro q;induction q with
   |zero=>intro h _;have:i=0:=by omega
          subst this;exact .inl hob
   |succ q ihq=>
    intro h hq;rcases GB i (q+1)with z|z
    ·have h1:=ihq (by omega) (by omega);have hps:=iv.pn;obtain⟨o',am,un',_,h3,_⟩:=d.get (k:=q) (by omega);obtain⟨v,ds,_,_,k0,k3⟩:=yz (d.step h3);have hle:=zDg am.op;have hlive:(H q).get g≠none:=by
      rcases h1 with e|⟨off,n,c,_,e⟩
      ·rw[e];simp
      ·cases hr:zv (H q) g with
       |none=>rw[hr]at e;cases e
       |some c=>exact zBf hr
     have keep:(H (q+1)).get g=(H q).get g->(H (q+1)).get g=some ob\/zFf (H (q+1)) g (Yw (FR i).tm (H i) ao.op):=by
      intro e;rcases h1 with z|⟨off,n,c,e1,e2⟩
      ·exact .inl (e.trans z)
      ·exact .inr ⟨off,n,c,e1,by rw[Yy e];exact e2⟩
     rcases(by omega:zG am.op=0\/zG am.op=1\/zG am.op=2\/zG am.op=3)with hk|hk|hk|hk
     ·exact keep (by rw[k0 (.inl hk)];rfl)
     ·exact keep (by rw[k0 (.inr hk)];rfl)
     ·have hSm:=iv.loud1 q am (by omega) h3 (by omega);have hne:q≠i:=fun e=>by subst e;exact hS hSm
      obtain⟨unm,e1,e2⟩:=d.lg q am h3;have hmem:=e2 i ao (by omega) ha (suc q am h3 hSm) (.inl ⟨hk1,hk⟩);rcases d.tr.write q (am,unm) i (ao,un) g e1 (by omega) hlun hg (by simpa using hmem)with hno|hsn
      ·have hs:=d.step h3;have hb:Nat.beq (zG am.op) 3=false:=by rw[hk];rfl
       unfold yB at hs;rw[hb]at hs;simp only[QR]at hs;have hlt:g<(H q).n:=by
        rcases GB g (H q).n with q'|q'
        ·exact q'
        ·exact absurd (d.wf (by omega) g q') hlive
       exact keep ((YJ d.grow hs).log g hlt hlt hno)
      ·exact .inr hsn
     ·rcases k3 hk with⟨kw,ke⟩|⟨ob',f,kw,km,ke,_⟩
      ·exact keep (by rw[ke];rfl)
      ·refine keep ?_;rw[ke,ZB,QC (fun e=>by
        have:=d.unlaid h3 hk (QE q);rw[<-e]at this;exact hlive this)]
       rfl
    ·have:i=q+1:=by omega
     subst this;exact .inl hob
  have hst:=hst p (by omega) (QE _);rcases iv.pend g with⟨j,ob',q1,q2⟩|⟨_,q2⟩
  ·obtain⟨_,z2,am,f,z3,z4,_,_,z5⟩:=q1;have:=d.unlaid z3 z4 z2;rw[z5]at this;rcases hst with e|⟨off,n,c,_,e⟩
   ·rw[e]at this;cases this
   ·unfold zv at e;rw[this]at e;cases e
  ·rcases hst with e|⟨off,n,c,e1,e2⟩
   ·exact .inl (by rw[q2,e,hob])
   ·exact .inr ⟨off,n,c,e1,by rw[Yy q2];exact e2⟩
 ·refine .inl ?_;have hw:=d.walk (S:=S) (g:=g) hip (by omega) (fun m am h1 h2 hm=>⟨fun hk2=>by
   have hSm:=iv.loud2 m am h1 hm hk2;have hb0:Bf (Zf ops.toList []) i m=false:=by
    cases hq:Bf (Zf ops.toList []) i m with
    |false=>rfl
    |true=>exact absurd (pre m hq) hSm
   have hmem:=hun m am h2 hm hb0 (.inr ⟨by omega,hk1⟩);obtain⟨r1,r2⟩:=d.tr.read i (ao,un) g m hlun hg h2 (by simpa using hmem);have hs:=d.step hm;have hb:Nat.beq (zG am.op) 3=false:=by rw[hk2];rfl
   unfold yB at hs;rw[hb]at hs;simp only[QR]at hs;exact(YJ d.grow hs).log g r1 r1 r2,fun hk3 hSm hwt hgm=>by
   have hb0:Bf (Zf ops.toList []) i m=false:=by
    cases hq:Bf (Zf ops.toList []) i m with
    |false=>rfl
    |true=>exact absurd (pre m hq) hSm
   have hmem:=hun m am h2 hm hb0 (.inr ⟨by omega,hk1⟩);obtain⟨r1,r2⟩:=d.tr.read i (ao,un) g m hlun hg h2 (by simpa using hmem);obtain⟨v,ds,_,_,_,k3⟩:=yz (d.step hm);rcases k3 hk3 with⟨kw,_⟩|⟨ob',f,_,_,ke,_⟩
   ·rw[hwt]at kw;cases kw
   ·apply r2;rw[ke,hgm];exact zAj (by rw[<-hgm];exact r1)⟩)
  rcases hw with⟨j,ob',hj,q1,q2⟩|⟨q1,q2⟩
  ·rcases iv.pend g with⟨j',ob2,r1,r2⟩|⟨r1,_⟩
   ·obtain⟨_,e2⟩:=d.pd_fun q1 r1;rw[r2,q2,e2]
   ·exact absurd q1 (r1 j ob')
  ·rcases iv.pend g with⟨j',ob2,r1,r2⟩|⟨_,r2⟩
   ·rcases GB j' i with z|z
    ·exact absurd r1 (q1 j' ob2 z)
    ·obtain⟨_,_,am,f,z3,z4,_,_,z5⟩:=r1;have:=d.unlaid z3 z4 z;rw[z5,hob]at this;cases this
   ·rw[r2,q2]
end
section
variable {P:Program}{ih:Ex}{B:Nat}{nt:Nat}{ops:Array Oper}{as:List WG}{l:List (WG×List Nat)}{FR:Nat->WR}{H:Nat->WF}{G:Nat->Nat}{σ0:Nat->Option Pl}{h0:WF}{w0:World}{b:Frame}
variable {S:Nat->Prop}{p:Nat}{tS:WI Value}{HS:WF}{σ:Nat->Option Pl}{w:World}{a:Act}
theorem zBj(d:Dr P ih nt ops as l FR H G)(iv:Inv P B nt ops as FR H G σ0 h0 w0 b S p tS HS σ w a){i:Nat}{ao:WG}(ha:as[i]?=some ao)(hS:¬S i)
  (pre:∀ j,Bf (Zf ops.toList []) i j=true->S j) (suc:∀ j aj,as[j]?=some aj->S j->Bf (Zf ops.toList []) j i=false):∀ s∈Zn ao,zC (FR i).tm s=zC tS s:=by
 intro s hs;have hi:=d.lt ha;refine(iv.slots s i (by omega) (fun j aj hj hja hd=> ?_) (fun j aj hj hja hd hSj=> ?_)).symm
 ·rcases d.pair j i aj ao hj hja ha with q|⟨_,q,_⟩
  ·exact pre j q
  ·exact absurd hs (q s hd).1
 ·rcases GB i j with z|z
  ·rcases d.pair i j ao aj z ha hja with q|⟨_,_,q⟩
   ·rw[suc j aj hja hSj]at q;cases q
   ·exact q s hd hs
  ·have:j=i:=by omega
   subst this;exact hS hSj
theorem zAg(d:Dr P ih nt ops as l FR H G)(iv:Inv P B nt ops as FR H G σ0 h0 w0 b S p tS HS σ w a){i:Nat}{ao:WG}(ha:as[i]?=some ao)(hS:¬S i)
  (suc:∀ j aj,as[j]?=some aj->S j->Bf (Zf ops.toList []) j i=false) {v:Value} {ds:List Deferred} (hf:FR (i+1)=val ao.dst {FR i with dfs:=ds++(FR i).dfs} v) (x:List Deferred) (y:Option Nat):
  ∀ (s m:Nat),m<=ops.size->(∀ (j:Nat) (aj:WG),j<m->as[j]?=some aj->aj.dst=some s->S j\/j=i)->(∀ (j:Nat) (aj:WG),m<=j->as[j]?=some aj->aj.dst=some s->¬(S j\/j=i))->
   zC (val ao.dst ⟨tS,x,y⟩ v).tm s=zC (FR m).tm s:=by
 intro s m hm c1 c2;by_cases hd:ao.dst=some s
 ·have him:i<m:=by
   rcases GB i m with q|q
   ·exact q
   ·exact absurd (.inr rfl) (c2 i ao q ha hd)
  have e1:zC (FR m).tm s=zC (FR (i+1)).tm s:=d.slot (by omega) hm fun j aj h1 h2 hja hdj=>by
   have hSj:S j:=by
    rcases c1 j aj h2 hja hdj with q|q
    ·exact q
    ·omega
   rcases d.pair i j ao aj (by omega) ha hja with q|⟨_,q,_⟩
   ·rw[suc j aj hja hSj]at q;cases q
   ·exact(q s hd).2 hdj
  rw[e1,hf,hd];show zC (tS.set s v) s=zC ((FR i).tm.set s v) s;rw[yH,yH,QG rfl,QG rfl]
 ·have e1:zC (val ao.dst ⟨tS,x,y⟩ v).tm s=zC tS s:=by
   cases hq:ao.dst with
   |none=>rfl
   |some e=>
    show zC (tS.set e v) s=_;rw[yH,QC (fun z=>hd (by rw[hq,z]))]
  rw[e1];refine iv.slots s m hm (fun j aj h1 hja hdj=> ?_) (fun j aj h1 hja hdj hSj=>c2 j aj h1 hja hdj (.inl hSj));rcases c1 j aj h1 hja hdj with q|q
  ·exact q
  ·subst q;rw[ha]at hja;cases hja;exact absurd hdj hd
def zJw(P:Program)(B nt:Nat)(ops:Array Oper)(as:List WG)(FR:Nat->WR)(H:Nat->WF)(G:Nat->Nat)(σ0:Nat->Option Pl)(h0:WF)(w0:World)(b:Frame)(S:Nat->Prop)(i:Nat)(w:World)(a:Act):Prop:=
 ∃ p' tS' HS' σ' w' a',Inv P B nt ops as FR H G σ0 h0 w0 b (fun j=>S j\/j=i) p' tS' HS' σ' w' a'/\
  ∀ (rest:List Nat) (k:List Item) (cs:List Frame),zAp b cs->Steps P (lone (At b a (.inRegion ops (i::rest)::k)) cs w) (lone (At b a' (.inRegion ops rest::k)) cs w')
theorem zJO(hex:yI P ih)(hcall:yA P ih)(d:Dr P ih nt ops as l FR H G)(iv:Inv P B nt ops as FR H G σ0 h0 w0 b S p tS HS σ w a){i:Nat}{o:Oper}{ao:WG}(ho:ops[i]?=some o)(ha:as[i]?=some ao)(hS:¬S i)
  (hk:zG ao.op=0\/zG ao.op=1) (pre:∀ j,Bf (Zf ops.toList []) i j=true->S j) (suc:∀ j aj,as[j]?=some aj->S j->Bf (Zf ops.toList []) j i=false):
  zJw P B nt ops as FR H G σ0 h0 w0 b S i w a:=by
 have hs:=d.step ha;obtain⟨_,ds,hf,hds,_⟩:=yz hs;have hb:Nat.beq (zG ao.op) 3=false:=by rcases hk with q|q<;>rw[q]<;>rfl
 have hs2:=hs;unfold yB at hs2;rw[hb]at hs2;simp only[QR]at hs2;obtain⟨v,hf2,hq⟩:=zNj hk hs2;have hrun:=hq tS (FR p).dfs (FR 0).round HS (zBj d iv ha hS pre suc) (fun g hg hl=>zKk d iv ha hS hk pre suc hg hl);obtain⟨σ',w',a',e1,F1,_,st⟩:=Yz hex hcall ho (d.op i o ao ho ha) iv.evo.rel iv.rel hrun;have hpd:∀ j g ob,Pd as FR G (fun j=>S j\/j=i) p j g ob↔Pd as FR G S p j g ob:=by
  intro j g ob;constructor
  ·rintro⟨h1,h2,am,f,h3,h4,h5⟩;refine⟨h1.resolve_right ?_,h2,am,f,h3,h4,h5⟩;rintro rfl;rw[ha]at h3;cases h3;omega
  ·rintro⟨h1,h2⟩;exact⟨.inl h1,h2⟩
 refine⟨p,_,HS,σ',w',a',⟨iv.pn,zAg d iv ha hS suc (ds:=[]) (by rw[hf2];rfl) (FR p).dfs (FR 0).round,fun j am h1 h2 h3=> .inl (iv.loud1 j am h1 h2 h3),fun j am h1 h2 h3=> ?_,iv.hn,fun g=> ?_,fun j am h1 h2 h3=> ?_,?_,iv.evo.trans e1⟩,st⟩
 ·rintro(q|rfl)
  ·exact iv.loud2 j am h1 h2 h3 q
  ·rw[ha]at h2;cases h2;omega
 ·simp only[hpd];exact iv.pend g
 ·have hfr:=iv.free j am h1 h2 fun q=>h3 (.inl q);have hlt:G j<HS.n:=by
   rw[iv.hn];have:=(d.below h1 h2).2;have:=d.n_le (i:=0) (j:=p) (by omega) iv.pn;omega
  rw[e1.old.2 _ hlt];exact hfr
 ·have:(⟨(val ao.dst ⟨tS,(FR p).dfs,(FR 0).round⟩ v).tm,(FR p).dfs,(FR 0).round⟩:WR)=val ao.dst ⟨tS,(FR p).dfs,(FR 0).round⟩ v:=by cases ao.dst<;>rfl
  rw[this];exact F1
end
section
variable {P:Program}{ih:Ex}{B:Nat}{nt:Nat}{ops:Array Oper}{as:List WG}{l:List (WG×List Nat)}{FR:Nat->WR}{H:Nat->WF}{G:Nat->Nat}{σ0:Nat->Option Pl}{h0:WF}{w0:World}{b:Frame}
variable {S:Nat->Prop}{p:Nat}{tS:WI Value}{HS:WF}{σ:Nat->Option Pl}{w:World}{a:Act}
theorem zIb(hex:yI P ih)(hcall:yA P ih)(d:Dr P ih nt ops as l FR H G)(iv:Inv P B nt ops as FR H G σ0 h0 w0 b S p tS HS σ w a)(h0n:h0.n<=G 0){i:Nat}{o:Oper}{ao:WG}(ho:ops[i]?=some o)(ha:as[i]?=some ao)(hS:¬S i)
  (hk:zG ao.op=3) (pre:∀ j,Bf (Zf ops.toList []) i j=true->S j) (suc:∀ j aj,as[j]?=some aj->S j->Bf (Zf ops.toList []) j i=false):
  zJw P B nt ops as FR H G σ0 h0 w0 b S i w a:=by
 have hi:=d.lt ha;have hs:=d.step ha;have hpi:p<=i:=by
  rcases GB i p with q|q
  ·exact absurd (iv.loud1 i ao q ha (by omega)) hS
  ·exact q
 have hnames:=zBj d iv ha hS pre suc;have hc:=d.op i o ao ho ha;obtain⟨s1,s2,s3,_⟩:=zBe hc;have hweq:=zFP hc iv.rel.tm;have hwn:=Z5 hnames;have hlt:∀ (j:Nat) (am:WG),as[j]?=some am->zG am.op=3->G j<HS.n:=fun j am h1 h2=>by
  rw[iv.hn];have:=(d.below h1 h2).2;have:=d.n_le (i:=0) (j:=p) (by omega) iv.pn;omega
 have hb:Nat.beq (zG ao.op) 3=true:=by rw[hk];rfl
 unfold yB at hs;rw[hb]at hs;simp only[cond_true]at hs;cases hw:zW (FR i).tm ao.guard with
 |false=>
  simp only[hw,QR,QA,QD]at hs;obtain⟨hf,_⟩:=hs;have hrun:yD P ih ao ⟨tS,(FR p).dfs,(FR 0).round⟩ HS=some (val ao.dst ⟨tS,(FR p).dfs,(FR 0).round⟩ undef,HS):=by
   unfold yD;rw[hw]at hwn;simp only[<-hwn,QR]
  obtain⟨σ',w',a',e1,F1,_,st⟩:=Yz hex hcall ho hc iv.evo.rel iv.rel hrun;have hpd:∀ j g ob,Pd as FR G (fun j=>S j\/j=i) p j g ob↔Pd as FR G S p j g ob:=by
   intro j g ob;constructor
   ·rintro⟨h1,h2,am,f,h3,h4,h5,h6⟩;refine⟨h1.resolve_right ?_,h2,am,f,h3,h4,h5,h6⟩;rintro rfl;rw[ha]at h3;cases h3;rw[hw]at h5;cases h5
   ·rintro⟨h1,h2⟩;exact⟨.inl h1,h2⟩
  refine⟨p,_,HS,σ',w',a',⟨iv.pn,zAg d iv ha hS suc (ds:=[]) (v:=undef) (by rw[<-hf];rfl) (FR p).dfs (FR 0).round,fun j am h1 h2 h3=> .inl (iv.loud1 j am h1 h2 h3),fun j am h1 h2 h3=> ?_,iv.hn,fun g=> ?_,fun j am h1 h2 h3=> ?_,?_,iv.evo.trans e1⟩,st⟩
  ·rintro(q|rfl)
   ·exact iv.loud2 j am h1 h2 h3 q
   ·rw[ha]at h2;cases h2;omega
  ·simp only[hpd];exact iv.pend g
  ·rw[e1.old.2 _ (hlt j am h1 h2)];exact iv.free j am h1 h2 fun q=>h3 (.inl q)
  ·have:(⟨(val ao.dst ⟨tS,(FR p).dfs,(FR 0).round⟩ undef).tm,(FR p).dfs,(FR 0).round⟩:WR)=val ao.dst ⟨tS,(FR p).dfs,(FR 0).round⟩ undef:=by cases ao.dst<;>rfl
   rw[this];exact F1
 |true=>
  simp only[hw,cond_true]at hs;cases hm:yg (FR i).tm ao.op with
  |none=>simp[hm]at hs
  |some q=>
  obtain⟨ob,f⟩:=q;simp only[hm,QA,QD]at hs;obtain⟨hf,_⟩:=hs;have hmS:yg tS ao.op=some (ob,f):=by rw[<-zH3 (zEc hnames)];exact hm
  cases hcop:SA P o with
  |none=>
   rw[hcop,Ge]at s3;rw[s3]at hk;cases hk
  |some op=>
  rw[hcop,Q1]at s3;subst s3;obtain⟨O,n,w',cv,m1,m2,m3,m4,m5⟩:=zNq iv.evo.rel iv.rel.tm hcop hmS;have hfree:=iv.free i ao ha hk hS;obtain⟨k1,k2,k3,k4,k5⟩:=zO9 (o:=ob) iv.evo.rel hfree (hlt i ao ha hk) m2 m3 m4;have hsame:=yG σ (G i) ⟨w.heap.size,0,n⟩;have hevo:Wy P B σ0 h0 w0 (ZY σ (G i) ⟨w.heap.size,0,n⟩) (HS.lay (G i) ob) w':=by
   have ev:=iv.evo;refine⟨ev.le.trans k2,k1,m3.1.trans ev.os,m3.2.1.trans ev.tape,m3.2.2.trans ev.output,QN ev.size k3,fun b hb hno=>(k4 b (QK hb ev.size)).trans (ev.kept b hb hno),fun b hb=> ?_,?_,fun g hg=> ?_⟩
   ·rcases k5 b hb with q|q
    ·exact .inl (QN ev.size q)
    ·exact ev.from_ b q
   ·exact ev.old.1
   ·have hne:g≠G i:=by
     have:=(d.below ha hk).1;omega
    unfold ZY;rw[QC hne];exact ev.old.2 g hg
  have hwc:Region.wanted o (yielded ops a.tmps)=true:=by rw[hweq];rw[hw]at hwn;exact hwn.symm
  have hnd:∀ c,o.op=.defer c->b.roundOf=none:=fun c hq=>by
   rcases zAc hcop hq with⟨f',_,e⟩|⟨m,t,kt,e',_,_,_,_,e⟩<;>rw[e]at hk<;>cases hk
  refine⟨p,(val ao.dst ⟨tS,(FR p).dfs,(FR 0).round⟩ (f (G i))).tm,HS.lay (G i) ob,_,w',a.put o.dst cv,⟨iv.pn,zAg d iv ha hS suc (ds:=[]) (v:=f (G i)) (by rw[<-hf];rfl) (FR p).dfs (FR 0).round,
   fun j am h1 h2 h3=> .inl (iv.loud1 j am h1 h2 h3),fun j am h1 h2 h3=> ?_,iv.hn,fun g=> ?_,fun j am h1 h2 h3=> ?_,?_,hevo⟩,fun rest k cs hcm=> .one (zBb ho hwc hnd m1)⟩
  ·rintro(q|rfl)
   ·exact iv.loud2 j am h1 h2 h3 q
   ·rw[ha]at h2;cases h2;omega
  ·by_cases hg:g=G i
   ·exact .inl ⟨i,ob,⟨.inr rfl,hpi,ao,f,ha,hk,hw,hm,hg.symm⟩,by rw[ZB,QG hg]⟩
   ·rw[ZB,QC hg];rcases iv.pend g with⟨j,ob',⟨q1,q2⟩,q3⟩|⟨q1,q2⟩
    ·exact .inl ⟨j,ob',⟨.inl q1,q2⟩,q3⟩
    ·refine .inr ⟨fun j ob' hq=> ?_,q2⟩;obtain⟨z1,z2,am,f',z3,z4,z5,z6,z7⟩:=hq;rcases z1 with z1|rfl
     ·exact q1 j ob' ⟨z1,z2,am,f',z3,z4,z5,z6,z7⟩
     ·exact hg z7.symm
  ·have hne:G j≠G i:=by
    have hji:j≠i:=fun q=>h3 (.inr q);have hj:=d.lt h1;rcases GB j i with q|q
    ·have:=d.apart q (by omega) h1 h2;omega
    ·have:=d.apart (i:=i) (j:=j) (by omega) (by omega) ha hk;omega
   unfold ZY;rw[QC hne];exact iv.free j am h1 h2 fun q=>h3 (.inl q)
  ·have:(⟨(val ao.dst ⟨tS,(FR p).dfs,(FR 0).round⟩ (f (G i))).tm,(FR p).dfs,(FR 0).round⟩:WR)=val ao.dst ⟨tS,(FR p).dfs,(FR 0).round⟩ (f (G i)):=by cases ao.dst<;>rfl
   rw[this,s2];exact(iv.rel.mono k2).val s1 (m5 _ _ hsame)
end
section
variable {P:Program}{ih:Ex}{B:Nat}{nt:Nat}{ops:Array Oper}{as:List WG}{l:List (WG×List Nat)}{FR:Nat->WR}{H:Nat->WF}{G:Nat->Nat}{σ0:Nat->Option Pl}{h0:WF}{w0:World}{b:Frame}
variable {S:Nat->Prop}{p:Nat}{tS:WI Value}{HS:WF}{σ:Nat->Option Pl}{w:World}{a:Act}
theorem zOj{ao:WG}{fr fr':WR}{h h':WF}(hx:yD P ih ao fr h=some (fr',h')):
  ∃ v ds,fr'=val ao.dst {fr with dfs:=ds++fr.dfs} v/\∀ (t2:WI Value) (dfs2:List Deferred),(∀ s∈Zn ao,zC fr.tm s=zC t2 s)->
   yD P ih ao ⟨t2,dfs2,fr.round⟩ h=some (val ao.dst ⟨t2,ds++dfs2,fr.round⟩ v,h'):=by
 unfold yD at hx;cases hw:zW fr.tm ao.guard with
 |false=>
  simp only[hw,QR,QA,QD]at hx;obtain⟨rfl,rfl⟩:=hx;refine⟨undef,[],rfl,fun t2 dfs2 hn=> ?_⟩;unfold yD;have:=Z5 hn;rw[hw]at this;simp only[<-this,QR,GF]
 |true=>
  simp only[hw,cond_true]at hx;cases hv:zk P ih fr.tm fr.round h ao.op with
  |none=>simp[hv]at hx
  |some q=>
   obtain⟨v,ds,h1⟩:=q;simp only[hv,QA,QD]at hx;obtain⟨rfl,rfl⟩:=hx;refine⟨v,ds,rfl,fun t2 dfs2 hn=> ?_⟩;have:=Z5 hn;rw[hw]at this;rw[zGk (zEc hn)]at hv;unfold yD;simp only[<-this,cond_true,hv]
theorem Dr.n_eq(d:Dr P ih nt ops as l FR H G){i:Nat}:∀ {j},i<=j->j<=ops.size->(∀ (m:Nat) (ao:WG),i<=m->m<j->as[m]?=some ao->zG ao.op≠2)->(H j).n=(H i).n:=by
 intro j;induction j with
 |zero=>intro h _ _;have:i=0:=by omega
        subst this;rfl
 |succ j ihj=>
  intro h hj hn;rcases GB i (j+1)with q|q
  ·rw[<-ihj (by omega) (by omega) (fun m ao a b=>hn m ao a (by omega))];obtain⟨o,ao,un,_,h3,_⟩:=d.get (k:=j) (by omega);obtain⟨v,ds,_,_,k0,k3⟩:=yz (d.step h3);have hle:=zDg ao.op;have hne:=hn j ao (by omega) (by omega) h3;rcases(by omega:zG ao.op=0\/zG ao.op=1\/zG ao.op=3)with hk|hk|hk
   ·rw[k0 (.inl hk)]
   ·rw[k0 (.inr hk)]
   ·rcases k3 hk with⟨_,ke⟩|⟨ob,f,_,_,ke,_⟩<;>rw[ke]<;>rfl
  ·have:i=j+1:=by omega
   subst this;rfl
theorem zLi(hex:yI P ih)(hcall:yA P ih)(d:Dr P ih nt ops as l FR H G)(iv:Inv P B nt ops as FR H G σ0 h0 w0 b S p tS HS σ w a){i:Nat}{o:Oper}{ao:WG}(ho:ops[i]?=some o)(ha:as[i]?=some ao)(hS:¬S i)
  (hk:zG ao.op=2) (pre:∀ j,Bf (Zf ops.toList []) i j=true->S j) (suc:∀ j aj,as[j]?=some aj->S j->Bf (Zf ops.toList []) j i=false):
  zJw P B nt ops as FR H G σ0 h0 w0 b S i w a:=by
 have hi:=d.lt ha;have hs:=d.step ha;have hpi:p<=i:=by
  rcases GB i p with q|q
  ·exact absurd (iv.loud1 i ao q ha (by omega)) hS
  ·exact q
 have ahead:∀ (j:Nat) (aj:WG),j<i->as[j]?=some aj->2<=zG aj.op->S j:=fun j aj hj hja h2=>by
  rcases d.pair j i aj ao hj hja ha with q|⟨q,_⟩
  ·exact pre j q
  ·exact absurd ⟨hk,h2⟩ q
 have behind:∀ (j:Nat) (aj:WG),i<j->as[j]?=some aj->zG aj.op=2->¬S j:=fun j aj hj hja h2 hSj=>by
  rcases d.pair i j ao aj hj ha hja with q|⟨q,_⟩
  ·rw[suc j aj hja hSj]at q;cases q
  ·exact q ⟨h2,by omega⟩
 have quiet:∀ (m:Nat) (am:WG),p<=m->m<i->as[m]?=some am->zG am.op≠2:=fun m am h1 h2 hm h3=>
  iv.loud2 m am h1 hm h3 (ahead m am h2 hm (by omega))
 have hsub:∀ g ob,(H i).get g=some ob->HS.get g=some ob:=fun g ob hob=>by
  have hw:=d.walk (S:=S) (g:=g) hpi (by omega) (fun m am h1 h2 hm=>⟨fun hk2=>absurd hk2 (quiet m am h1 h2 hm),fun hk3 hSm _ _=>hSm (ahead m am h2 hm (by omega))⟩);rcases hw with⟨j,ob',hj,q1,q2⟩|⟨q1,q2⟩
  ·rcases iv.pend g with⟨j',ob2,r1,r2⟩|⟨r1,_⟩
   ·obtain⟨_,e2⟩:=d.pd_fun q1 r1;rw[r2,<-e2,<-q2,hob]
   ·exact absurd q1 (r1 j ob')
  ·rcases iv.pend g with⟨j',ob2,r1,r2⟩|⟨_,r2⟩
   ·rcases GB j' i with z|z
    ·exact absurd r1 (q1 j' ob2 z)
    ·obtain⟨_,_,am,f,z3,z4,_,_,z5⟩:=r1;have:=d.unlaid z3 z4 z;rw[z5,hob]at this;cases this
   ·rw[r2,<-q2,hob]
 have hn:HS.n=(H i).n:=iv.hn.trans (d.n_eq hpi (by omega) quiet).symm;have hdfs:(FR i).dfs=(FR p).dfs:=d.dfs hpi (by omega) quiet;have hrd:=d.round (j:=i) (by omega);have hb:Nat.beq (zG ao.op) 3=false:=by rw[hk];rfl
 unfold yB at hs;rw[hb]at hs;simp only[QR]at hs;obtain⟨v,ds,hf,hq⟩:=zOj hs;have hrun:=hq tS (FR p).dfs (zBj d iv ha hS pre suc);rw[hrd]at hrun;have hrel:Wg P B σ {H i with mark:=(H i).n,wr:=[]} w:=iv.evo.rel.sub hsub hn.symm;obtain⟨σ',w',a',e1,F1,_,st⟩:=Yz hex hcall ho (d.op i o ao ho ha) hrel iv.rel hrun;obtain⟨HS1,x1,x2⟩:=zJS (fun j g ob=>Pd as FR G (fun j=>S j\/j=i) (i+1) j g ob)
  (fun j g ob g' ob' h1 h2=>⟨by obtain⟨_,_,_,_,_,_,_,_,e⟩:=h1;obtain⟨_,_,_,_,_,_,_,_,e'⟩:=h2;exact e.symm.trans e',by
   obtain⟨y1,y2,ym,yf,y3,y4,y5,y6,y7⟩:=h1;obtain⟨z1,z2,zm,zf,z3,z4,z5,z6,z7⟩:=h2;rw[y3]at z3;cases z3;rw[y6]at z6;cases z6;rfl⟩) (H (i+1)) ops.size
 have hevo:Wy P B σ HS w σ' HS1 w':=by
  refine zLg (Hi:={H i with mark:=(H i).n,wr:=[]}) iv.evo.rel hsub hn e1 (YJ d.grow hs) x1 fun g ob hg=> ?_;rcases x2 g with⟨j,ob',_,q1,q2⟩|⟨_,q2⟩
  ·right;rw[hg]at q2;cases q2;obtain⟨z1,z2,am,f,z3,z4,z5,z6,z7⟩:=q1;have z1:S j:=z1.resolve_right (by omega);have hpd:Pd as FR G S p j g ob:=⟨z1,by omega,am,f,z3,z4,z5,z6,z7⟩;refine⟨?_,zFB z6,by rw[<-z7];exact d.unlaid z3 z4 (k:=i) (by omega)⟩;rcases iv.pend g with⟨j',ob2,r1,r2⟩|⟨r1,_⟩
   ·obtain⟨_,e2⟩:=d.pd_fun hpd r1;rw[r2,e2]
   ·exact absurd hpd (r1 j ob)
  ·left;rw[<-q2];exact hg
 refine⟨i+1,_,HS1,σ',w',a',⟨by omega,zAg d iv ha hS suc hf (ds++(FR p).dfs) (FR 0).round,fun j am h1 h2 h3=> ?_,fun j am h1 h2 h3=> ?_,x1,fun g=> ?_,fun j am h1 h2 h3=> ?_,?_,iv.evo.trans hevo⟩,st⟩
 ·rcases GB j i with q|q
  ·exact .inl (ahead j am q h2 h3)
  ·exact .inr (by omega)
 ·rintro(q|q)
  ·exact behind j am (by omega) h2 h3 q
  ·omega
 ·rcases x2 g with⟨j,ob,_,q1,q2⟩|⟨q1,q2⟩
  ·exact .inl ⟨j,ob,q1,q2⟩
  ·refine .inr ⟨fun j ob hpd=> ?_,q2⟩;have hpd':=hpd;obtain⟨_,_,am,f,z3,_⟩:=hpd';exact q1 j ob (d.lt z3) hpd
 ·have hlt:G j<HS.n:=by
   rw[iv.hn];have:=(d.below h1 h2).2;have:=d.n_le (i:=0) (j:=p) (by omega) iv.pn;omega
  rw[hevo.old.2 _ hlt];exact iv.free j am h1 h2 fun q=>h3 (.inl q)
 ·have:(⟨(val ao.dst ⟨tS,ds++(FR p).dfs,(FR 0).round⟩ v).tm,(FR (i+1)).dfs,(FR 0).round⟩:WR)=val ao.dst ⟨tS,ds++(FR p).dfs,(FR 0).round⟩ v:=by
   rw[hf,zJs,hdfs];cases ao.dst<;>rfl
  rw[this];exact F1
end
section
variable {P:Program}{ih:Ex}{B:Nat}{nt:Nat}{ops:Array Oper}{as:List WG}{l:List (WG×List Nat)}{FR:Nat->WR}{H:Nat->WF}{G:Nat->Nat}{σ0:Nat->Option Pl}{h0:WF}{w0:World}{b:Frame}
def left(ops:Array Oper)(listed:Array Bool):List Nat:=(List.range ops.size).filter fun i=> !listed.getD i true
theorem Inv.congr{S S':Nat->Prop}{p:Nat}{tS:WI Value}{HS:WF}{σ:Nat->Option Pl}{w:World}{a:Act}(he:∀ j,S j↔S' j)(iv:Inv P B nt ops as FR H G σ0 h0 w0 b S p tS HS σ w a):Inv P B nt ops as FR H G σ0 h0 w0 b S' p tS HS σ w a:=by
 have:S=S':=funext fun j=>propext (he j);rw[<-this];exact iv
theorem zPJ(hex:yI P ih)(hcall:yA P ih)(d:Dr P ih nt ops as l FR H G)(h0n:h0.n<=G 0)(hed:zDi ops=true):∀ (fuel t:Nat) (listed:Array Bool) {p:Nat} {tS:WI Value} {HS:WF} {σ:Nat->Option Pl} {w:World} {a:Act},
  listed.size=ops.size->(left ops listed).length<=fuel->
  (∀ (j:Nat) (o:Oper),listed.getD j false=true->ops[j]?=some o->∀ e∈o.after.toList,Region.binds .any e=true->listed.getD e.on false=true)->
  Inv P B nt ops as FR H G σ0 h0 w0 b (fun j=>listed.getD j false=true) p tS HS σ w a->
  ∃ p' tS' HS' σ' w' a',Inv P B nt ops as FR H G σ0 h0 w0 b (fun j=>j<ops.size) p' tS' HS' σ' w' a'/\
   ∀ (k:List Item) (cs:List Frame),zAp b cs->Steps P (lone (At b a (.inRegion ops (Region.linearise.go .any ops fuel t listed [])::k)) cs w) (lone (At b a' (.inRegion ops []::k)) cs w'):=by
 intro fuel;have fin:∀ (listed:Array Bool) {p:Nat} {tS:WI Value} {HS:WF} {σ:Nat->Option Pl} {w:World} {a:Act},listed.size=ops.size->left ops listed=[]->Inv P B nt ops as FR H G σ0 h0 w0 b (fun j=>listed.getD j false=true) p tS HS σ w a->
   Inv P B nt ops as FR H G σ0 h0 w0 b (fun j=>j<ops.size) p tS HS σ w a:=by
  intro listed p tS HS σ w a hsz hl iv;refine iv.congr fun j=>⟨fun hj=> ?_,fun hj=> ?_⟩
  ·rcases GB j ops.size with q|q
   ·exact q
   ·rw[Qv,Array.getElem?_eq_none (by omega)]at hj;cases hj
  ·have hm:j∉left ops listed:=by rw[hl];simp
   have hq:listed.getD j true=true:=by
    cases hv:listed.getD j true with
    |true=>rfl
    |false=>exact absurd (Gt.2 ⟨GT.2 hj,by simp[hv]⟩) hm
   rw[Qv,Qt (by omega)]at hq |-;exact hq
 induction fuel with
 |zero=>
  intro t listed p tS HS σ w a hsz hlen hcl iv;exact⟨p,tS,HS,σ,w,a,fin listed hsz (GS.1 (by omega)) iv,fun k cs hcm=>Steps.refl P _⟩
 |succ fuel ihf=>
  intro t listed p tS HS σ w a hsz hlen hcl iv;simp only[Region.linearise.go];change ∃ p' tS' HS' σ' w' a',_/\∀ (k:List Item) (cs:List Frame),zAp b cs->Steps P (lone (At b a (.inRegion ops (match(Region.ready .any ops listed)[t % (Region.ready .any ops listed).length]? with
   |some i=>Region.linearise.go .any ops fuel (t / (Region.ready .any ops listed).length) (listed.setIfInBounds i true) [i]
   |none=>[].reverse)::k)) cs w) _
  cases hi:(Region.ready .any ops listed)[t % (Region.ready .any ops listed).length]? with
  |none=>
   have hnil:Region.ready .any ops listed=[]:=by
    cases hr:Region.ready .any ops listed with
    |nil=>rfl
    |cons x xs=>
     rw[hr]at hi;have hlt:t % (x::xs).length<(x::xs).length:=Nat.mod_lt _ (by simp);simp at hi;simp at hlt;omega
   refine⟨p,tS,HS,σ,w,a,fin listed hsz ?_ iv,fun k cs hcm=>Steps.refl P _⟩;cases hL:left ops listed with
   |nil=>rfl
   |cons x xs=>
    exfalso;have key:∀ n j,j<n->j∈left ops listed->False:=by
     intro n;induction n with
     |zero=>intro j hj;omega
     |succ n ihn=>
      intro j hj hm;obtain⟨hm1,hm2⟩:=Gt.1 hm;have hjs:=GT.1 hm1;have hr:j∈Region.ready .any ops listed:=by
       refine Gt.2 ⟨hm1,?_⟩;rw[Qt hjs];simp only[QH,Q1,QJ];refine⟨hm2,?_⟩;rw[Array.all_eq_true'];intro e he;cases hb:Region.binds .any e with
       |false=>rfl
       |true=>
        have hlt:=zLU hed (Qt hjs) (by simpa using he) hb;have hno:=ihn e.on (by omega);have:listed.getD e.on true=true:=by
         cases hv:listed.getD e.on true with
         |true=>rfl
         |false=>exact absurd (Gt.2 ⟨GT.2 (by omega),by simp[hv]⟩) hno
        rw[Qv,Qt (by omega)]at this |-;simpa using this
      rw[hnil]at hr;cases hr
    exact key (x+1) x (by omega) (by rw[hL];exact Q0 ..)
  |some i=>
   simp only[];have him:=Ga hi;obtain⟨hm1,hm2⟩:=Gt.1 him;have his:=GT.1 hm1;obtain⟨o,ao,un,ho,ha,_⟩:=d.get his;rw[ho]at hm2;simp only[QH,Q1,QJ]at hm2;have hnl:listed.getD i true=false:=by simpa using hm2.1
   have hS:¬listed.getD i false=true:=by
    rw[Qv,Qt (by omega)]at hnl |-;simp only[Q1]at hnl |-;rw[hnl];simp
   have hready:∀ e∈o.after.toList,Region.binds .any e=true->listed.getD e.on false=true:=by
    intro e he hb;have:=Array.all_eq_true'.1 hm2.2 e (by simpa using he);rw[hb]at this;simpa using this
   have pre:∀ j,Bf (Zf ops.toList []) i j=true->listed.getD j false=true:=zFW (S:=fun j=>listed.getD j false=true) hcl (i+1) i o (by omega) ho hready;have suc:∀ j aj,as[j]?=some aj->listed.getD j false=true->Bf (Zf ops.toList []) j i=false:=by
    intro j aj hja hSj;cases hb:Bf (Zf ops.toList []) j i with
    |false=>rfl
    |true=>
     have hjs:=d.lt hja;exact absurd (zFW (S:=fun j=>listed.getD j false=true) hcl (j+1) j ops[j] (by omega) (Qt hjs) (hcl j _ hSj (Qt hjs)) i hb) hS
   have hnext:zJw P B nt ops as FR H G σ0 h0 w0 b (fun j=>listed.getD j false=true) i w a:=by
    have hle:=zDg ao.op;rcases(by omega:(zG ao.op=0\/zG ao.op=1)\/zG ao.op=2\/zG ao.op=3)with hk|hk|hk
    ·exact zJO hex hcall d iv ho ha hS hk pre suc
    ·exact zLi hex hcall d iv ho ha hS hk pre suc
    ·exact zIb hex hcall d iv h0n ho ha hS hk pre suc
   obtain⟨p1,tS1,HS1,σ1,w1,a1,iv1,st1⟩:=hnext;have hset:∀ j,(listed.setIfInBounds i true).getD j false=true↔listed.getD j false=true\/j=i:=by
    intro j;rw[Qv,Qv,GV];by_cases hj:i=j
    ·subst hj;simp[hsz,his]
    ·rw[QC hj];constructor
     ·exact .inl
     ·rintro(q|q)
      ·exact q
      ·exact absurd q.symm hj
   obtain⟨p2,tS2,HS2,σ2,w2,a2,iv2,st2⟩:=ihf (t / (Region.ready .any ops listed).length) (listed.setIfInBounds i true) (by simpa using hsz) (by
     have:(left ops (listed.setIfInBounds i true)).length<(left ops listed).length:=by
      have e:left ops (listed.setIfInBounds i true)=(left ops listed).filter fun j=> !(listed.setIfInBounds i true).getD j true:=by
       unfold left;rw[List.filter_filter];refine List.filter_congr fun j hj=> ?_;have hjs:=GT.1 hj;rw[Qv,Qv,GV];by_cases hq:i=j
       ·subst hq;simp[hsz,his]
       ·rw[QC hq];simp
      rw[e];refine List.length_filter_lt_length_iff_exists.2 ⟨i,Gt.2 ⟨hm1,by simp[hnl]⟩,?_⟩;rw[Qv,GV];simp[hsz,his]
     omega)
    (fun j o' hj ho' e he hb=>by
     rw[hset]at hj |-;rcases hj with hj|rfl
     ·exact .inl (hcl j o' hj ho' e he hb)
     ·rw[ho]at ho';cases ho';exact .inl (hready e he hb)) (iv1.congr fun j=>(hset j).symm)
   refine⟨p2,tS2,HS2,σ2,w2,a2,iv2,fun k cs hcm=> ?_⟩;rw[linearise_go_acc,List.reverse_singleton,List.singleton_append];exact Steps.trans (st1 _ k cs hcm) (st2 k cs hcm)
end
section
variable {P:Program}{ih:Ex}
theorem zJZ(hmix:P.follows .mixedOrders=true)(hgr:ZD ih)(hex:yI P ih)(hcall:yA P ih):zFN P ih:=by
 intro nt id ops as l hc hd B σ h w fr fr' a b h' hr hF hx;unfold zFO at hd;simp only[Q2]at hd;split at hd;case isFalse=>cases hd
 case isTrue hok=>
 simp only[QA,WU.regionC.injEq]at hd;subst hd;rw[QJ]at hok;obtain⟨hed,hpairs⟩:=hok;obtain⟨c1,c2⟩:=zJH hc;simp only[Array.length_toList]at c1;unfold YN at hx;cases hcx:yF P ih (zBV (Zf ops.toList []) [] 0 as) 0 h.n [] [] [] fr {h with n:=h.n+((zBV (Zf ops.toList []) [] 0 as).filter fun x=>Nat.beq (zG x.1.op) 3).length} with
 |none=>simp[hcx]at hx
 |some q=>
 obtain⟨fr1,h1,ws⟩:=q;simp only[hcx,QA,QD]at hx;obtain⟨rfl,rfl⟩:=hx;obtain⟨FR,H,G,f0,f1,f2,f3,f4,tr,_,_,_,_⟩:=zPR hcx;obtain⟨u1,u2⟩:=zO2 (b:=Zf ops.toList []) (as:=as) (before:=[]) (j:=0);have hnone:∀ g,h.n<=g->h.get g=none:=fun g hg=>by
  cases hq:h.get g with
  |none=>rfl
  |some o=>obtain⟨pl,z,_⟩:=hr.live _ _ hq;have:=(hr.lt _ _ z).1;omega
 have d:Dr P ih nt ops as (zBV (Zf ops.toList []) [] 0 as) FR H G:=by
  refine⟨c1,u1,fun i o ao ho ha=>c2 i o ao (by simpa using ho) ha,fun k ao ha=> ?_,fun i j ai aj hij hai haj=> ?_,tr,hgr,by rw[f1,f2];exact QE _,fun g hg=> ?_⟩
  ·obtain⟨un,a1,_,a3⟩:=u2 k ao ha;exact⟨un,a1,fun k2 ao2 h1 h2 h3 h4=>by have:=a3 k2 ao2 h1 h2 (by simpa using h3) h4;simpa using this⟩
  ·exact zLm (zLZ hpairs i j _ _ hij (zBR c1 hai) (zBR c1 haj))
  ·rw[f1];exact hnone g (by rw[<-f2];exact hg)
 have hH0:∀ g,(H 0).get g=h.get g:=fun g=>by rw[f1];rfl
 have hrel0:Wg P B σ (H 0) w:=by
  have hn:h.n<=(H 0).n:=by rw[f1];exact G8 _ _
  refine⟨hr.globals,fun g pl hg=>⟨QK (hr.lt g pl hg).1 hn,(hr.lt g pl hg).2⟩,fun g o hg=>hr.live g o (by rw[<-hH0];exact hg),
   fun g o g' o' pl pl' a1 a2=>hr.apart g o g' o' pl pl' (by rw[<-hH0];exact a1) (by rw[<-hH0];exact a2),hr.le⟩
 have hev0:Wy P B σ h w σ (H 0) {w with drawn:=w.drawn+1}:=by
  refine⟨.refl _,hrel0.drew _,rfl,rfl,rfl,QE _,fun _ _ _=>rfl,fun b' ⟨g,o,pl,a1,a2⟩=> .inr ⟨g,o,pl,by rw[<-hH0];exact a1,a2⟩,by rw[f1];exact G8 _ _,fun _ _=>rfl⟩
 have hfr0:(⟨fr.tm,(FR 0).dfs,(FR 0).round⟩:WR)=fr:=by rw[f0]
 have hS0:∀ j,¬(Array.replicate ops.size false).getD j false=true:=fun j=>by
  rw[Qv,Array.getElem?_replicate];split<;>simp
 have iv0:Inv P B nt ops as FR H G σ h w b (fun j=>(Array.replicate ops.size false).getD j false=true) 0 fr.tm (H 0) σ {w with drawn:=w.drawn+1} a:=by
  refine⟨QU _,fun s m hm k1 k2=> ?_,fun j ao hj=>by omega,fun j ao _ _ _ hj=>hS0 j hj,rfl,fun g=> .inr ⟨fun j ob hp=>hS0 j hp.1,rfl⟩,fun j ao hja hk _=> ?_,?_,hev0⟩
  ·have:=d.slot (s:=s) (i:=0) (j:=m) (by omega) hm fun j ao _ h2 hja hdj=>hS0 j (k1 j ao h2 hja hdj);rw[this,f0]
  ·have:=(d.below hja hk).1;rw[f2]at this;cases hq:σ (G j)with
   |none=>rfl
   |some pl=>have:=(hr.lt _ _ hq).1;omega
  ·rw[hfr0];exact hF
 obtain⟨p,tS,HS,σ',w',a',iv,st⟩:=zPJ hex hcall d (by rw[f2];exact QE _) hed ops.size (w.tape w.drawn (.order b.fn id)) (Array.replicate ops.size false) (by simp)
  (by have:=List.length_filter_le (fun i=> !(Array.replicate ops.size false).getD i true) (List.range ops.size);simpa [left]using this) (fun j o hj=>absurd hj (hS0 j)) iv0
 have hlen:(zBV (Zf ops.toList []) [] 0 as).length=ops.size:=by rw[u1,c1]
 rw[hlen]at f3 f4;subst f3 f4;have hquiet:∀ (m:Nat) (am:WG),p<=m->m<ops.size->as[m]?=some am->zG am.op≠2:=fun m am a1 a2 a3 a4=>iv.loud2 m am a1 a3 a4 a2;have hget:∀ g,HS.get g=(H ops.size).get g:=fun g=>by
  have hw:=d.walk (S:=fun j=>j<ops.size) (p:=p) (g:=g) iv.pn (QE _) (fun m am a1 a2 hm=>⟨fun hk2=>absurd hk2 (hquiet m am a1 a2 hm),fun _ hSm _ _=>hSm a2⟩);rcases hw with⟨j,ob',hj,q1,q2⟩|⟨q1,q2⟩
  ·rcases iv.pend g with⟨j',ob2,r1,r2⟩|⟨r1,_⟩
   ·obtain⟨_,e2⟩:=d.pd_fun q1 r1;rw[r2,<-e2,q2]
   ·exact absurd q1 (r1 j ob')
  ·rcases iv.pend g with⟨j',ob2,r1,r2⟩|⟨_,r2⟩
   ·exact absurd r1 (q1 j' ob2 r1.1)
   ·rw[r2,q2]
 have hn:HS.n=(H ops.size).n:=iv.hn.trans (d.n_eq iv.pn (QE _) hquiet).symm;refine⟨σ',w',a',?_,?_,?_,fun k cs hcm=> ?_⟩
 ·exact iv.evo.trans (Wy.same (h2:={H ops.size with mark:=h.mark,wr:=((ws.map (·.2)).filter fun g=> !Nat.ble h.mark g)++h.wr}) iv.evo.rel (fun g o hg=>by rw[hget];exact hg) hn.symm)
 ·refine⟨iv.rel.size,fun k=> ?_,?_,?_⟩
  ·have:=iv.slots k ops.size (QE _) (fun j ao hj _ _=>hj) (fun j ao hj hja _ hjs=>by omega);rw[<-this];exact iv.rel.tm k
  ·rw[d.dfs iv.pn (QE _) hquiet];exact iv.rel.dfs
  ·rw[d.round (QE _)];exact iv.rel.round
 ·rw[d.round (QE _),f0]
 ·refine Steps.trans (.one zEj) (.trans ?_ (.one (zBZ (ops:=ops))));have:=st k cs hcm;unfold Region.schedule;rw[hmix];simp only[Qq,Q9];exact this
structure Wv.Ok(P:Program)(tab:Wv):Prop where
 code:∀ f a,tab.code f=some a->zEd P f=some a
 stub:∀ f s,tab.stub f=some s->zCn P f s
 grow:∀ f s,tab.stub f=some s->∀ args h v h',s args h=some (v,h')->Wk h.n h h'
theorem sound(hmix:P.follows .mixedOrders=true){tab:Wv}(htab:tab.Ok P)(n:Nat):yI P (BI P tab n)/\yA P (BI P tab n):=by
 induction n with
 |zero=>exact⟨(fun nt c ac _ fr h e fr' h' hx=>by cases hx),(fun f args h v h' hx=>by cases hx)⟩
 |succ n ih=>exact⟨zHe ih.1 ih.2 (zJZ hmix (zNf htab.grow n) ih.1 ih.2),zHw ih.1 ih.2 htab.code htab.stub⟩
end
section
variable {P:Program}{B:Nat}{σ:Nat->Option Pl}{h h':WF}{w:World}
theorem zNZ(hmix:P.follows .mixedOrders=true){tab:Wv}(htab:tab.Ok P){n:Nat}{f:FuncId}{args:List Value}{as:Array Value}{v:Value}
  (hx:(BI P tab n).call f args h=some (v,h')) (hr:Wg P B σ h w) (hl:WW σ args as.toList):
  Calls P f as w fun e w'=>∃ σ' cv,e=.returned cv/\WL σ' v cv/\Wy P B σ h w σ' h' w':=by
 intro cs;obtain⟨_,h2⟩:=(sound hmix htab n).2 f args h v h' hx;obtain⟨σ',w',cv,e1,e2,e3⟩:=h2 B σ w hr as hl .normal (.inl rfl);obtain⟨fr',e4,e5⟩:=e3 cs (.inl rfl);exact⟨.returned cv,w',fr',⟨σ',cv,rfl,e2,e1⟩,e4,e5.fn,e5.mode,e5.defers,e5.kind,by
  obtain⟨fn,q1,q2⟩:=e5.results;exact⟨fn,by rw[e5.fn];exact q1,q2⟩⟩
theorem zLT(hmix:P.follows .mixedOrders=true){tab:Wv}(htab:tab.Ok P){n:Nat}{f:FuncId}{args:List Value}{as:Array Value}
  (hx:((BI P tab n).call f args h).map (·.1)=some (.bool true)) (hr:Wg P B σ h w) (hl:WW σ args as.toList):
  Calls P f as w fun e w'=>e=.returned (.bool true)/\Below B w w':=by
 cases hc:(BI P tab n).call f args h with
 |none=>simp[hc]at hx
 |some p=>
  obtain⟨v,h'⟩:=p;simp only[hc,QH,QA]at hx;subst hx;exact Calls.mono (zNZ hmix htab hc hr hl) fun e w' ⟨σ',cv,e1,e2,e3⟩=>by
   cases e2;exact⟨e1,e3.below hr⟩
end
section
variable {P:Program}{w:World}
def s0(P:Program)(w:World):Nat->Option Pl:=fun g=>if g<P.globals.size then some ⟨g,0,match w.heap[g]? with|some (.cells c _ _)=>c.size|_=>0⟩else none
def zPO(n:Nat):WF:={n:=n,tab:= .leaf,mark:=0,wr:=[]}
def zF9(P:Program):Wv:=⟨zEd P,fun _=>none⟩
theorem zI6(P:Program):(zF9 P).Ok P:=⟨fun _ _ h=>h,(fun f s h=>by cases h),(fun f s h=>by cases h)⟩
theorem hrel0(hg:P.globals.size<=w.heap.size):Wg P w.heap.size (s0 P w) (zPO P.globals.size) w:=by
 refine⟨fun g h=>⟨⟨g,0,match w.heap[g]? with|some (.cells c _ _)=>c.size|_=>0⟩,QG h,rfl,rfl⟩,fun g pl hp=> ?_,fun g o hg=> ?_,fun g o g' o' pl pl' hg=> ?_,QE _⟩
 ·unfold s0 at hp;split at hp
  ·cases hp;exact⟨by assumption,by show g<w.heap.size;omega⟩
  ·cases hp
 ·cases hg
 ·cases hg
end
end Go.Am
