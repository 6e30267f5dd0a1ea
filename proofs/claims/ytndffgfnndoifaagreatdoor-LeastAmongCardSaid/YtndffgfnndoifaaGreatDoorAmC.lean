/- A part of the machine and of its soundness; proves no statement. -/
import Derived.Test.YtndffgfnndoifaaGreatDoorAmB
import Derived.Orders
set_option linter.all false
namespace Go.Am
structure Wl(m:Nat)(h h':WA):Prop where
 n:h.n<=h'.n
 gone:∀ g,g<m->h.get g=none->h'.get g=none
 mark:h'.mark=h.mark
 wr:∀ g,g∈h.wr->g∈h'.wr
 log:∀ g,g<h.mark->g<m->g∉h'.wr->h'.get g=h.get g
 notown:∀ g o,h'.get g=some o->zCx o=false->h.get g=some o
 wf:(∀ g,h.n<=g->h.get g=none)->∀ g,h'.n<=g->h'.get g=none
def Wl.refl(m:Nat)(h:WA):Wl m h h:=⟨QF _,fun _ _ x=>x,rfl,fun _ x=>x,fun _ _ _ _=>rfl,fun _ _ x _=>x,fun x=>x⟩
def Wl.le{m m':Nat}{h h':WA}(x:Wl m h h')(hm:m'<=m):Wl m' h h':=
 ⟨x.n,fun g hg=>x.gone g (QG hg hm),x.mark,x.wr,fun g h1 h2=>x.log g h1 (QG h2 hm),x.notown,x.wf⟩
def Wl.trans{m:Nat}{h h' ef:WA}(x:Wl m h h')(y:Wl m h' ef):Wl m h ef:=
 ⟨QM x.n y.n,fun g hg e=>y.gone g hg (x.gone g hg e),y.mark.trans x.mark,fun g e=>y.wr g (x.wr g e),
  fun g h1 h2 h3=>(y.log g (by rw[x.mark];exact h1) h2 h3).trans (x.log g h1 h2 fun e=>h3 (y.wr g e)),fun g o e k=>x.notown g o (y.notown g o e k) k,fun e=>y.wf (x.wf e)⟩
def Wl.on{h h' ef:WA}(x:Wl h.n h h')(y:Wl h'.n h' ef):Wl h.n h ef:=x.trans (y.le x.n)
def YQ(h:WA){o:Wp}(ho:zCx o=true):Wl h.n h (h.push o):=by
 refine⟨GU _,fun g hg e=> ?_,rfl,fun _ x=>x,fun g _ hg _=> ?_,fun g o' e k=> ?_,fun e g hg=> ?_⟩
 ·rw[zM,QC (Nat.ne_of_lt hg)];exact e
 ·rw[zM,QC (Nat.ne_of_lt hg)]
 ·rw[zM]at e;split at e
  ·cases e;rw[ho]at k;cases k
  ·exact e
 ·have:h.n+1<=g:=hg;rw[zM,QC ω];exact e g ω
def zIf{h:WA}{g k:Nat}(hk:k∈h.wr):k∈h.log g:=by
 unfold WA.log;cases Nat.ble h.mark g<;>simp[hk]
def zBZ{h:WA}{g:Nat}(hg:g<h.mark):g∈h.log g:=by
 unfold WA.log;have:Nat.ble h.mark g=false:=by
  cases hb:Nat.ble h.mark g with
  |false=>rfl
  |true=>have:=QP hb;omega
 simp[this]
def Z8(h:WA){g:Nat}{o o':Wp}(hg:h.get g=some o')(ho:zCx o=true)(m:Nat):Wl m h (h.set g o):=by
 refine⟨QF _,fun k _ e=> ?_,rfl,fun k hk=>zIf hk,fun k h1 _ h3=> ?_,fun k o2 e q=> ?_,fun e k hk=> ?_⟩
 ·rw[zn];split
  ·rename_i e';subst e';rw[hg]at e;cases e
  ·exact e
 ·rw[zn];split
  ·rename_i e';subst e';exact absurd (zBZ h1) h3
  ·rfl
 ·rw[zn]at e;split at e
  ·cases e;rw[ho]at q;cases q
  ·exact e
 ·have hk:h.n<=k:=hk;rw[zn];split
  ·rename_i e';subst e';rw[e k hk]at hg;cases hg
  ·exact e k hk
def zOL(h:WA)(g m:Nat):Wl m h (h.kill g):=by
 refine⟨QF _,fun k _ e=> ?_,rfl,fun k hk=>zIf hk,fun k h1 _ h3=> ?_,fun k o2 e q=> ?_,fun e k hk=> ?_⟩
 ·rw[yn];split
  ·rfl
  ·exact e
 ·rw[yn];split
  ·rename_i e';subst e';exact absurd (zBZ h1) h3
  ·rfl
 ·rw[yn]at e;split at e
  ·cases e
  ·exact e
 ·rw[yn];split
  ·rfl
  ·exact e k hk
def ZM(h:WA)(k:Nat)(o:Wp)(g:Nat):(h.lay k o).get g=if g=k then some o else h.get g:=zU _ _ _ _
def zQ3(h:WA){g m:Nat}{o:Wp}(hg:m<=g)(hn:g<h.n)(ho:zCx o=true):Wl m h (h.lay g o):=by
 refine⟨QF _,fun k hk e=> ?_,rfl,fun k hk=>zIf hk,fun k h1 hk h3=> ?_,fun k o2 e q=> ?_,fun e k hk=> ?_⟩
 ·rw[ZM,QC ω];exact e
 ·rw[ZM,QC ω]
 ·rw[ZM]at e;split at e
  ·cases e;rw[ho]at q;cases q
  ·exact e
 ·have hk:h.n<=k:=hk;rw[ZM,QC ω];exact e k hk
def ZT(ih:Ex):Prop:=(∀ c fr h e ae h',ih.exec c fr h=some (e,ae,h')->Wl h.n h h')/\∀ f args h v h',ih.call f args h=some (v,h')->Wl h.n h h'
def zBy{h h':WA}{a:Addr}{vs:List Value}(hx:zk h a vs=some h'):Wl h.n h h':=by
 unfold zk at hx;split at hx
 ·rename_i cells lo hg;simp only[GL]at hx;split at hx
  ·cases hx;exact Z8 h hg rfl _
  ·cases hx
 ·cases hx
def zIY{c:Nat}{s x v:Value}{h h':WA}(hx:yR c s x h=some (v,h')):Wl h.n h h':=by
 have hm:∀ {y ys n},some (mk h (y::ys) n c)=some (v,h')->Wl h.n h h':=fun {y ys n} e=>by
  simp only[mk,QA,QE]at e;obtain⟨rfl,rfl⟩:=e;exact YQ h rfl
 unfold yR at hx;simp only[GL]at hx;repeat' split at hx
 all_goals first
  |(cases hx;done)
  |exact hm hx
  |(simp only[QA,QE]at hx
    obtain⟨rfl,rfl⟩:=hx
    first
     |exact Wl.refl _ _
     |exact Wl.on (zOL h _ _) (YQ _ rfl))
def zGq{l:Nat}{r:W6}{h h':WA}{e:WL}{v:Value}(hl:h.get l=some (.loop r))(hx:Zf l r h e=(v,h')):Wl h.n h h':=by
 cases e<;>(
  simp only[Zf,QE]at hx
  obtain⟨rfl,rfl⟩:=hx
  exact Z8 h hl rfl _)
def zJG{ih:Ex}(hi:ZT ih){l:Nat}{r:W6}{args:List Value}{h h':WA}{v:Value}(hx:zBd ih l r args h=some (v,h')):Wl h.n h h':=by
 unfold zBd at hx;split at hx
 ·rename_i a6 h1 pD;split at hx
  ·rename_i r1 fw;have aL:r1.state=.ready:=by
    cases hs:r1.state<;>first|rfl|(rw[hs]at hx;cases hx)
   rw[aL]at hx;dsimp only[cond_true]at hx;split at hx
   ·rename_i e gB h2 pE;split at hx
    ·rename_i r2 _ dK;have g1:=hi.1 _ _ _ _ _ _ pD;have g2:=Z8 h1 (o:= .loop {r1 with state:= .busy}) fw rfl h1.n;have g3:=hi.1 _ _ _ _ _ _ pE;have g4:Wl h2.n h2 h':=by
      simp only[QA]at hx;exact zGq dK hx
     exact((g1.on g2).on g3).on g4
    ·cases hx
   ·cases hx
  ·cases hx
 ·cases hx
def zFx{ih:Ex}(hi:ZT ih){f:Value}{args:List Value}{h h':WA}{v:Value}(hx:zBO ih f args h=some (v,h')):Wl h.n h h':=by
 unfold zBO at hx;split at hx
 ·exact hi.2 _ _ _ _ _ hx
 ·split at hx
  ·simp only[GL]at hx;split at hx
   ·exact zJG hi hx
   ·cases hx
  ·cases hx
 ·cases hx
def zIG{P:Program}{ih:Ex}(hi:ZT ih){name:String}{x:Value}{args:List Value}{h h':WA}{v:Value}(hx:zAu P ih name x args h=some (v,h')):Wl h.n h h':=by
 unfold zAu at hx;split at hx
 ·split at hx
  ·exact hi.2 _ _ _ _ _ hx
  ·cases hx
 ·simp only[GL]at hx;repeat' split at hx
  all_goals first
   |(cases hx;done)
   |(simp only[QT,QE]at hx
     obtain⟨_,_,_,rfl⟩:=hx
     exact Wl.refl _ _)
def zHr{x v:Value}{h h':WA}(hx:zCY x h=some (v,h')\/zD7 x h=some (v,h')):Wl h.n h h':=by
 rcases hx with hx|hx
 ·unfold zCY at hx;split at hx
  ·cases hx;exact YQ h rfl
  ·cases hx
 ·unfold zD7 at hx;simp only[GL]at hx;repeat' split at hx
  all_goals first
   |(cases hx;done)
   |(simp only[QA,QE]at hx
     obtain⟨rfl,rfl⟩:=hx
     first
      |exact Wl.refl _ _
      |exact Z8 h (by assumption) rfl _)
def zIN{c:Nat}{z:List Value}{x v:Value}{h h':WA}(hx:zCP c z x h=some (v,h')):Wl h.n h h':=by
 unfold zCP at hx;simp only[GL]at hx;repeat' split at hx
 all_goals first
  |(cases hx;done)
  |(cases hx;exact Wl.refl _ _)
  |(simp only[QT,QE]at hx
    obtain⟨_,q,_,rfl⟩:=hx
    exact zBy q)
def zOl{P:Program}{ih:Ex}(hi:ZT ih){t:WG Value}{h h':WA}{op:Wz}{v:Value}(hx:WK P ih t h op=some (v,h')):Wl h.n h h':=by
 cases op with
 |store n a x=>
  simp only[WK,GL]at hx;repeat' split at hx
  all_goals first
   |(cases hx;done)
   |(simp only[QT,QE]at hx;obtain⟨h1,hs,_,rfl⟩:=hx;exact zBy hs)
 |append c s x=>exact zIY hx
 |copy c d s=>
  simp only[WK,GL]at hx;repeat' split at hx
  all_goals first
   |(cases hx;done)
   |(cases hx;exact Wl.refl _ _)
   |(simp only[QT,QE]at hx;obtain⟨h1,hs,_,rfl⟩:=hx;exact zBy hs)
 |call f args=>exact zFx hi hx
 |invoke x n args=>exact zIG hi hx
 |rangeStr x=>exact zHr (.inl hx)
 |nextStr x=>exact zHr (.inr hx)
 |clearS c z x=>exact zIN hx
 |update m k v0=>
  simp only[WK]at hx;repeat' split at hx
  all_goals first
   |(cases hx;done)
   |(simp only[QA,QE]at hx
     obtain⟨rfl,rfl⟩:=hx
     exact Z8 h (by assumption) rfl _)
 |delete m k=>
  simp only[WK]at hx;repeat' split at hx
  all_goals first
   |(cases hx;done)
   |(simp only[QA,QE]at hx
     obtain⟨rfl,rfl⟩:=hx
     exact Z8 h (by assumption) rfl _)
 |clear m=>
  simp only[WK]at hx;repeat' split at hx
  all_goals first
   |(cases hx;done)
   |(simp only[QA,QE]at hx
     obtain⟨rfl,rfl⟩:=hx
     exact Z8 h (by assumption) rfl _)
 |_=>
  simp only[WK,GL,mk]at hx;repeat' split at hx
  all_goals first
   |(cases hx;done)
   |(cases hx;exact Wl.refl _ _)
   |(cases hx;exact YQ h rfl)
   |(simp only[QT,QE]at hx
     obtain⟨_,_,_,rfl⟩:=hx
     first
      |exact Wl.refl _ _
      |exact YQ h rfl)
def yx{α:Type}{b:Bool}{x:Option α}{y:α}(h:(bif b then x else none)=some y):b=true/\x=some y:=by
 cases b with
 |false=>cases h
 |true=>exact⟨rfl,h⟩
section
variable {P:Program}{ih:Ex}
def zKa(hi:ZT ih){t:WG Value}{rd:Option Nat}{h h':WA}{op:Wz}{v:Value}{ds:List Deferred}(hx:zy P ih t rd h op=some (v,ds,h')):Wl h.n h h':=by
 unfold zy at hx;split at hx
 ·split at hx
  ·cases hx;exact Wl.refl _ _
  ·cases hx
 ·split at hx
  ·cases hx;exact Wl.refl _ _
  ·cases hx
 ·split at hx
  ·cases hx;exact Wl.refl _ _
  ·cases hx
 ·cases ha:WK P ih t h op with
  |none=>simp[ha]at hx
  |some p=>
   obtain⟨v0,h0⟩:=p;simp only[ha,QA,QE]at hx;obtain⟨rfl,rfl,rfl⟩:=hx;exact zOl hi ha
def Yr(hi:ZT ih){o:WE}{fr ae:WM}{h h':WA}(hx:yO P ih o fr h=some (ae,h')):Wl h.n h h':=by
 unfold yO at hx;cases hw:zP fr.tm o.guard with
 |false=>
  simp only[hw,QU,QA,QE]at hx;obtain⟨_,rfl⟩:=hx;exact Wl.refl _ _
 |true=>
  simp only[hw,cond_true]at hx;cases hv:zy P ih fr.tm fr.round h o.op with
  |none=>simp[hv]at hx
  |some p=>
   obtain⟨v,ds,h1⟩:=p;simp only[hv,QA,QE]at hx;obtain⟨_,rfl⟩:=hx;exact zKa hi hv
def zKf(hi:ZT ih):∀ {l:List WE} {fr ae:WM} {h h':WA},yd P ih l fr h=some (ae,h')->Wl h.n h h':=by
 intro l;induction l with
 |nil=>intro fr ae h h' hx;simp only[yd,QA,QE]at hx;obtain⟨_,rfl⟩:=hx;exact Wl.refl _ _
 |cons o l cj=>
  intro fr ae h h' hx;simp only[yd]at hx;cases ho:yO P ih o fr h with
  |none=>simp[ho]at hx
  |some p=>
   obtain⟨a6,h1⟩:=p;simp only[ho]at hx;exact(Yr hi ho).on (cj hx)
def zHA{t:WG Value}{op:Wz}{o:Wp}{f:Nat->Value}(hx:yh t op=some (o,f)):zCx o=true:=by
 unfold yh at hx;simp only[GL]at hx;repeat' split at hx
 all_goals first
  |(cases hx;done)
  |(cases hx;rfl)
  |(simp only[QT,QE]at hx;obtain⟨_,_,rfl,_⟩:=hx;rfl)
def zKE(hi:ZT ih){g m:Nat}{o:WE}{fr ae:WM}{h h':WA}(hm:m<=h.n)(hg:zE o.op=3->m<=g/\g<h.n)(hx:yC P ih g o fr h=some (ae,h')):Wl m h h':=by
 unfold yC at hx;cases hk:Nat.beq (zE o.op) 3 with
 |false=>
  simp only[hk,QU]at hx;exact(Yr hi hx).le hm
 |true=>
  simp only[hk,cond_true]at hx;obtain⟨h1,h2⟩:=hg (QN hk);cases hw:zP fr.tm o.guard with
  |false=>
   simp only[hw,QU,QA,QE]at hx;obtain⟨_,rfl⟩:=hx;exact Wl.refl _ _
  |true=>
   simp only[hw,cond_true]at hx;cases hv:yh fr.tm o.op with
   |none=>simp[hv]at hx
   |some p=>
    obtain⟨ob,f⟩:=p;simp only[hv,QA,QE]at hx;obtain⟨_,rfl⟩:=hx;exact zQ3 h h1 h2 (zHA hv)
def zTe:∀ {a b:Value},eqV a b=true->a=b:=by
 intro a b h;have addr:∀ {x y:Addr},x.block=y.block->x.off=y.off->x.spot=none->y.spot=none->x=y:=by
  intro x y h1 h2 h3 h4;cases x;cases y;simp_all
 unfold eqV at h;split at h<;>first|(cases h;done)|skip
 all_goals try simp only[QI,Qc,JN,Option.isNone_iff_eq_none]at h
 ·obtain⟨rfl,rfl⟩:=h;rfl
 ·rw[h]
 ·rw[QN h.1,QN h.2]
 ·obtain⟨⟨⟨⟨⟨h1,h2⟩,h3⟩,h4⟩,h5⟩,h6⟩:=h;rw[addr (QN h1) (QN h2) h3 h4,QN h5,QN h6]
 ·rfl
 ·obtain⟨⟨⟨h1,h2⟩,h3⟩,h4⟩:=h;rw[addr (QN h1) (QN h2) h3 h4]
 ·rfl
 ·rw[QN h]
def zM0:∀ {l m:List Value},zRt l m=true->l=m
 |[],[],_=>rfl
 |a::l,b::m,h=>by
  simp only[zRt,QI]at h;rw[zTe h.1,zM0 h.2]
def zIF(h:WA)(g:Nat)(vw:Option (Nat×Nat×List Value)):Prop:=∃ off n cells,vw=some (off,n,cells)/\((z0 h g).bind fun row=>cut row off n)=some cells
def zSw{h:WA}{g:Nat}{vw:Option (Nat×Nat×List Value)}(hs:zCi h g vw=true):zIF h g vw:=by
 unfold zCi at hs;split at hs
 ·rename_i off n cells;split at hs
  ·rename_i c hc;exact⟨off,n,cells,rfl,by rw[hc,zM0 hs]⟩
  ·cases hs
 ·cases hs
structure Tr(P:Program)(ih:Ex)(l:List (WE×List Nat))(i:Nat)(FR:Nat->WM)(H:Nat->WA)(G:Nat->Nat):Prop where
 step:∀ k x,l[k]?=some x->yC P ih (G k) x.1 (FR k) {H k with mark:=(H k).n,wr:=[]}=some (FR (k+1),H (k+1))
 next:∀ k x,l[k]?=some x->G (k+1)=bif Nat.beq (zE x.1.op) 3 then G k+1 else G k
 read:∀ k x g k2,l[k]?=some x->zc (FR k).tm x.1=some g->k2<k->(i+k2)∈x.2->g<(H k2).n/\g∉(H (k2+1)).wr
 write:∀ k x k2 x2 g,l[k]?=some x->k2<k->l[k2]?=some x2->zc (FR k2).tm x2.1=some g->(i+k2)∈x.2->g∉(H (k+1)).wr\/zIF (H (k+1)) g (Y6 (FR k2).tm (H k2) x2.1.op)
def zS4:∀ {l:List (WE×List Nat)} {i g:Nat} {ws:List (Nat×Nat)} {rs:List (Nat×Nat×Option (Nat×Nat×List Value))} {bs bG:List (Nat×Nat)} {fr ae:WM} {h h':WA},yD P ih l i g ws rs bs fr h=some (ae,h',bG)->
  ∃ FR H G,FR 0=fr/\H 0=h/\G 0=g/\FR l.length=ae/\H l.length=h'/\Tr P ih l i FR H G/\
   (∀ k x g,l[k]?=some x->zc (FR k).tm x.1=some g->(∀ j g',(j,g')∈ws->j∈x.2->g≠g')/\∀ j n,(j,n)∈bs->j∈x.2->g<n)/\
   (∀ k x j g vw,l[k]?=some x->(j,g,vw)∈rs->j∈x.2->g∉(H (k+1)).wr\/zIF (H (k+1)) g vw)/\
   (∀ e,e∈ws->e∈bG)/\∀ k,k<l.length->∀ g,g∈(H (k+1)).wr->∃ j,(j,g)∈bG:=by
 intro l;induction l with
 |nil=>
  intro i g ws rs bs bG fr ae h h' hx;simp only[yD,QA,QE]at hx;obtain⟨rfl,rfl,rfl⟩:=hx;exact⟨fun _=>fr,fun _=>h,fun _=>g,rfl,rfl,rfl,rfl,rfl,⟨fun k x e=>by simp at e,fun k x e=>by simp at e,fun k x g k2 e=>by simp at e,fun k x k2 x2 g e=>by simp at e⟩,
   fun k x g e=>by simp at e,fun k x j g vw e=>by simp at e,fun e x=>x,fun k hk=>by simp at hk⟩
 |cons y l cj=>
  intro i g ws rs bs bG fr ae h h' hx;obtain⟨o,un⟩:=y;simp only[yD]at hx;cases ho:yC P ih g o fr {h with mark:=h.n,wr:=[]} with
  |none=>simp[ho]at hx
  |some p=>
  obtain⟨a6,h1⟩:=p;simp only[ho]at hx;obtain⟨aS,hx⟩:=yx hx;rw[QI]at aS;obtain⟨l8,Cv⟩:=aS;obtain⟨FR,H,G,f0,f1,f2,f3,f4,tr,f5,f6,f7,f8⟩:=cj hx;have pL:∀ g0,zc fr.tm o=some g0->(∀ j g',(j,g')∈ws->j∈un->g0≠g')/\∀ j n,(j,n)∈bs->j∈un->g0<n:=by
   intro g0 bE;rw[bE]at l8;simp only[QI,QX]at l8;refine⟨fun j g' hm hj e=> ?_,fun j n hm hj=> ?_⟩
   ·have:=l8.1 _ hm;subst e;simp[hj]at this
   ·have:=l8.2 _ hm;simp[hj]at this;omega
  have Cw:∀ j g0 vw,(j,g0,vw)∈rs->j∈un->g0∉h1.wr\/zIF h1 g0 vw:=by
   intro j g0 vw hm hj;by_cases hw:g0∈h1.wr
   ·have:=QX.1 Cv _ hm;simp[hj,hw]at this;exact .inr (zSw this)
   ·exact .inl hw
  refine⟨fun k=>match k with|0=>fr|k+1=>FR k,fun k=>match k with|0=>h|k+1=>H k,fun k=>match k with|0=>g|k+1=>G k,rfl,rfl,rfl,f3,f4,⟨?_,?_,?_,?_⟩,?_,?_,?_,?_⟩
  ·intro k x e;cases k with
   |zero=>
    simp only[Gn,QA]at e;subst e;simp only[f0,f1];exact ho
   |succ k=>exact tr.step k x (by simpa using e)
  ·intro k x e;cases k with
   |zero=>
    simp only[Gn,QA]at e;subst e;simp only[f2,GL]
   |succ k=>exact tr.next k x (by simpa using e)
  ·intro k x g0 k2 e bE aD hj;cases k with
   |zero=>omega
   |succ k=>
    have e':l[k]?=some x:=by simpa using e
    cases k2 with
    |zero=>
     have hq:=f5 k x g0 e' bE;refine⟨hq.2 i h.n (QR ..) (by simpa using hj),fun hw=> ?_⟩;simp only[f1]at hw;exact hq.1 i g0 (GV _ (Qw.2 ⟨g0,hw,rfl⟩)) (by simpa using hj) rfl
    |succ k2=>exact tr.read k x g0 k2 e' bE ω (by rw[show i+1+k2=i+(k2+1) by omega];exact hj)
  ·intro k x k2 x2 g0 e aD e2 bE hj;cases k with
   |zero=>omega
   |succ k=>
    have e':l[k]?=some x:=by simpa using e
    cases k2 with
    |zero=>
     simp only[Gn,QA]at e2;subst e2;simp only at bE;refine f6 k x i g0 _ e' ?_ (by simpa using hj);rw[bE];exact QR ..
    |succ k2=>exact tr.write k x k2 x2 g0 e' ω (by simpa using e2) bE (by rw[show i+1+k2=i+(k2+1) by omega];exact hj)
  ·intro k x g0 e bE;cases k with
   |zero=>
    simp only[Gn,QA]at e;subst e;exact pL g0 bE
   |succ k=>
    have hq:=f5 k x g0 (by simpa using e) bE;exact⟨fun j g' hm=>hq.1 j g' (GY _ hm),fun j n hm=>hq.2 j n (QW _ hm)⟩
  ·intro k x j g0 vw e hm hj;cases k with
   |zero=>
    simp only[Gn,QA]at e;subst e;simp only[f1];exact Cw j g0 vw hm hj
   |succ k=>
    refine f6 k x j g0 vw (by simpa using e) ?_ hj;split
    ·exact QW _ hm
    ·exact hm
  ·intro e he;exact f7 e (GY _ he)
  ·intro k hk g0 hw;cases k with
   |zero=>
    simp only[f1]at hw;exact⟨i,f7 _ (GV _ (Qw.2 ⟨g0,hw,rfl⟩))⟩
   |succ k=>exact f8 k (by simpa using hk) g0 hw
end
section
variable {P:Program}{ih:Ex}
def cnt(l:List (WE×List Nat)):Nat:=(l.filter fun x=>Nat.beq (zE x.1.op) 3).length
def zI6(l:List (WE×List Nat))(k:Nat):cnt (l.take k)<=cnt l:=((List.take_sublist k l).filter _).length_le
def Tr.count{l:List (WE×List Nat)}{i:Nat}{FR:Nat->WM}{H:Nat->WA}{G:Nat->Nat}(tr:Tr P ih l i FR H G):∀ k,k<=l.length->G k=G 0+cnt (l.take k):=by
 intro k;induction k with
 |zero=>intro _;simp[cnt]
 |succ k fZ=>
  intro hk;have aD:k<l.length:=hk;have e:l[k]?=some l[k]:=QB aD;rw[tr.next k _ e,GF,e];simp only[Option.toList_some,cnt,List.filter_append,QH];rw[fZ ω];simp only[cnt];cases hb:Nat.beq (zE l[k].1.op) 3 with
  |false=>simp[List.filter_cons,hb]
  |true=>simp[List.filter_cons,hb];omega
def Tr.below{l:List (WE×List Nat)}{i:Nat}{FR:Nat->WM}{H:Nat->WA}{G:Nat->Nat}(tr:Tr P ih l i FR H G){k:Nat}{x:WE×List Nat}(e:l[k]?=some x)(h3:zE x.1.op=3):G 0<=G k/\G k<G 0+cnt l:=by
 have hk:k<l.length:=(QS.1 e).1;have h1:=tr.count k ω;have h2:=tr.count (k+1) hk;have h4:=tr.next k x e;rw[h3]at h4;have hb:Nat.beq 3 3=true:=rfl;simp only[hb,cond_true]at h4;have:=zI6 l (k+1);omega
def Tr.grow{l:List (WE×List Nat)}{i:Nat}{FR:Nat->WM}{H:Nat->WA}{G:Nat->Nat}(tr:Tr P ih l i FR H G)(hi:ZT ih){m:Nat}(hm:m<=G 0)(hg:G 0+cnt l<=(H 0).n):
  ∀ k,(k<=l.length->(H 0).n<=(H k).n)/\(k<l.length->Wl m {H k with mark:=(H k).n,wr:=[]} (H (k+1))):=by
 have step:∀ k,k<l.length->(H 0).n<=(H k).n->Wl m {H k with mark:=(H k).n,wr:=[]} (H (k+1)):=fun k hk hn=>by
  have e:l[k]?=some l[k]:=QB hk;refine zKE hi (by show m<=(H k).n;omega) (fun h3=> ?_) (tr.step k _ e);have:=tr.below e h3;exact⟨ω,by show G k<(H k).n;omega⟩
 intro k;induction k with
 |zero=>exact⟨fun _=>QF _,fun hk=>step 0 hk (QF _)⟩
 |succ k fZ=>
  have hn:k+1<=l.length->(H 0).n<=(H (k+1)).n:=fun hk=>by
   have h1:=fZ.1 ω;have h2:(H k).n<=(H (k+1)).n:=(fZ.2 hk).n;omega
  exact⟨hn,fun hk=>step _ hk (hn ω)⟩
def zIP(hi:ZT ih){l:List (WE×List Nat)}{fr ae:WM}{h h':WA}(hx:YZ P ih l fr h=some (ae,h')):Wl h.n h h':=by
 unfold YZ at hx;cases hc:yD P ih l 0 h.n [] [] [] fr {h with n:=h.n+(l.filter fun x=>Nat.beq (zE x.1.op) 3).length} with
 |none=>simp[hc]at hx
 |some p=>
 obtain⟨a6,h1,ws⟩:=p;simp only[hc,QA,QE]at hx;obtain⟨_,rfl⟩:=hx;obtain⟨FR,H,G,f0,f1,f2,f3,f4,tr,_,_,_,f8⟩:=zS4 hc;have iI:=tr.grow hi (m:=h.n) ω (by rw[f1,f2];exact QF _);have a9:∀ (k g:Nat),({H k with mark:=(H k).n,wr:=[]}:WA).get g=(H k).get g:=fun _ _=>rfl;have h0:∀ g,(H 0).get g=h.get g:=fun g=>by rw[f1];rfl
 have kM:h.n<=(H 0).n:=by rw[f1];exact JP _ _
 subst f4;refine⟨?_,fun g hg e=> ?_,rfl,fun g hg=>GY _ hg,fun g h1 h2 h3=> ?_,fun g o e q=> ?_,fun e g hg=> ?_⟩
 ·have:=(iI l.length).1 (QF _);show h.n<=(H l.length).n;omega
 ·have:∀ k,k<=l.length->(H k).get g=none:=by
   intro k;induction k with
   |zero=>intro _;rw[h0];exact e
   |succ k fZ=>intro hk;exact((iI k).2 hk).gone g hg (fZ ω)
  exact this l.length (QF _)
 ·have dy:∀ k,k<l.length->g∉(H (k+1)).wr:=fun k hk hw=>by
   obtain⟨j,hj⟩:=f8 k hk g hw;apply h3;refine GV _ (Gp.2 ⟨Qw.2 ⟨_,hj,rfl⟩,?_⟩);have:Nat.ble h.mark g=false:=by
    cases hb:Nat.ble h.mark g with
    |false=>rfl
    |true=>have:=QP hb;omega
   simp[this]
  have:∀ k,k<=l.length->(H k).get g=h.get g:=by
   intro k;induction k with
   |zero=>intro _;exact h0 g
   |succ k fZ=>
    intro hk;rw[<-fZ ω];refine((iI k).2 hk).log g ?_ h2 (dy k hk);have:=(iI k).1 ω;show g<(H k).n;omega
  exact this l.length (QF _)
 ·have:∀ k,k<=l.length->(H k).get g=some o->h.get g=some o:=by
   intro k;induction k with
   |zero=>intro _ e;rw[<-h0];exact e
   |succ k fZ=>intro hk e;exact fZ ω (((iI k).2 hk).notown g o e q)
  exact this l.length (QF _) e
 ·have:∀ k,k<=l.length->∀ g,(H k).n<=g->(H k).get g=none:=by
   intro k;induction k with
   |zero=>
    intro _ g hg;rw[h0];exact e g ω
   |succ k fZ=>intro hk;exact((iI k).2 hk).wf (fZ ω)
  exact this l.length (QF _) g hg
def zJy(hi:ZT ih):∀ (n:Nat) {b c:WT} {fr ae:WM} {h h':WA} {e:WL},Z5 ih n b c fr h=some (e,ae,h')->Wl h.n h h':=by
 intro n;induction n with
 |zero=>intro b c fr ae h h' e hx;simp[Z5]at hx
 |succ n k8=>
  intro b c fr ae h h' e hx;simp only[Z5]at hx;cases he:ih.exec c fr h with
  |none=>simp[he]at hx
  |some p=>
   obtain⟨e0,bX,h0⟩:=p;have g0:=hi.1 _ _ _ _ _ _ he;rw[he]at hx;cases e0 with
   |goto l=>
    simp only at hx;cases hf:yG b l with
    |none=>simp only[hf,QA,QE]at hx;obtain⟨_,_,rfl⟩:=hx;exact g0
    |some rest=>simp only[hf]at hx;exact g0.on (k8 hx)
   |_=>simp only[QA,QE]at hx;obtain⟨_,_,rfl⟩:=hx;exact g0
def zEZ(hi:ZT ih){f:Value}{ps:List Nat}{a b:WT}{fr ae:WM}{d:Nat}{mark:List Deferred}{h h':WA}{e:WL}(hx:zAl ih f ps a b fr d mark h=some (e,ae,h')):Wl h.n h h':=by
 unfold zAl at hx;split at hx
 ·cases hx
 ·rename_i v0 h2 jE;have g1:=YQ h (o:= .loop {state:= .ready,pending:=none,fn:=0,tm:=fr.tm,params:=ps,assign:=a,body:=b,defers:=d}) rfl;have g2:=zFx hi jE;split at hx
  ·rename_i r hl;have g3:=Z8 h2 (o:= .loop {r with state:= .exhausted}) hl rfl h2.n;have g4:=(g1.on g2).on g3;repeat' split at hx
   all_goals first
    |(cases hx;done)
    |(simp only[QA,QE]at hx;obtain⟨_,_,rfl⟩:=hx;exact g4)
  ·cases hx
def zJC(hi:ZT ih){f:Value}{ps:List Nat}{a b:WT}{fr ae:WM}{h h':WA}{e:WL}(hx:zBa ih f ps a b fr h=some (e,ae,h')):Wl h.n h h':=by
 unfold zBa at hx;split at hx
 ·exact(YQ h rfl).on (zEZ hi hx)
 ·split at hx
  ·exact zEZ hi hx
  ·cases hx
def zLX(hi:ZT ih){c:WT}{fr ae:WM}{h h':WA}{e:WL}(hx:zo P ih c fr h=some (e,ae,h')):Wl h.n h h':=by
 cases c with
 |region ops=>
  simp only[zo,QT,QE]at hx;obtain⟨⟨a6,h1⟩,hx,_,_,rfl⟩:=hx;exact zKf hi hx
 |regionC ops=>
  simp only[zo,QT,QE]at hx;obtain⟨⟨a6,h1⟩,hx,_,_,rfl⟩:=hx;exact zIP hi hx
 |seq a b=>
  simp only[zo]at hx;cases he:ih.exec a fr h with
  |none=>simp[he]at hx
  |some p=>
   obtain⟨e0,bX,h0⟩:=p;have g0:=hi.1 _ _ _ _ _ _ he;rw[he]at hx;cases e0 with
   |normal=>exact g0.on (hi.1 _ _ _ _ _ _ hx)
   |_=>simp only[QA,QE]at hx;obtain⟨_,_,rfl⟩:=hx;exact g0
 |cond t a b=>
  simp only[zo]at hx;repeat' split at hx
  all_goals first
   |(cases hx;done)
   |exact hi.1 _ _ _ _ _ _ hx
 |block id b=>
  simp only[zo]at hx;cases he:ih.exec b fr h with
  |none=>simp[he]at hx
  |some p=>
   obtain⟨e0,bX,h0⟩:=p;have g0:=hi.1 _ _ _ _ _ _ he;rw[he]at hx;cases e0 with
   |exit eI=>
    simp only at hx;split at hx<;>(simp only[QA,QE]at hx;obtain⟨_,_,rfl⟩:=hx;exact g0)
   |_=>simp only[QA,QE]at hx;obtain⟨_,_,rfl⟩:=hx;exact g0
 |loop b=>
  simp only[zo]at hx;cases he:ih.exec b fr h with
  |none=>simp[he]at hx
  |some p=>
   obtain⟨e0,bX,h0⟩:=p;have g0:=hi.1 _ _ _ _ _ _ he;rw[he]at hx;cases e0 with
   |normal=>exact g0.on (hi.1 _ _ _ _ _ _ hx)
   |_=>simp only[QA,QE]at hx;obtain⟨_,_,rfl⟩:=hx;exact g0
 |rangeFunc f ps a b=>exact zJC hi hx
 |scope b=>exact zJy hi _ hx
 |_=>simp only[zo,QA,QE]at hx;obtain⟨_,_,rfl⟩:=hx;exact Wl.refl _ _
def zHy(hi:ZT ih):∀ {ds:List Deferred} {h h':WA},yi ih ds h=some h'->Wl h.n h h':=by
 intro ds;induction ds with
 |nil=>intro h h' hx;simp only[yi,QA]at hx;subst hx;exact Wl.refl _ _
 |cons d ds pJ=>
  intro h h' hx;simp only[yi]at hx;split at hx
  ·split at hx
   ·rename_i hc;exact(hi.2 _ _ _ _ _ hc).on (pJ hx)
   ·cases hx
  ·split at hx
   ·split at hx
    ·rename_i hg;exact(Z8 h hg rfl h.n).on (pJ hx)
    ·cases hx
   ·cases hx
  ·split at hx
   ·rename_i hg;exact(Z8 h hg rfl h.n).on (pJ hx)
   ·cases hx
  ·cases hx
def zLT(hi:ZT ih){tab:FuncId->Option SQ}{f:FuncId}{args:List Value}{h h':WA}{v:Value}(hx:zDn P tab ih f args h=some (v,h')):Wl h.n h h':=by
 unfold zDn at hx;split at hx
 ·cases hx
 ·split at hx
  ·rename_i e a6 h1 he;obtain⟨_,hx⟩:=yx hx;split at hx
   ·cases hx
   ·rename_i h2 hd;split at hx
    ·cases hx
    ·simp only[QA,QE]at hx;obtain⟨_,rfl⟩:=hx;exact(hi.1 _ _ _ _ _ _ he).on (zHy hi hd)
  ·cases hx
def zLm(hi:ZT ih){tab:Ws}(aL:∀ f s,tab.stub f=some s->∀ args h v h',s args h=some (v,h')->Wl h.n h h'){f:FuncId}{args:List Value}{h h':WA}{v:Value}
  (hx:zBl P tab ih f args h=some (v,h')):Wl h.n h h':=by
 unfold zBl at hx;split at hx
 ·exact aL _ _ (by assumption) _ _ _ _ hx
 ·exact zLT hi hx
def zPG{tab:Ws}(aL:∀ f s,tab.stub f=some s->∀ args h v h',s args h=some (v,h')->Wl h.n h h'):∀ n,ZT (BE P tab n):=by
 intro n;induction n with
 |zero=>exact⟨(fun c fr h e ae h' hx=>by cases hx),(fun f args h v h' hx=>by cases hx)⟩
 |succ n k8=>exact⟨fun c fr h e ae h' hx=>zLX k8 hx,fun f args h v h' hx=>zLm (P:=P) k8 aL hx⟩
end
section
variable {P:Program}{ih:Ex}
def YO{t t2:WG Value}{o:Option Operand}(hx:∀ x∈zFy o,ev t x=ev t2 x):SM t o=SM t2 o:=by
 cases o with
 |none=>rfl
 |some x=>simp only[SM,hx x (by simp[zFy])]
def zAP{t t2:WG Value}{l:List Operand}(hx:∀ x∈l,ev t x=ev t2 x):l.map (ev t)=l.map (ev t2):=Gj hx
def zCG{t t2:WG Value}{l:List (Nat×Nat×Operand)}(hx:∀ x∈l.map (·.2.2),ev t x=ev t2 x):zr t l=zr t2 l:=by
 unfold zr;refine Gj fun p hp=> ?_;obtain⟨a,b,x⟩:=p;simp only[hx x (Qw.2 ⟨_,hp,rfl⟩)]
def zHG{t t2:WG Value}{h:WA}{op:Wz}(hx:∀ x∈zGh op,ev t x=ev t2 x):WK P ih t h op=WK P ih t2 h op:=by
 cases op with
 |build z ps=>simp only[WK,zCG hx]
 |buildSlice l c z ps=>simp only[WK,zCG hx]
 |slice c x lo hi mx=>
  simp only[zGh,Qt,Qf]at hx;simp only[WK,hx x (.inl rfl),YO (o:=lo) fun y hy=>hx y (.inr (.inl (.inl hy))),YO (o:=hi) fun y hy=>hx y (.inr (.inl (.inr hy))),YO (o:=mx) fun y hy=>hx y (.inr (.inr hy))]
 |sliceArr n c x lo hi mx=>
  simp only[zGh,Qt,Qf]at hx;simp only[WK,hx x (.inl rfl),YO (o:=lo) fun y hy=>hx y (.inr (.inl (.inl hy))),YO (o:=hi) fun y hy=>hx y (.inr (.inl (.inr hy)))]
 |sliceStr x lo hi=>
  simp only[zGh,Qt,Qf]at hx;simp only[WK,hx x (.inl rfl),YO (o:=lo) fun y hy=>hx y (.inr (.inl hy)),YO (o:=hi) fun y hy=>hx y (.inr (.inr hy))]
 |maxmin m xs=>
  cases xs with
  |nil=>rfl
  |cons x r=>simp only[WK,hx x (QR ..),zAP fun y hy=>hx y (QW _ hy)]
 |mkFunc fn a b=>simp only[WK,zAP (l:=a) fun y hy=>hx y (GV _ hy),zAP (l:=b) fun y hy=>hx y (GY _ hy)]
 |call f args=>simp only[WK,hx f (QR ..),zAP fun y hy=>hx y (QW _ hy)]
 |dfr f args=>rfl
 |dfrClear _ _ _ _=>rfl
 |invoke x n args=>simp only[WK,hx x (QR ..),zAP fun y hy=>hx y (QW _ hy)]
 |_=>
  simp only[zGh,Qt,List.not_mem_nil,or_false,forall_eq_or_imp,forall_eq]at hx;simp only[WK,hx]
def zHv{t t2:WG Value}{rd:Option Nat}{h:WA}{op:Wz}(hx:∀ x∈zGh op,ev t x=ev t2 x):zy P ih t rd h op=zy P ih t2 rd h op:=by
 cases op with
 |dfr f args=>simp only[zy,hx f (QR ..),zAP fun y hy=>hx y (QW _ hy)]
 |dfrClear ty tp cs m=>simp only[zy,hx m (QR ..)]
 |_=>simp only[zy,zHG hx]
def zKi{t t2:WG Value}{op:Wz}(hx:∀ x∈zGh op,ev t x=ev t2 x):yh t op=yh t2 op:=by
 cases op with
 |buildSlice l c z ps=>simp only[yh,zCG hx]
 |box x=>simp only[yh,hx x (QR ..)]
 |mkSlice c z l cp=>
  simp only[zGh,Qt,List.not_mem_nil,or_false,forall_eq_or_imp,forall_eq]at hx;simp only[yh,hx]
 |_=>rfl
def zFT{t t2:WG Value}{o:WE}(hx:∀ s∈YD o,zC t s=zC t2 s):∀ x∈zGh o.op,ev t x=ev t2 x:=by
 intro x se;cases x with
 |tmp s=>
  refine hx s (GV _ ?_);exact G9.2 ⟨.tmp s,se,rfl⟩
 |_=>rfl
def YX{t t2:WG Value}{o:WE}(hx:∀ s∈YD o,zC t s=zC t2 s):zP t o.guard=zP t2 o.guard:=by
 cases hg:o.guard with
 |none=>rfl
 |some p=>
  obtain⟨j,want⟩:=p;simp only[zP,hx j (by simp[YD,hg])]
def zCn(t:WG Value):Wz->Option Nat
 | .load _ _ x| .sliceArr _ _ x _ _ _=>(match ev t x with
  | .pointer (some a)=>some a.block
  |_=>none)
 | .lookup _ _ m _| .lenMap m=>(match ev t m with
  | .map (some g)=>some g
  |_=>none)
 |_=>none
def zNC(t:WG Value)(o:WE)(hw:zP t o.guard=true):zc t o=zCn t o.op:=by
 unfold zc;rw[hw];cases o.op<;>rfl
def zAw{h h2:WA}{g:Nat}(e:h2.get g=h.get g):z0 h2 g=z0 h g:=by unfold z0;rw[e]
def zDA{h:WA}{g:Nat}{c:List Value}(e:z0 h g=some c):h.get g≠none:=by
 unfold z0 at e;intro e';rw[e']at e;cases e
def zL4{α:Type}{f:α->Value}{x:Option α}{h h':WA}{v:Value}(e:(x.map fun a=>(f a,h))=some (v,h')):h'=h/\∃ a,x=some a/\f a=v:=by
 simp only[QT,QE]at e;obtain⟨a,e0,e1,e2⟩:=e;exact⟨e2.symm,a,e0,e1⟩
def zLM{t:WG Value}{h h':WA}{op:Wz}{v:Value}(hk:zE op=0)(hx:WK P ih t h op=some (v,h')):h'=h/\∀ h2:WA,WK P ih t h2 op=some (v,h2):=by
 have plain:∀ {x:Option Value},(x.map fun a=>(a,h))=some (v,h')->h'=h/\∀ h2:WA,(x.map fun a=>(a,h2))=some (v,h2):=fun {x} e=>by
  obtain⟨e1,a,e2,e3⟩:=zL4 e;refine⟨e1,fun h2=> ?_⟩;rw[e2,<-e3];rfl
 cases op with
 |mov x=>simp only[WK]at hx |-;cases hx;exact⟨rfl,fun _=>rfl⟩
 |lenC n=>simp only[WK]at hx |-;cases hx;exact⟨rfl,fun _=>rfl⟩
 |pick c a b=>
  simp only[WK]at hx |-;cases hc:ev t c with
  |bool c=>simp only[hc]at hx;cases hx;exact⟨rfl,fun _=>rfl⟩
  |_=>simp[hc]at hx
 |bin op x y=>exact plain hx
 |un op x=>exact plain hx
 |maxmin m xs=>
  cases xs with
  |nil=>cases hx
  |cons x r=>exact plain hx
 |slice c x lo hi mx=>
  simp only[WK]at hx |-;cases h1:SM t lo with
  |none=>simp[h1]at hx
  |some i7=>
  cases h2:SM t hi with
  |none=>simp[h1,h2]at hx
  |some af=>
  cases h3:SM t mx with
  |none=>simp[h1,h2,h3]at hx
  |some ni=>
  simp only[h1,h2,h3]at hx;exact plain hx
 |isNil k n x=>
  simp only[WK]at hx |-;obtain⟨e1,a,e2,e3⟩:=zL4 (f:=fun b=>Value.bool (if n then !b else b)) hx;exact⟨e1,fun h2=>by rw[e2,<-e3];rfl⟩
 |build z ps=>
  simp only[WK]at hx |-;obtain⟨e1,a,e2,e3⟩:=zL4 (f:=fun cells:List Value=>Value.agg cells.toArray) hx;exact⟨e1,fun h2=>by rw[e2,<-e3];rfl⟩
 |len x=>
  simp only[WK]at hx |-;cases hl:zOw (ev t x)with
  |none=>rw[hl]at hx;cases hx
  |some n=>
   rw[hl]at hx;cases hx;exact⟨rfl,fun h2=>rfl⟩
 |part agg off n x=>
  simp only[WK]at hx |-;cases hv:ev t x with
  |agg cs=>simp only[hv]at hx;exact plain hx
  |_=>simp[hv]at hx
 |elem len agg n x i=>
  simp only[WK]at hx |-;cases hv:ev t x with
  |agg cs=>
   cases hi:BX (ev t i)with
   |none=>simp[hv,hi]at hx
   |some i'=>
    simp only[hv,hi]at hx;obtain⟨hc,hx⟩:=yx hx;simp only[hc,cond_true];exact plain hx
  |_=>simp[hv]at hx
 |binB neg x y=>
  simp only[WK]at hx |-;cases hv:ev t x with
  |bool a=>
   cases hw:ev t y with
   |bool b=>simp only[hv,hw]at hx;cases hx;exact⟨rfl,fun _=>rfl⟩
   |_=>simp[hv,hw]at hx
  |_=>simp[hv]at hx
 |binP op ty x y=>
  simp only[WK]at hx |-;obtain⟨hc,hx⟩:=yx hx;split at hx
  ·rename_i v0 hp;obtain⟨fc,hx⟩:=yx hx;cases hx;exact⟨rfl,fun h2=>by simp only[hc,hp,fc,cond_true]⟩
  ·cases hx
 |convP s d x=>
  simp only[WK]at hx |-;obtain⟨hc,hx⟩:=yx hx;split at hx
  ·rename_i v0 hp;obtain⟨fc,hx⟩:=yx hx;cases hx;exact⟨rfl,fun h2=>by simp only[hc,hp,fc,cond_true]⟩
  ·cases hx
 |conv k x=>
  simp only[WK]at hx |-;cases hv:ev t x with
  |int k' n=>simp only[hv]at hx;cases hx;exact⟨rfl,fun _=>rfl⟩
  |_=>simp[hv]at hx
 |idx c x i=>
  simp only[WK]at hx |-;split at hx
  ·rename_i a len k i' q1 q2;obtain⟨hc,hx⟩:=yx hx;cases hx;exact⟨rfl,fun h2=>by simp only[q1,q2,hc,cond_true]⟩
  ·cases hx
 |idxArr len c x i=>
  simp only[WK]at hx |-;split at hx
  ·rename_i a i' q1 q2;obtain⟨hc,hx⟩:=yx hx;cases hx;exact⟨rfl,fun h2=>by simp only[q1,q2,hc,cond_true]⟩
  ·cases hx
 |cplx x y=>exact plain hx
 |cpart im x=>exact plain hx
 |assert ty ok x=>exact plain hx
 |typeOf rt x=>exact plain hx
 |mkIface ty x=>simp only[WK]at hx |-;cases hx;exact⟨rfl,fun _=>rfl⟩
 |nilCheck x=>exact plain hx
 |fld off x=>
  simp only[WK]at hx |-;split at hx
  ·rename_i a q1;obtain⟨hc,hx⟩:=yx hx;cases hx;exact⟨rfl,fun h2=>by simp only[q1,hc,cond_true]⟩
  ·cases hx
 |elemStr x i=>
  simp only[WK]at hx |-;split at hx
  ·rename_i s i' q1 q2;split at hx
   ·rename_i b q3;cases hx;exact⟨rfl,fun h2=>by simp only[q1,q2,q3]⟩
   ·cases hx
  ·cases hx
 |sliceStr x lo hi=>
  simp only[WK]at hx |-;split at hx
  ·rename_i s i7 af q1 q2 q3;obtain⟨hc,hx⟩:=yx hx;cases hx;exact⟨rfl,fun h2=>by simp only[q1,q2,q3,hc,cond_true]⟩
  ·cases hx
 |lenStr x=>
  simp only[WK]at hx |-;split at hx
  ·rename_i s q1;cases hx;exact⟨rfl,fun h2=>by simp only[q1]⟩
  ·cases hx
 |mkFunc fn a b=>
  simp only[WK]at hx |-;split at hx
  ·cases hx;exact⟨rfl,fun _=>rfl⟩
  ·cases hx
 |extract x i=>
  simp only[WK]at hx |-;split at hx
  ·rename_i vs q1;split at hx
   ·rename_i v0 q2;cases hx;exact⟨rfl,fun h2=>by simp only[q1,q2]⟩
   ·cases hx
  ·cases hx
 |_=>cases hk
def zFU{t:WG Value}{h h':WA}{op:Wz}{v:Value}(hk:zE op=0\/zE op=1)(hx:WK P ih t h op=some (v,h')):
  h'=h/\(∀ g,zCn t op=some g->h.get g≠none)/\∀ h2:WA,(∀ g,zCn t op=some g->h2.get g=h.get g\/zIF h2 g (Y6 t h op))->WK P ih t h2 op=some (v,h2):=by
 have quiet:∀ {x:Option Value},(x.map fun v=>(v,h))=some (v,h')->h'=h/\x=some v:=fun {x} e=>by
  simp only[QT,QE]at e;obtain⟨v0,e0,rfl,rfl⟩:=e;exact⟨rfl,e0⟩
 cases op with
 |load agg n x=>
  simp only[WK]at hx;simp only[zCn,WK];split at hx
  ·rename_i a ha;simp only[ha];cases hs:a.spot.isNone with
   |false=>simp[hs]at hx
   |true=>
   simp only[hs,cond_true]at hx |-;obtain⟨e1,e2⟩:=quiet hx;refine⟨e1,fun g hg=> ?_,fun h2 hh=> ?_⟩
   ·cases hg;cases hr:z0 h a.block with
    |none=>simp[hr]at e2
    |some c=>exact zDA hr
   ·rcases hh _ rfl with q|⟨off,n',cells,q1,q2⟩
    ·rw[zAw q,e2];rfl
    ·simp only[Y6,ha,QT,QE]at q1;obtain⟨c,q3,rfl,rfl,rfl⟩:=q1;rw[q2];rw[q3]at e2;rw[e2];rfl
  ·cases hx
 |sliceArr n c x lo hi mx=>
  simp only[WK]at hx;simp only[zCn,WK];split at hx
  ·rename_i a ha;simp only[ha];split at hx
   ·rename_i i7 af cells q1 q2 q4;obtain⟨hc,hx⟩:=yx hx;cases hx;refine⟨rfl,fun g hg=> ?_,fun h2 hh=> ?_⟩
    ·cases hg;exact zDA q4
    ·have hh:=(hh _ rfl).resolve_right (fun⟨_,_,_,q,_⟩=>by cases q);rw[zAw hh];simp only[q1,q2,q4,hc,cond_true]
   ·cases hx
  ·cases hx
 |lenMap m=>
  simp only[WK]at hx;simp only[zCn,WK];split at hx
  ·rename_i hm;simp only[hm];cases hx;exact⟨rfl,(fun g hg=>by cases hg),fun h2 _=>rfl⟩
  ·rename_i g hm;simp only[hm];split at hx
   ·rename_i es cl hg;cases hx;refine⟨rfl,(fun g' ij=>by cases ij;rw[hg];simp),fun h2 hh=> ?_⟩;have hh:=(hh _ rfl).resolve_right (fun⟨_,_,_,q,_⟩=>by cases q);rw[hh,hg]
   ·cases hx
  ·cases hx
 |lookup ok z m k=>
  simp only[WK]at hx;simp only[zCn,WK];have look:∀ (h1:WA) (es:Option (List MapEntry)),(match es with
    |none=>none
    |some es=>match ev t k with
     | .int kk n=>(match Yo (.int kk n) es 0 with
      |some (some (_,v))=>some (if ok then Value.tuple #[v,.bool true]else v,h1)
      |some none=>some (if ok then .tuple #[z,.bool false]else z,h1)
      |none=>none)
     |_=>none)=((es.bind fun es=>match ev t k with
     | .int kk n=>(match Yo (.int kk n) es 0 with
      |some (some (_,v))=>some (if ok then Value.tuple #[v,.bool true]else v)
      |some none=>some (if ok then .tuple #[z,.bool false]else z)
      |none=>none)
     |_=>none).map fun v=>(v,h1)):=by
   intro h1 es;cases es with
   |none=>rfl
   |some es=>
    simp only[QV];cases cF:ev t k with
    |int kk n=>
     simp only;cases hf:Yo (.int kk n) es 0 with
     |none=>rfl
     |some r=>cases r with
      |none=>rfl
      |some q=>rfl
    |_=>rfl
  have hx:=(look h _).symm.trans hx;obtain⟨e1,e2⟩:=quiet hx;refine⟨e1,fun g hg=> ?_,fun h2 hh=> ?_⟩
  ·intro hn;split at hg
   ·rename_i g' hm;cases hg;simp only[hm,hn,Option.bind_none]at e2;cases e2
   ·cases hg
  ·refine(look h2 _).trans ?_;cases hm:ev t m with
   |map r=>
    cases r with
    |none=>
     rw[hm]at e2;exact congrArg (Option.map fun v=>(v,h2)) e2
    |some g=>
     rw[hm]at e2;simp only[hm]at hh;have hh:=(hh g rfl).resolve_right (fun⟨_,_,_,q,_⟩=>by cases q);simp only[hh];exact congrArg (Option.map fun v=>(v,h2)) e2
   |_=>rw[hm]at e2;simp at e2
 |alloc _=>rcases hk with e|e<;>cases e
 |box _=>rcases hk with e|e<;>cases e
 |buildSlice _ _ _ _=>rcases hk with e|e<;>cases e
 |mkSlice _ _ _ _=>rcases hk with e|e<;>cases e
 |mkMap=>rcases hk with e|e<;>cases e
 |stuck=>rcases hk with e|e<;>cases e
 |store _ _ _=>rcases hk with e|e<;>cases e
 |append _ _ _=>rcases hk with e|e<;>cases e
 |copy _ _ _=>rcases hk with e|e<;>cases e
 |update _ _ _=>rcases hk with e|e<;>cases e
 |delete _ _=>rcases hk with e|e<;>cases e
 |clear _=>rcases hk with e|e<;>cases e
 |call _ _=>rcases hk with e|e<;>cases e
 |dfr _ _=>rcases hk with e|e<;>cases e
 |dfrClear _ _ _ _=>rcases hk with e|e<;>cases e
 |_=>
  have q:=zLM (by rcases hk with e|e<;>first|exact e|cases e) hx;exact⟨q.1,(fun g hg=>by cases hg),fun h2 _=>q.2 h2⟩
end
section
variable {P:Program}
def zL9{nt:Nat}{ops:Array Oper}:∀ {l:List Oper} {as:List WE},Yy P nt ops l=some as->as.length=l.length/\∀ (i:Nat) (o:Oper) (ao:WE),l[i]?=some o->as[i]?=some ao->zD5 P nt ops o=some ao:=by
 intro l;induction l with
 |nil=>intro as hc;simp only[Yy,QA]at hc;subst hc;exact⟨rfl,fun i o ao h=>by simp at h⟩
 |cons x l ih=>
  intro as hc;simp only[Yy]at hc;cases h1:zD5 P nt ops x with
  |none=>simp[h1]at hc
  |some a=>
  cases h2:Yy P nt ops l with
  |none=>simp[h1,h2]at hc
  |some Hz=>
  simp only[h1,h2,QA]at hc;subst hc;obtain⟨e1,e2⟩:=ih h2;refine⟨by simp[e1],fun i o ao ho ha=> ?_⟩;cases i with
  |zero=>simp at ho ha;subst ho ha;exact h1
  |succ i=>exact e2 i o ao (by simpa using ho) (by simpa using ha)
def Bf(b:List Nat)(j i:Nat):Bool:=(b.getD j 0).testBit i
def zOQ{b:List Nat}:∀ {l:List (Nat×WE)},zFB b l=true->∀ (i j:Nat) (x y:Nat×WE),i<j->l[i]?=some x->l[j]?=some y->zH1 b x y=true:=by
 intro l;induction l with
 |nil=>intro _ i j x y _ hx;simp at hx
 |cons z l ih=>
  intro hp i j x y jy hx hy;simp only[zFB,QI]at hp;cases j with
  |zero=>omega
  |succ j=>
   have kQ:l[j]?=some y:=by simpa using hy
   cases i with
   |zero=>
    simp only[Gn,QA]at hx;subst hx;exact QX.1 hp.1 y (Gb kQ)
   |succ i=>exact ih hp.2 i j x y ω (by simpa using hx) kQ
def zCl{as:List WE}{n i:Nat}{ao:WE}(hn:as.length=n)(ha:as[i]?=some ao):((List.range n).zip as)[i]?=some (i,ao):=by
 have hi:i<as.length:=(QS.1 ha).1;rw[List.getElem?_zip_eq_some];exact⟨by rw[List.getElem?_range ω],ha⟩
def zNZ{b:List Nat}{i j:Nat}{ai aj:WE}(h:zH1 b (i,ai) (j,aj)=true):Bf b j i=true\/
  (¬(zE aj.op=2/\2<=zE ai.op)/\(∀ d,ai.dst=some d->d∉YD aj/\aj.dst≠some d)/\∀ d,aj.dst=some d->d∉YD ai):=by
 simp only[zH1,GM,QI]at h;rcases h with h|⟨⟨h1,h2⟩,h3⟩
 ·exact .inl h
 ·refine .inr ⟨fun⟨k1,k2⟩=> ?_,fun d hd=> ?_,fun d hd=> ?_⟩
  ·rw[k1]at h1;have:Nat.ble 2 (zE ai.op)=true:=QK k2;rw[this]at h1;cases h1
  ·rw[hd]at h2;simp only[QI,Ge,List.contains_eq_mem,Gz]at h2;refine⟨h2.1,fun e=> ?_⟩;rw[e]at h2;simp at h2
  ·rw[hd]at h3;simpa using h3
def zRS{b:List Nat}:∀ {as:List WE} {before:List (Nat×Wz)} {j:Nat},(zCd b before j as).length=as.length/\
  ∀ (k:Nat) (ao:WE),as[k]?=some ao->∃ un,(zCd b before j as)[k]?=some (ao,un)/\
   (∀ i o,(i,o)∈before->Bf b (j+k) i=false->((zE o=1/\zE ao.op=2)\/(2<=zE o/\zE ao.op=1))->i∈un)/\
   ∀ k2 jf,k2<k->as[k2]?=some jf->Bf b (j+k) (j+k2)=false->((zE jf.op=1/\zE ao.op=2)\/(2<=zE jf.op/\zE ao.op=1))->(j+k2)∈un:=by
 intro as;induction as with
 |nil=>intro before j;exact⟨rfl,fun k ao h=>by simp at h⟩
 |cons a as ih=>
  intro before j;obtain⟨e1,e2⟩:=ih (before:=before++[(j,a.op)]) (j:=j+1);refine⟨by simp[zCd,e1],fun k ao ha=> ?_⟩;cases k with
  |zero=>
   simp only[Gn,QA]at ha;subst ha;refine⟨_,rfl,fun i o hm hb hk=> ?_,fun k2 jf hk=>by omega⟩;refine G9.2 ⟨(i,o),hm,?_⟩;have eK:((b.getD j 0).testBit i)=false:=hb;have cF:((Nat.beq (zE o) 1&&Nat.beq (zE a.op) 2)||(Nat.ble 2 (zE o)&&Nat.beq (zE a.op) 1))=true:=by
    rcases hk with⟨q1,q2⟩|⟨q1,q2⟩
    ·rw[q1,q2];rfl
    ·rw[q2,QK q1];simp
   simp only[eK,cF,Ql,Qq,cond_true]
  |succ k=>
   obtain⟨un,u1,u2,u3⟩:=e2 k ao (by simpa using ha);refine⟨un,by simpa [zCd]using u1,fun i o hm hb hk=>u2 i o (GV _ hm) (by rw[show j+1+k=j+(k+1) by omega];exact hb) hk,fun k2 jf aU ug hb hk=> ?_⟩;cases k2 with
   |zero=>
    simp only[Gn,QA]at ug;subst ug;exact u2 j a.op (GY _ (QO.2 rfl)) (by rw[show j+1+k=j+(k+1) by omega];exact hb) hk
   |succ k2=>
    have:=u3 k2 jf ω (by simpa using ug) (by rw[show j+1+k=j+(k+1) by omega,show j+1+k2=j+(k2+1) by omega];exact hb) hk;rw[show j+(k2+1)=j+1+k2 by omega];exact this
def bits(acc:List Nat)(o:Oper):Nat:=o.after.toList.foldl (fun s e=>bif Region.binds .any e then s|||2 ^ e.on|||acc.getD e.on 0 else s) 0
def zNK(acc:List Nat)(i:Nat):∀ (l:List Edge) (s:Nat),(l.foldl (fun s e=>bif Region.binds .any e then s|||2 ^ e.on|||acc.getD e.on 0 else s) s).testBit i=true->
  s.testBit i=true\/∃ e∈l,Region.binds .any e=true/\(i=e.on\/(acc.getD e.on 0).testBit i=true):=by
 intro l;induction l with
 |nil=>intro s h;exact .inl h
 |cons e l ih=>
  intro s h;rw[List.foldl_cons]at h;rcases ih _ h with h1|⟨e',h1,h2⟩
  ·cases hb:Region.binds .any e with
   |false=>rw[hb]at h1;exact .inl h1
   |true=>
    rw[hb]at h1;simp only[cond_true,Nat.testBit_or,GM,Nat.testBit_two_pow,Qc]at h1;rcases h1 with(h1|h1)|h1
    ·exact .inl h1
    ·exact .inr ⟨e,QR ..,hb,.inl h1.symm⟩
    ·exact .inr ⟨e,QR ..,hb,.inr h1⟩
  ·exact .inr ⟨e',QW _ h1,h2⟩
def zP5:∀ (l:List Oper) (acc:List Nat),(∃ r,Zx l acc=acc++r)/\∀ (k:Nat) (o:Oper),l[k]?=some o->(Zx l acc).getD (acc.length+k) 0=bits ((Zx l acc).take (acc.length+k)) o:=by
 intro l;induction l with
 |nil=>intro acc;exact⟨⟨[],by simp[Zx]⟩,fun k o h=>by simp at h⟩
 |cons x l ih=>
  intro acc;obtain⟨⟨r,hr⟩,hk⟩:=ih (acc++[bits acc x]);have hb:Zx (x::l) acc=Zx l (acc++[bits acc x]):=rfl;refine⟨⟨bits acc x::r,by rw[hb,hr];simp⟩,fun k o ho=> ?_⟩;cases k with
  |zero=>
   simp only[Gn,QA]at ho;subst ho;rw[hb,hr];simp[QD]
  |succ k=>
   have:=hk k o (by simpa using ho);rw[hb,show acc.length+(k+1)=(acc++[bits acc x]).length+k by simp;omega];exact this
def zHT{ops:Array Oper}{S:Nat->Prop}(hS:∀ j o,S j->ops[j]?=some o->∀ e∈o.after.toList,Region.binds .any e=true->S e.on):
  ∀ (n j:Nat) (o:Oper),j<n->ops[j]?=some o->(∀ e∈o.after.toList,Region.binds .any e=true->S e.on)->∀ i,Bf (Zx ops.toList []) j i=true->S i:=by
 intro n;induction n with
 |zero=>intro j o h;omega
 |succ n ih=>
  intro j o hj ho hd i hb;have h1:=(zP5 ops.toList []).2 j o (by simpa using ho);simp only[G5,Q8]at h1;unfold Bf at hb;rw[h1]at hb;rcases zNK _ i _ 0 hb with h2|⟨e,h2,h3,h4⟩
  ·simp at h2
  ·rcases h4 with rfl|h4
   ·exact hd e h2 h3
   ·have aD:e.on<j:=by
     rcases GP e.on j with q|q
     ·exact q
     ·rw[QD,GE,QC ω]at h4;simp at h4
    rw[QD,GE,QJ aD,<-QD]at h4;have hlen:e.on<ops.size:=by
     have:=(JA.1 ho).1;omega
    exact ih e.on ops[e.on] ω (Q6 hlen) (fun e' Cx eK=>hS e.on _ (hd e h2 h3) (Q6 hlen) e' Cx eK) i h4
def zNu{ops:Array Oper}(he:zFI ops=true){j:Nat}{o:Oper}(ho:ops[j]?=some o){e:Edge}(hm:e∈o.after.toList)(hb:Region.binds .any e=true):e.on<j:=by
 unfold zFI at he;rw[QX]at he;have h1:(o,j)∈ops.toList.zipIdx:=by
  rw[List.mem_zipIdx_iff_getElem?];simpa using ho
 have:=he _ h1;simp only[QX]at this;have:=this e hm;rw[hb]at this;simp at this;omega
end
open Go.RowKit
section
variable {P:Program}{B:Nat}{σ σ':Nat->Option Pl}{h h2:WA}{w w':World}
def Wd.sub(hr:Wd P B σ h w)(hs:∀ g o,h2.get g=some o->h.get g=some o)(hn:h2.n=h.n):Wd P B σ h2 w:=
 ⟨hr.globals,fun g pl hg=>by rw[hn];exact hr.lt g pl hg,fun g o hg=>hr.live g o (hs g o hg),fun g o g' o' pl bW a b=>hr.apart g o g' o' pl bW (hs _ _ a) (hs _ _ b),hr.le⟩
def W2.same(hr:Wd P B σ h w)(hs:∀ g o,h2.get g=some o->h.get g=some o)(hn:h2.n=h.n):W2 P B σ h w σ h2 w:=
 ⟨.refl _,hr.sub hs hn,rfl,rfl,rfl,QF _,fun _ _ _=>rfl,fun b ⟨g,o,pl,h1,h3⟩=> .inr ⟨g,o,pl,hs _ _ h1,h3⟩,Nat.le_of_eq hn.symm,fun _ _=>rfl⟩
def zLz(Q:Nat->Nat->Wp->Prop)(hQ:∀ j g ob g' eu,Q j g ob->Q j g' eu->g=g'/\ob=eu)(h:WA):∀ N,∃ h2:WA,h2.n=h.n/\
  ∀ g,(∃ j ob,j<N/\Q j g ob/\h2.get g=some ob)\/((∀ j ob,j<N->¬Q j g ob)/\h2.get g=h.get g):=by
 intro N;induction N with
 |zero=>exact⟨h,rfl,fun g=> .inr ⟨fun j ob hj=>by omega,rfl⟩⟩
 |succ N ih=>
  obtain⟨h2,e1,e2⟩:=ih;by_cases hq:∃ g ob,Q N g ob
  ·obtain⟨g0,HC,hq⟩:=hq;refine⟨h2.lay g0 HC,e1,fun g=> ?_⟩;by_cases hg:g=g0
   ·subst hg;exact .inl ⟨N,HC,ω,hq,by rw[ZM,QJ rfl]⟩
   ·rcases e2 g with⟨j,ob,a1,a2,a3⟩|⟨a1,a2⟩
    ·exact .inl ⟨j,ob,ω,a2,by rw[ZM,QC hg];exact a3⟩
    ·refine .inr ⟨fun j ob hj uh=> ?_,by rw[ZM,QC hg];exact a2⟩;rcases GP j N with q|q
     ·exact a1 j ob q uh
     ·have:j=N:=ω
      subst this;exact hg (hQ _ _ _ _ _ uh hq).1
  ·refine⟨h2,e1,fun g=> ?_⟩;rcases e2 g with⟨j,ob,a1,a2,a3⟩|⟨a1,a2⟩
   ·exact .inl ⟨j,ob,ω,a2,a3⟩
   ·refine .inr ⟨fun j ob hj uh=> ?_,a2⟩;rcases GP j N with q|q
    ·exact a1 j ob q uh
    ·have:j=N:=ω
     subst this;exact hq ⟨_,_,uh⟩
def BZ.symm'{pl o bW o'}(h:BZ pl o bW o'):BZ bW o' pl o:=by
 cases o<;>cases o'<;>first|exact h.elim|exact⟨fun x=>h.1 ⟨x.2,x.1⟩,h.2.2,h.2.1⟩
def zNv{HS Hi H1 nz:WA}(hr:Wd P B σ HS w)(cR:∀ g o,Hi.get g=some o->HS.get g=some o)(hn:HS.n=Hi.n)(ev:W2 P B σ Hi w σ' H1 w')(iI:Wl Hi.n Hi H1)(eh:nz.n=H1.n)
  (hp:∀ g o,nz.get g=some o->H1.get g=some o\/(HS.get g=some o/\zCx o=true/\Hi.get g=none)):W2 P B σ HS w σ' nz w':=by
 have fO:∀ g o,HS.get g=some o->zCx o=true->Hi.get g=none->∃ pl,σ g=some pl/\σ' g=some pl/\BY P σ' pl o w'/\B<=pl.b/\pl.b<w.heap.size/\¬zK0 σ Hi pl.b:=by
  intro g o hg ho dy;obtain⟨pl,h1,h3,h4⟩:=hr.live g o hg;have l9:¬zK0 σ Hi pl.b:=by
   rintro⟨g2,o2,b7,k1,k2,k3,k4⟩;have ah:g2≠g:=fun e=>by subst e;rw[dy]at k1;cases k1
   have:=hr.apart g2 o2 g o b7 pl (cR _ _ k1) hg ah k3 h1 k4;cases o2 with
   |row c own lo=>
    cases o with
    |row c' ph i7=>exact this.1 ⟨k2,ho⟩
    |_=>exact this.elim
   |_=>exact this.elim
  exact⟨pl,h1,ev.le _ _ h1,h3.keep ev.le (ev.kept _ (hr.lt _ _ h1).2 l9),h4 ho,(hr.lt _ _ h1).2,l9⟩
 have rel:Wd P B σ' nz w':=by
  refine⟨ev.rel.globals,fun g pl hg=>by rw[eh];exact ev.rel.lt g pl hg,fun g o hg=> ?_,?_,ev.rel.le⟩
  ·rcases hp g o hg with h1|⟨h1,h3,h4⟩
   ·exact ev.rel.live g o h1
   ·obtain⟨pl,_,q2,q3,q4,_⟩:=fO g o h1 h3 h4;exact⟨pl,q2,q3,fun _=>q4⟩
  ·have nA:∀ g o g2 o2 pl b7,H1.get g=some o->HS.get g2=some o2->zCx o2=true->Hi.get g2=none->g≠g2->σ' g=some pl->σ' g2=some b7->pl.b=b7.b->BZ pl o b7 o2:=by
    intro g o g2 o2 pl b7 a1 a2 a3 a4 ah s1 s2 hb;obtain⟨pm,q1,q2,_,_,q5,q6⟩:=fO g2 o2 a2 a3 a4;rw[s2]at q2;cases q2;cases fH:zCx o with
    |true=>
     rcases ev.from_ pl.b ⟨g,o,pl,a1,fH,s1,rfl⟩with k|k
     ·rw[hb]at k;omega
     ·rw[hb]at k;exact absurd k q6
    |false=>
     have k:=iI.notown g o a1 fH;obtain⟨Ss,z1,_⟩:=hr.live g o (cR _ _ k);have:=ev.le _ _ z1;rw[s1]at this;cases this;exact hr.apart g o g2 o2 pl b7 (cR _ _ k) a2 ah z1 q1 hb
   intro g o g2 o2 pl b7 a1 a2 ah s1 s2 hb;rcases hp g o a1 with h1|⟨h1,h3,h4⟩<;>rcases hp g2 o2 a2 with k1|⟨k1,k3,k4⟩
   ·exact ev.rel.apart g o g2 o2 pl b7 h1 k1 ah s1 s2 hb
   ·exact nA g o g2 o2 pl b7 h1 k1 k3 k4 ah s1 s2 hb
   ·exact(nA g2 o2 g o b7 pl k1 h1 h3 h4 (fun e=>ah e.symm) s2 s1 hb.symm).symm'
   ·obtain⟨p1,u1,u2,_⟩:=fO g o h1 h3 h4;obtain⟨p2,v1,v2,_⟩:=fO g2 o2 k1 k3 k4;rw[s1]at u2;cases u2;rw[s2]at v2;cases v2;exact hr.apart g o g2 o2 pl b7 h1 k1 ah u1 v1 hb
 refine⟨ev.le,rel,ev.os,ev.tape,ev.output,ev.size,fun b hb dy=>ev.kept b hb fun⟨g,o,pl,h1,h3⟩=>dy ⟨g,o,pl,cR _ _ h1,h3⟩,?_,?_⟩
 ·rintro b ⟨g,o,pl,h1,h3,h4,h5⟩;rcases hp g o h1 with k|⟨k1,k2,k3⟩
  ·rcases ev.from_ b ⟨g,o,pl,k,h3,h4,h5⟩with q|⟨g2,o2,b7,q1,q2⟩
   ·exact .inl q
   ·exact .inr ⟨g2,o2,b7,cR _ _ q1,q2⟩
  ·obtain⟨p1,u1,u2,_⟩:=fO g o k1 k2 k3;rw[h4]at u2;cases u2;exact .inr ⟨g,o,pl,k1,h3,u1,h5⟩
 ·rw[eh,hn];exact ev.old
def zSU{g:Nat}{O:Obj}{o:Wp}{n:Nat}(hr:Wd P B σ h w)(hg:σ g=none)(aD:g<h.n)(hh:w'.heap=w.heap.push O)(hd:w'.os=w.os/\w'.tape=w.tape/\w'.output=w.output)
  (ho:∀ σ',Le σ σ'->BY P σ' ⟨w.heap.size,0,n⟩ o w'):Wd P B (yu σ g ⟨w.heap.size,0,n⟩) (h.lay g o) w'/\Le σ (yu σ g ⟨w.heap.size,0,n⟩)/\w.heap.size<=w'.heap.size/\(∀ b,b<w.heap.size->w'.heap[b]?=w.heap[b]?)/\
   ∀ b,zK0 (yu σ g ⟨w.heap.size,0,n⟩) (h.lay g o) b->w.heap.size<=b\/zK0 σ h b:=by
 have hsz:w'.heap.size=w.heap.size+1:=by rw[hh];simp
 have hle:Le σ (yu σ g ⟨w.heap.size,0,n⟩):=fun k p hk=>by
  unfold yu;rw[QC (fun e=>by subst e;rw[hg]at hk;cases hk)];exact hk
 have cW:∀ b,b<w.heap.size->w'.heap[b]?=w.heap[b]?:=fun b hb=>by
  rw[hh,Array.getElem?_push_lt hb,Q6 hb]
 have ab:∀ k pl,yu σ g ⟨w.heap.size,0,n⟩ k=some pl->k=g/\pl=⟨w.heap.size,0,n⟩\/k≠g/\σ k=some pl:=fun k pl hk=>by
  unfold yu at hk;split at hk
  ·exact .inl ⟨by assumption,(Qm hk).symm⟩
  ·exact .inr ⟨by assumption,hk⟩
 refine⟨⟨fun k hk=> ?_,fun k pl hk=> ?_,fun k o' hk=> ?_,?_,by rw[hsz];have:=hr.le;omega⟩,hle,ω,cW,fun b ⟨k,o',pl,h1,h2,h3,h4⟩=> ?_⟩
 ·obtain⟨pl,h1,h2⟩:=hr.globals k hk;exact⟨pl,hle _ _ h1,h2⟩
 ·rcases ab k pl hk with⟨rfl,rfl⟩|⟨_,h1⟩
  ·exact⟨aD,by simp[hsz]⟩
  ·have:=hr.lt k pl h1;exact⟨this.1,ω⟩
 ·rw[ZM]at hk;split at hk
  ·rename_i e;subst e;cases hk;exact⟨_,yB _ _ _,ho _ hle,fun _=>hr.le⟩
  ·obtain⟨pl,h1,h2,h3⟩:=hr.live k o' hk;exact⟨pl,hle _ _ h1,h2.keep hle (cW _ (hr.lt _ _ h1).2),h3⟩
 ·intro k o1 k' o2 pl bW h1 h2 ah h3 h4 hb;rw[ZM]at h1 h2;rcases ab k pl h3 with⟨e,rfl⟩|⟨e,i9⟩<;>rcases ab k' bW h4 with⟨e',rfl⟩|⟨e',g9⟩
  ·exact absurd (e.trans e'.symm) ah
  ·have:=(hr.lt _ _ g9).2;simp at hb;omega
  ·have:=(hr.lt _ _ i9).2;simp at hb;omega
  ·rw[QC e]at h1;rw[QC e']at h2;exact hr.apart k o1 k' o2 pl bW h1 h2 ah i9 g9 hb
 ·rw[ZM]at h1;rcases ab k pl h3 with⟨e,rfl⟩|⟨e,i9⟩
  ·left;rw[<-h4];exact QF _
  ·rw[QC e]at h1;exact .inr ⟨k,o',pl,h1,h2,i9,h4⟩
end
def Made(P:Program)(σ:Nat->Option Pl)(w:World)(s:Sem Next)(ob:Wp)(f:Nat->Value):Prop:=
 ∃ O n w' cv,s.run P w=.ok (.value cv) w'/\w'.heap=w.heap.push O/\(w'.os=w.os/\w'.tape=w.tape/\w'.output=w.output)/\
  (∀ σ',Le σ σ'->BY P σ' ⟨w.heap.size,0,n⟩ ob w')/\∀ σ' g,σ' g=some ⟨w.heap.size,0,n⟩->WI σ' (f g) cv
section
variable {P:Program}{B:Nat}{σ:Nat->Option Pl}{h:WA}{w:World}
def zDS{s:Sem Value}{xs ys extra:List Value}{e:TypeId}{f:Nat->Value}{cv:Value}(hl:WQ σ xs ys)(hs:s.run P w=.ok cv (w.alloc (.cells (ys++extra).toArray e)))
  (hv:∀ σ' g,σ' g=some ⟨w.heap.size,0,ys.length+extra.length⟩->WI σ' (f g) cv):Made P σ w (do pure (.value (<-s))) (.row xs true 0) f:=by
 refine⟨.cells (ys++extra).toArray e,ys.length+extra.length,w.alloc (.cells (ys++extra).toArray e),cv,by simp[hs],rfl,⟨rfl,rfl,rfl⟩,fun σ' hle=> ?_,hv⟩;refine⟨(ys++extra).toArray,e,(0,0),by show(w.heap.push _)[w.heap.size]?=_;simp,by simp,by simp[hl.1],fun i x hx=> ?_,fun _=>rfl⟩;obtain⟨y,a,b⟩:=hl.get hx;refine⟨y,?_,b.mono hle⟩;have hi:i<ys.length:=(QS.1 a).1;simp only[Q8,List.getElem?_toArray];rw[Qg hi];exact a
def zId{t e:TypeId}{c l cp:Nat}{zs:List Value}{k k':IntKind}(ht:P.underlying t=some (.slice e))(he:Zg P e=some c)(hz:zAD P e=some zs)
  (h1:l<=cp) (h2:cp<=room):
  Made P σ w (do pure (.value (<-Instr.makeSlice t (.int k l) (.int k' cp)))) (.row (zi zs l) true 0) (fun g=> .slice (some ⟨g,0,none⟩) l c):=by
 obtain⟨i,z,hi,hsz,a8,dM,aI,dd,dj⟩:=yp he;obtain⟨i',z',af,gE,rfl,kO,aO⟩:=ZG hz;rw[hi]at af;cases af;rw[dd]at gE;cases gE;have aN:room=4294967296:=rfl;have hl:(IntKind.i64.wrap (l:Int))=l:=IntWalk.i64_in _ ω;have lY:(IntKind.i64.wrap (cp:Int))=cp:=IntWalk.i64_in _ ω;have gF:¬((281474976710656:Int)<(i.bytes:Int)*(cp:Int)):=by
  have:i.bytes*cp<=1024*4294967296:=Nat.mul_le_mul aI ω;have h3:((i.bytes*cp:Nat):Int)<=((1024*4294967296:Nat):Int):=Int.ofNat_le.2 this;rw[Int.natCast_mul]at h3;omega
 have gG:WQ σ (zi z.cells.toList l) ((zi z.cells.toList l)):=by
  refine VM σ ?_;clear lY hl h1;induction l with
  |zero=>rfl
  |succ l ih=>simp only[zi,yk,List.all_append,QI];exact⟨aO,ih⟩
 have cO:zi z.cells.toList cp=zi z.cells.toList l++zi z.cells.toList (cp-l):=by
  have:∀ a b,zi z.cells.toList (a+b)=zi z.cells.toList a++zi z.cells.toList b:=fun a b=>by
   induction a with
   |zero=>simp[zi]
   |succ a ih=>rw[Nat.succ_add];simp[zi,ih]
  rw[<-this];congr 1;omega
 have aG:((Array.range (cp*i.size)).map (z.cells[· % z.cells.size]!))=(zi z.cells.toList l++zi z.cells.toList (cp-l)).toArray:=by
  apply JT;rw[<-cO,<-zBN z.cells ω cp];simp[kO]
 refine zDS (extra:=zi z.cells.toList (cp-l)) (e:=e) (cv:= .slice (some ⟨w.heap.size,0,none⟩) l cp) gG ?_ fun σ' g hg=>WI.slice (pl:=⟨w.heap.size,0,_⟩) hg a8 h1 ?_
 ·rw[<-aG];by_cases hn:cp=0
  ·subst hn;have:l=0:=ω
   subst this;have w0:IntKind.i64.wrap 0=0:=by decide
   have bE:Array.range 0=#[]:=rfl;simp[Instr.makeSlice,asInt,asIntOf,run_underlying ht,typeInfo,hi,yE hi,newRow,w0,bE]
  ·have iJ:¬(cp*i.size=0):=by
    intro h0;rcases Nat.mul_eq_zero.1 h0 with h|h<;>omega
   have pk:¬((cp:Int)<0):=ω
   have jw:¬((l:Int)<0):=ω
   have jx:¬cp<l:=ω
   have tP:¬i.size=0:=ω
   simp[Instr.makeSlice,asInt,asIntOf,run_underlying ht,typeInfo,hi,yE hi,newRow,hl,lY,gF,zeroValue,dd,pk,jw,jx];intro h0;exact absurd h0 iJ
 ·simp only[Q8,yA];rw[<-Gx];have:l+(cp-l)=cp:=ω
  rw[this];have:z.cells.toList.length=c:=by simpa using dj
  rw[this];exact QF _
def zIp{b:Builtin}{args:List Operand}{ts:List TypeId}{op:Wz}{t:WG Value}(hc:zAh P b args ts=some op):yh t op=none:=by
 unfold zAh at hc;simp only[GL]at hc;repeat' split at hc
 all_goals first
  |(cases hc;done)
  |(cases hc;rfl)
  |(simp only[QT]at hc;obtain⟨_,_,rfl⟩:=hc;rfl)
def zPN(hr:Wd P B σ h w){t:WG Value}{a:Act}(ht:∀ k,WI σ (zC t k) (a.tmps.getD k Go.undef)){o:Oper}{op:Wz}(hc:SW P o=some op){ob:Wp}{f:Nat->Value}
  (ho:yh t op=some (ob,f)):Made P σ w (execOp a.eval o) ob f:=by
 unfold SW at hc;cases aS:zCs P o.op.operands.toList with
 |false=>simp[aS]at hc
 |true=>
 simp only[aS,Qe,QU]at hc;have cE:∀ x∈o.op.operands.toList,Zm P x=true:=fun x hx=>QX.1 aS x hx;clear aS;have E:∀ x∈o.op.operands.toList,WI σ (ev t x) (a.eval x):=fun x hx=>zBA hr ht (cE x hx);unfold execOp;cases hq:o.op with
 |alloc e=>
  simp only[hq]at hc;cases hz:zAD P e with
  |none=>simp[hz]at hc
  |some zs=>
   simp only[hz,QL,QA]at hc;subst hc;obtain⟨i,z,hi,dd,rfl,kO,aO⟩:=ZG hz;simp only[yh,QA,QE]at ho;obtain⟨rfl,rfl⟩:=ho;refine zDS (extra:=[]) (e:=e) (cv:= .pointer (some ⟨w.heap.size,0,none⟩)) (VM σ aO) ?_ fun σ' g hg=>WI.ptr (off:=0) hg;simp[Instr.alloc,zeroValue,typeInfo,hi,dd,newVar,newRow]
 |box e x=>
  simp only[hq,QA]at hc;subst hc;simp only[yh,QA,QE]at ho;obtain⟨rfl,rfl⟩:=ho;refine zDS (extra:=[]) (e:=e) (cv:= .pointer (some ⟨w.heap.size,0,none⟩)) (E x (by simp[hq,Op.operands])).cells ?_ fun σ' g hg=>WI.ptr (off:=0) hg;simp[Instr.box,newVar,newRow]
 |makeMap ty r=>
  simp only[hq]at hc;cases r with
  |some r=>simp at hc
  |none=>
   simp only at hc;split at hc
   ·rename_i k e hu;simp only[QA]at hc;subst hc;simp only[yh,QA,QE]at ho;obtain⟨rfl,rfl⟩:=ho;exact⟨.map #[] 0,0,w.alloc (.map #[] 0),.map (some w.heap.size),by simp[Instr.makeMap],rfl,⟨rfl,rfl,rfl⟩,fun σ' _=>⟨#[],by show(w.heap.push _)[w.heap.size]?=_;simp,Bl.nil⟩,
     fun σ' g hg=>WI.map (pl:=⟨w.heap.size,0,0⟩) hg⟩
   ·cases hc
 |buildSlice ty len parts=>
  simp only[hq]at hc;have dk:∀ x∈parts.toList,Zm P x.2=true:=fun x hx=>cE x.2 (by simp[hq,Op.operands];exact⟨x.1,by simpa using hx⟩);cases bJ:yZ P ty with
  |none=>simp[bJ]at hc
  |some e=>
  have hu:P.underlying ty=some (.slice e):=by
   unfold yZ at bJ;split at bJ
   ·cases bJ;assumption
   ·cases bJ
  simp only[bJ]at hc;split at hc
  ·rename_i n zs he hz;cases hb:Nat.ble (len*n) 65536 with
   |false=>simp[hb]at hc
   |true=>
   simp only[hb,cond_true]at hc;cases er:Yc (fun i=>some (i*n,n)) parts.toList with
   |none=>simp[er]at hc
   |some ps=>
    simp only[er,QL,QA]at hc;subst hc;obtain⟨i,z,hi,hsz,a8,_,_,dd,dj⟩:=yp he;obtain⟨i',z',af,jD,rfl,kO,aO⟩:=ZG hz;rw[hi]at af;cases af;rw[dd]at jD;cases jD;subst hsz;simp only[yh]at ho;cases hf:ZE (zi z.cells.toList len) (zr t ps)with
    |none=>simp[hf]at ho
    |some cells=>
     simp only[hf,QL,QA,QE]at ho;obtain⟨rfl,rfl⟩:=ho;obtain⟨q1,q2⟩:=zCL hr ht dk er;have Cb:WQ σ (zi z.cells.toList len) (zi z.cells.toList len):=VM σ (zAr aO len);obtain⟨ys,f1,f2⟩:=zDO (parts.toList.map fun x=>(x.1,a.eval x.2)) (fun Cc=>some (Cc*i.size,i.size)) _ _ (zr t ps) cells Cb q1 q2 hf;have hlen:ys.length=len*i.size:=by
      have bF:∀ (qs:List (Nat×Nat×Value)) (xs r:List Value),ZE xs qs=some r->r.length=xs.length:=fun qs=>by
       induction qs with
       |nil=>intro xs r h;simp[ZE]at h;rw[h]
       |cons q qs tW=>
        intro xs r h;obtain⟨o1,n1,u1⟩:=q;simp only[ZE]at h;cases aR:(Nat.beq u1.cells.size n1&&Nat.ble (o1+n1) xs.length)with
        |false=>simp[aR]at h
        |true=>
         simp only[aR,cond_true]at h;simp only[QI]at aR;have b1:=QN aR.1;have b2:=QP aR.2;rw[tW _ _ h];simp[zX];omega
      rw[<-f2.1,bF _ _ _ hf,yA];simp[dj]
     refine zDS (extra:=[]) (e:=e) (cv:= .slice (some ⟨w.heap.size,0,none⟩) len len) f2 ?_ fun σ' g hg=>WI.slice (pl:=⟨w.heap.size,0,ys.length+0⟩) hg a8 (QF _) (by simp[hlen]);have gF:¬(16777216<len*i.size):=by have:=QP hb;omega
     have aG:((Array.range (len*i.size)).map (z.cells[· % z.cells.size]!))=(zi z.cells.toList len).toArray:=by
      apply JT;rw[<-zBN z.cells ω len];simp[dj]
     by_cases eM:len*i.size=0
     ·have fw:len=0:=by rcases Nat.mul_eq_zero.1 eM with h|h<;>omega
      subst fw;have bE:Array.range 0=#[]:=rfl;simp only[zi]at f1;simp[Instr.buildSlice,run_underlying hu,yE hi,newRow,bE,f1]
     ·simp[Instr.buildSlice,run_underlying hu,yE hi,zeroValue,typeInfo,hi,dd,gF,newRow,aG,f1];intro h0;exact absurd h0 eM
  ·cases hc
 |makeSlice ty l c=>
  simp only[hq]at hc;have e1:=E l (by simp[hq,Op.operands]);have e2:=E c (by simp[hq,Op.operands]);cases bJ:yZ P ty with
  |none=>simp[bJ]at hc
  |some e=>
   have hu:P.underlying ty=some (.slice e):=by
    unfold yZ at bJ;split at bJ
    ·cases bJ;assumption
    ·cases bJ
   simp only[bJ]at hc;split at hc
   ·rename_i n zs he hz;simp only[QA]at hc;subst hc;simp only[yh]at ho;split at ho
    ·rename_i ln cn h1 h2;cases hb:(Nat.ble ln cn&&Nat.ble cn room)with
     |false=>simp[hb]at ho
     |true=>
      simp only[hb,cond_true,QA,QE]at ho;simp only[QI]at hb;obtain⟨rfl,rfl⟩:=ho;obtain⟨k,hk⟩:=zAK e1 h1;obtain⟨k',cF⟩:=zAK e2 h2;dsimp only;rw[hk,cF];exact zId hu he hz (QP hb.1) (QP hb.2)
    ·cases ho
   ·cases hc
 |call c=>
  exfalso;simp only[hq]at hc;split at hc
  ·cases hc;rcases zDD (P:=P) ‹Operand› c.args.toList with q|⟨_,_,_,_,_,_,_,q⟩<;>(rw[q]at ho;cases ho)
  ·unfold zAV at hc;split at hc
   ·cases hc;cases ho
   ·cases hc;cases ho
   ·cases hc;cases ho
   ·cases hc;cases ho
   ·rw[zIp hc]at ho;cases ho
  ·cases hc;cases ho
 |defer c=>
  exfalso;simp only[hq]at hc;repeat' split at hc
  all_goals first
   |(cases hc;done)
   |(cases hc;cases ho;done)
 |_=>
  exfalso;try simp only[hq,GL]at hc
  repeat' split at hc
  all_goals first
   |(cases hc;done)
   |(cases hc;cases ho;done)
   |(simp only[QT]at hc;obtain⟨_,_,rfl⟩:=hc;cases ho;done)
   |(simp_all;done)
end
section
variable {P:Program}{ih:Ex}
def ZF{g:Nat}{o:WE}{fr ae:WM}{h h':WA}(hx:yC P ih g o fr h=some (ae,h')):
  ∃ v ds,ae=val o.dst {fr with dfs:=ds++fr.dfs} v/\(zE o.op≠2->ds=[])/\(zE o.op=0\/zE o.op=1->h'=h)/\
   (zE o.op=3->(zP fr.tm o.guard=false/\h'=h)\/∃ ob f,zP fr.tm o.guard=true/\yh fr.tm o.op=some (ob,f)/\h'=h.lay g ob/\v=f g):=by
 unfold yC at hx;cases hk:Nat.beq (zE o.op) 3 with
 |true=>
  have cG:=QN hk;simp only[hk,cond_true]at hx;cases hw:zP fr.tm o.guard with
  |false=>
   simp only[hw,QU,QA,QE]at hx;obtain⟨rfl,rfl⟩:=hx;exact⟨undef,[],rfl,fun _=>rfl,fun _=>rfl,fun _=> .inl ⟨rfl,rfl⟩⟩
  |true=>
   simp only[hw,cond_true]at hx;cases hv:yh fr.tm o.op with
   |none=>simp[hv]at hx
   |some p=>
    obtain⟨ob,f⟩:=p;simp only[hv,QA,QE]at hx;obtain⟨rfl,rfl⟩:=hx;exact⟨f g,[],rfl,fun _=>rfl,fun e=>by omega,fun _=> .inr ⟨ob,f,rfl,rfl,rfl,rfl⟩⟩
 |false=>
  have cG:zE o.op≠3:=fun e=>by rw[e]at hk;cases hk
  simp only[hk,QU]at hx;unfold yO at hx;cases hw:zP fr.tm o.guard with
  |false=>
   simp only[hw,QU,QA,QE]at hx;obtain⟨rfl,rfl⟩:=hx;exact⟨undef,[],rfl,fun _=>rfl,fun _=>rfl,fun e=>absurd e cG⟩
  |true=>
   simp only[hw,cond_true]at hx;cases hv:zy P ih fr.tm fr.round h o.op with
   |none=>simp[hv]at hx
   |some p=>
    obtain⟨v,ds,h1⟩:=p;simp only[hv,QA,QE]at hx;obtain⟨rfl,rfl⟩:=hx;have nq:zE o.op≠2->ds=[]/\WK P ih fr.tm h o.op=some (v,h1):=by
     intro aU;unfold zy at hv;split at hv
     ·rename_i e;rw[e]at aU;exact absurd rfl aU
     ·rename_i e;rw[e]at aU;exact absurd rfl aU
     ·rename_i e;rw[e]at aU;exact absurd rfl aU
     ·cases ha:WK P ih fr.tm h o.op with
      |none=>simp[ha]at hv
      |some q=>
       obtain⟨v0,h0⟩:=q;simp only[ha,QA,QE]at hv;obtain⟨rfl,rfl,rfl⟩:=hv;exact⟨rfl,rfl⟩
    exact⟨v,ds,rfl,fun e=>(nq e).1,fun e=>(zFU e (nq ω).2).1,fun e=>absurd e cG⟩
structure Dr(P:Program)(ih:Ex)(nt:Nat)(ops:Array Oper)(as:List WE)(l:List (WE×List Nat))(FR:Nat->WM)(H:Nat->WA)(G:Nat->Nat):Prop where
 len:as.length=ops.size
 llen:l.length=as.length
 op:∀ (i:Nat) (o:Oper) (ao:WE),ops[i]?=some o->as[i]?=some ao->zD5 P nt ops o=some ao
 lg:∀ (k:Nat) (ao:WE),as[k]?=some ao->∃ un,l[k]?=some (ao,un)/\∀ (k2:Nat) (jf:WE),k2<k->as[k2]?=some jf->Bf (Zx ops.toList []) k k2=false->((zE jf.op=1/\zE ao.op=2)\/(2<=zE jf.op/\zE ao.op=1))->k2∈un
 pair:∀ (i j:Nat) (ai aj:WE),i<j->as[i]?=some ai->as[j]?=some aj->Bf (Zx ops.toList []) j i=true\/
  (¬(zE aj.op=2/\2<=zE ai.op)/\(∀ d,ai.dst=some d->d∉YD aj/\aj.dst≠some d)/\∀ d,aj.dst=some d->d∉YD ai)
 tr:Tr P ih l 0 FR H G
 grow:ZT ih
 room:G 0+cnt l<=(H 0).n
 free:∀ g,G 0<=g->(H 0).get g=none
section
variable {nt:Nat}{ops:Array Oper}{as:List WE}{l:List (WE×List Nat)}{FR:Nat->WM}{H:Nat->WA}{G:Nat->Nat}
def Dr.get(d:Dr P ih nt ops as l FR H G){k:Nat}(hk:k<ops.size):∃ o ao un,ops[k]?=some o/\as[k]?=some ao/\l[k]?=some (ao,un):=by
 have h1:k<as.length:=by rw[d.len];exact hk
 obtain⟨un,h2,_⟩:=d.lg k as[k] (QB h1);exact⟨ops[k],as[k],un,Q6 hk,QB h1,h2⟩
def Dr.lt(d:Dr P ih nt ops as l FR H G){k:Nat}{ao:WE}(ha:as[k]?=some ao):k<ops.size:=by
 rw[<-d.len];exact(QS.1 ha).1
def Dr.step(d:Dr P ih nt ops as l FR H G){k:Nat}{ao:WE}(ha:as[k]?=some ao):yC P ih (G k) ao (FR k) {H k with mark:=(H k).n,wr:=[]}=some (FR (k+1),H (k+1)):=by
 obtain⟨un,h2,_⟩:=d.lg k ao ha;exact d.tr.step k _ h2
def Dr.next(d:Dr P ih nt ops as l FR H G){k:Nat}{ao:WE}(ha:as[k]?=some ao):G (k+1)=bif Nat.beq (zE ao.op) 3 then G k+1 else G k:=by
 obtain⟨un,h2,_⟩:=d.lg k ao ha;exact d.tr.next k _ h2
def Dr.mono(d:Dr P ih nt ops as l FR H G){i:Nat}:∀ {j},i<=j->j<=ops.size->G i<=G j:=by
 intro j;induction j with
 |zero=>intro h _;have:i=0:=ω
        subst this;exact QF _
 |succ j jJ=>
  intro h hj;rcases GP i (j+1)with q|q
  ·have h1:=jJ ω ω;obtain⟨o,ao,un,_,h3,_⟩:=d.get (k:=j) ω;have:=d.next h3;cases hb:Nat.beq (zE ao.op) 3<;>rw[hb]at this<;>simp at this<;>omega
  ·have:i=j+1:=ω
   subst this;exact QF _
def Dr.apart(d:Dr P ih nt ops as l FR H G){i j:Nat}{ao:WE}(jy:i<j)(hj:j<=ops.size)(ha:as[i]?=some ao)(hk:zE ao.op=3):G i<G j:=by
 have h1:=d.next ha;have hb:Nat.beq 3 3=true:=rfl;rw[hk,hb]at h1;simp only[cond_true]at h1;have:=d.mono (i:=i+1) (j:=j) ω hj;omega
def Dr.below(d:Dr P ih nt ops as l FR H G){k:Nat}{ao:WE}(ha:as[k]?=some ao)(hk:zE ao.op=3):G 0<=G k/\G k<(H 0).n:=by
 obtain⟨un,h2,_⟩:=d.lg k ao ha;have:=d.tr.below h2 hk;have:=d.room;omega
def Dr.n_le(d:Dr P ih nt ops as l FR H G){i:Nat}:∀ {j},i<=j->j<=ops.size->(H i).n<=(H j).n:=by
 intro j;induction j with
 |zero=>intro h _;have:i=0:=ω
        subst this;exact QF _
 |succ j jJ=>
  intro h hj;rcases GP i (j+1)with q|q
  ·have h1:=jJ ω ω;have h2:(H j).n<=(H (j+1)).n:=((d.tr.grow d.grow (m:=G 0) (QF _) d.room j).2 (by rw[d.llen,d.len];omega)).n;omega
  ·have:i=j+1:=ω
   subst this;exact QF _
def Dr.unlaid(d:Dr P ih nt ops as l FR H G){j:Nat}{ao:WE}(ha:as[j]?=some ao)(hk:zE ao.op=3):∀ {k},k<=j->(H k).get (G j)=none:=by
 have hj:=d.lt ha;obtain⟨dM,aI⟩:=d.below ha hk;intro k;induction k with
 |zero=>intro _;exact d.free _ dM
 |succ k fZ=>
  intro St;have h1:=fZ ω;obtain⟨o,pM,un,_,h3,_⟩:=d.get (k:=k) ω;have hs:=d.step h3;have hn:=d.n_le (i:=0) (j:=k) ω ω;by_cases Cy:zE pM.op=3
  ·obtain⟨v,ds,_,_,_,q⟩:=ZF hs;rcases q Cy with⟨_,q⟩|⟨ob,f,_,_,q,_⟩
   ·rw[q];exact h1
   ·rw[q,ZM,QC (fun e=>by have:=d.apart (i:=k) (j:=j) ω ω h3 Cy;omega)];exact h1
  ·have hb:Nat.beq (zE pM.op) 3=false:=by
    cases hq:Nat.beq (zE pM.op) 3 with
    |false=>rfl
    |true=>exact absurd (QN hq) Cy
   unfold yC at hs;rw[hb]at hs;simp only[QU]at hs;exact(Yr d.grow hs).gone _ (by show G j<(H k).n;omega) h1
def Dr.slot(d:Dr P ih nt ops as l FR H G){s i:Nat}:∀ {j},i<=j->j<=ops.size->(∀ (m:Nat) (ao:WE),i<=m->m<j->as[m]?=some ao->ao.dst≠some s)->zC (FR j).tm s=zC (FR i).tm s:=by
 intro j;induction j with
 |zero=>intro h _ _;have:i=0:=ω
        subst this;rfl
 |succ j jJ=>
  intro h hj hn;rcases GP i (j+1)with q|q
  ·rw[<-jJ ω ω (fun m ao a b=>hn m ao a ω)];obtain⟨o,ao,un,_,h3,_⟩:=d.get (k:=j) ω;obtain⟨v,ds,hf,_⟩:=ZF (d.step h3);rw[hf];cases hd:ao.dst with
   |none=>rfl
   |some e=>
    have ah:=hn j ao ω ω h3;rw[hd]at ah;show zC ((FR j).tm.set e v) s=_;rw[zg,QC (fun q=>ah (by rw[q]))]
  ·have:i=j+1:=ω
   subst this;rfl
def zN1(d:Option Nat)(fr:WM)(v:Value):(val d fr v).round=fr.round:=by cases d<;>rfl
def zMc(d:Option Nat)(fr:WM)(v:Value):(val d fr v).dfs=fr.dfs:=by cases d<;>rfl
def Dr.round(d:Dr P ih nt ops as l FR H G):∀ {j},j<=ops.size->(FR j).round=(FR 0).round:=by
 intro j;induction j with
 |zero=>intro _;rfl
 |succ j jJ=>
  intro hj;obtain⟨o,ao,un,_,h3,_⟩:=d.get (k:=j) ω;obtain⟨v,ds,hf,_⟩:=ZF (d.step h3);rw[hf,zN1];exact jJ ω
def Dr.dfs(d:Dr P ih nt ops as l FR H G){i:Nat}:∀ {j},i<=j->j<=ops.size->(∀ (m:Nat) (ao:WE),i<=m->m<j->as[m]?=some ao->zE ao.op≠2)->(FR j).dfs=(FR i).dfs:=by
 intro j;induction j with
 |zero=>intro h _ _;have:i=0:=ω
        subst this;rfl
 |succ j jJ=>
  intro h hj hn;rcases GP i (j+1)with q|q
  ·rw[<-jJ ω ω (fun m ao a b=>hn m ao a ω)];obtain⟨o,ao,un,_,h3,_⟩:=d.get (k:=j) ω;obtain⟨v,ds,hf,nq,_⟩:=ZF (d.step h3);rw[hf,zMc,nq (hn j ao ω ω h3)];rfl
  ·have:i=j+1:=ω
   subst this;rfl
end
end
def Pd(as:List WE)(FR:Nat->WM)(G:Nat->Nat)(S:Nat->Prop)(p j g:Nat)(ob:Wp):Prop:=
 S j/\p<=j/\∃ ao f,as[j]?=some ao/\zE ao.op=3/\zP (FR j).tm ao.guard=true/\yh (FR j).tm ao.op=some (ob,f)/\G j=g
structure Inv(P:Program)(B:Nat)(nt:Nat)(ops:Array Oper)(as:List WE)(FR:Nat->WM)(H:Nat->WA)(G:Nat->Nat)(σ0:Nat->Option Pl)(h0:WA)(w0:World)(b:Frame)
  (S:Nat->Prop) (p:Nat) (tS:WG Value) (HS:WA) (σ:Nat->Option Pl) (w:World) (a:Act):Prop where
 pn:p<=ops.size
 slots:∀ (s m:Nat),m<=ops.size->(∀ (j:Nat) (ao:WE),j<m->as[j]?=some ao->ao.dst=some s->S j)->(∀ (j:Nat) (ao:WE),m<=j->as[j]?=some ao->ao.dst=some s->¬S j)->zC tS s=zC (FR m).tm s
 loud1:∀ (j:Nat) (ao:WE),j<p->as[j]?=some ao->2<=zE ao.op->S j
 loud2:∀ (j:Nat) (ao:WE),p<=j->as[j]?=some ao->zE ao.op=2->¬S j
 hn:HS.n=(H p).n
 dU:∀ g,(∃ j ob,Pd as FR G S p j g ob/\HS.get g=some ob)\/((∀ j ob,¬Pd as FR G S p j g ob)/\HS.get g=(H p).get g)
 free:∀ (j:Nat) (ao:WE),as[j]?=some ao->zE ao.op=3->¬S j->σ (G j)=none
 rel:BC P σ nt ⟨tS,(FR p).dfs,(FR 0).round⟩ a b
 jg:W2 P B σ0 h0 w0 σ HS w
section
variable {P:Program}{ih:Ex}{nt:Nat}{ops:Array Oper}{as:List WE}{l:List (WE×List Nat)}{FR:Nat->WM}{H:Nat->WA}{G:Nat->Nat}{S:Nat->Prop}
def zE8(op:Wz):zE op<=3:=by cases op<;>simp[zE]
def Dr.pd_fun(d:Dr P ih nt ops as l FR H G){p p' j j' g:Nat}{S':Nat->Prop}{ob eu:Wp}(h1:Pd as FR G S p j g ob)(h2:Pd as FR G S' p' j' g eu):j=j'/\ob=eu:=by
 obtain⟨_,_,ao,f,a1,a2,_,a3,a4⟩:=h1;obtain⟨_,_,pM,f',b1,b2,_,b3,b4⟩:=h2;have hj:=d.lt a1;have dY:=d.lt b1;have e:j=j':=by
  rcases Nat.lt_trichotomy j j' with q|q|q
  ·have:=d.apart q ω a1 a2;omega
  ·exact q
  ·have:=d.apart q ω b1 b2;omega
 subst e;rw[a1]at b1;cases b1;rw[a3]at b3;cases b3;exact⟨rfl,rfl⟩
def Dr.walk(d:Dr P ih nt ops as l FR H G){p g:Nat}:∀ {i},p<=i->i<=ops.size->
  (∀ (m:Nat) (ao:WE),p<=m->m<i->as[m]?=some ao->(zE ao.op=2->(H (m+1)).get g=(H m).get g)/\(zE ao.op=3->¬S m->zP (FR m).tm ao.guard=true->g≠G m))->
  (∃ j ob,j<i/\Pd as FR G S p j g ob/\(H i).get g=some ob)\/((∀ j ob,j<i->¬Pd as FR G S p j g ob)/\(H i).get g=(H p).get g):=by
 intro i;induction i with
 |zero=>intro h _ _;have:p=0:=ω
        subst this;exact .inr ⟨fun j ob hj=>by omega,rfl⟩
 |succ i Lf=>
  intro h hi hm;rcases GP p (i+1)with q|q
  ·have h1:=Lf ω ω (fun m ao a b=>hm m ao a ω);obtain⟨o,ao,un,_,h3,_⟩:=d.get (k:=i) ω;obtain⟨m1,m2⟩:=hm i ao ω ω h3;obtain⟨v,ds,_,_,k0,k3⟩:=ZF (d.step h3);have same:(H (i+1)).get g=(H i).get g->(∀ ob,¬Pd as FR G S p i g ob)->
     (∃ j ob,j<i+1/\Pd as FR G S p j g ob/\(H (i+1)).get g=some ob)\/((∀ j ob,j<i+1->¬Pd as FR G S p j g ob)/\(H (i+1)).get g=(H p).get g):=by
    intro e dy;rcases h1 with⟨j,ob,a1,a2,a3⟩|⟨a1,a2⟩
    ·exact .inl ⟨j,ob,ω,a2,e.trans a3⟩
    ·refine .inr ⟨fun j ob hj=> ?_,e.trans a2⟩;rcases GP j i with q2|q2
     ·exact a1 j ob q2
     ·have:j=i:=ω
      subst this;exact dy ob
   have nk:zE ao.op≠3->∀ ob,¬Pd as FR G S p i g ob:=by
    rintro hk ob ⟨_,_,pM,f,b1,b2,_⟩;rw[h3]at b1;cases b1;exact hk b2
   have hle:=zE8 ao.op;rcases(by omega:zE ao.op=0\/zE ao.op=1\/zE ao.op=2\/zE ao.op=3)with hk|hk|hk|hk
   ·exact same (by rw[k0 (.inl hk)];rfl) (nk ω)
   ·exact same (by rw[k0 (.inr hk)];rfl) (nk ω)
   ·exact same (m1 hk) (nk ω)
   ·rcases k3 hk with⟨kw,ke⟩|⟨ob,f,kw,km,ke,_⟩
    ·refine same (by rw[ke];rfl) ?_;rintro ob ⟨_,_,pM,f,b1,b2,b3,_⟩;rw[h3]at b1;cases b1;rw[kw]at b3;cases b3
    ·by_cases hg:g=G i
     ·by_cases hS:S i
      ·exact .inl ⟨i,ob,ω,⟨hS,ω,ao,f,h3,hk,kw,km,hg.symm⟩,by rw[ke,ZM,QJ hg]⟩
      ·exact absurd hg (m2 hk hS kw)
     ·refine same (by rw[ke,ZM,QC hg];rfl) ?_;rintro eu ⟨_,_,pM,f',b1,b2,b3,b4,b5⟩;exact hg b5.symm
  ·have:p=i+1:=ω
   subst this;exact .inr ⟨fun j ob hj ⟨_,h2,_⟩=>by omega,rfl⟩
end
section
variable {P:Program}{ih:Ex}
def zPj{ao:WE}{fr ae:WM}{h h':WA}(hk:zE ao.op=0\/zE ao.op=1)(hx:yO P ih ao fr h=some (ae,h')):
  ∃ v,ae=val ao.dst fr v/\∀ (t2:WG Value) (ff:List Deferred) (je:Option Nat) (h2:WA),(∀ s∈YD ao,zC fr.tm s=zC t2 s)->
   (∀ g,zc fr.tm ao=some g->h.get g≠none->h2.get g=h.get g\/zIF h2 g (Y6 fr.tm h ao.op))->yO P ih ao ⟨t2,ff,je⟩ h2=some (val ao.dst ⟨t2,ff,je⟩ v,h2):=by
 unfold yO at hx;cases hw:zP fr.tm ao.guard with
 |false=>
  simp only[hw,QU,QA,QE]at hx;obtain⟨rfl,_⟩:=hx;refine⟨undef,rfl,fun t2 ff je h2 hn _=> ?_⟩;unfold yO;have:=YX hn;rw[hw]at this;simp only[<-this,QU]
 |true=>
  simp only[hw,cond_true]at hx;have HD:∀ (t:WG Value) (rd:Option Nat) (h:WA),zy P ih t rd h ao.op=match WK P ih t h ao.op with
    |some (v,h)=>some (v,[],h)
    |none=>none:=by
   intro t rd h;unfold zy;split
   ·rename_i e;rw[e]at hk;rcases hk with q|q<;>cases q
   ·rename_i e;rw[e]at hk;rcases hk with q|q<;>cases q
   ·rename_i e;rw[e]at hk;rcases hk with q|q<;>cases q
   ·rfl
  rw[HD]at hx;cases ha:WK P ih fr.tm h ao.op with
  |none=>simp[ha]at hx
  |some q=>
   obtain⟨v,h1⟩:=q;simp only[ha,QA,QE,Gf]at hx;obtain⟨rfl,_⟩:=hx;refine⟨v,rfl,fun t2 ff je h2 hn hh=> ?_⟩;obtain⟨_,q2,q3⟩:=zFU hk ha;have h3:=q3 h2 fun g hg=>hh g (by rw[zNC _ _ hw];exact hg) (q2 g hg);rw[zHG (zFT hn)]at h3;have:=YX hn;rw[hw]at this;unfold yO;simp only[<-this,cond_true,HD,h3,Gf]
variable {B:Nat}{nt:Nat}{ops:Array Oper}{as:List WE}{l:List (WE×List Nat)}{FR:Nat->WM}{H:Nat->WA}{G:Nat->Nat}{σ0:Nat->Option Pl}{h0:WA}{w0:World}{b:Frame}
variable {S:Nat->Prop}{p:Nat}{tS:WG Value}{HS:WA}{σ:Nat->Option Pl}{w:World}{a:Act}
def Dr.wf(d:Dr P ih nt ops as l FR H G):∀ {k},k<=ops.size->∀ g,(H k).n<=g->(H k).get g=none:=by
 intro k;induction k with
 |zero=>intro _ g hg;exact d.free g (by have:=d.room;omega)
 |succ k fZ=>
  intro hk;exact((d.tr.grow d.grow (m:=G 0) (QF _) d.room k).2 (by rw[d.llen,d.len];omega)).wf (fZ ω)
def zOC(d:Dr P ih nt ops as l FR H G)(iv:Inv P B nt ops as FR H G σ0 h0 w0 b S p tS HS σ w a){i:Nat}{ao:WE}(ha:as[i]?=some ao)(hS:¬S i)(hk:zE ao.op=0\/zE ao.op=1)
  (pre:∀ j,Bf (Zx ops.toList []) i j=true->S j) (ew:∀ j aj,as[j]?=some aj->S j->Bf (Zx ops.toList []) j i=false) {g:Nat} (hg:zc (FR i).tm ao=some g) (hl:(H i).get g≠none):
  HS.get g=(H i).get g\/zIF HS g (Y6 (FR i).tm (H i) ao.op):=by
 have hi:=d.lt ha;have cV:zE ao.op=1:=by
  rcases hk with q|q
  ·exfalso;unfold zc at hg;cases hw:zP (FR i).tm ao.guard with
   |false=>rw[hw]at hg;cases hg
   |true=>
    rw[hw]at hg;cases cE:ao.op<;>rw[cE]at hg q<;>first|(cases hg;done)|(cases q;done)
  ·exact q
 obtain⟨un,pN,gK⟩:=d.lg i ao ha;obtain⟨ob,nC⟩:=Option.ne_none_iff_exists'.1 hl;rcases GP i p with HE|HE
 ·
  have aL:∀ q,i<=q->q<=p->(H q).get g=some ob\/zIF (H q) g (Y6 (FR i).tm (H i) ao.op):=by
   intro q;induction q with
   |zero=>intro h _;have:i=0:=ω
          subst this;exact .inl nC
   |succ q tW=>
    intro h hq;rcases GP i (q+1)with z|z
    ·have h1:=tW ω ω;have er:=iv.pn;obtain⟨o',am,Su,_,h3,_⟩:=d.get (k:=q) ω;obtain⟨v,ds,_,_,k0,k3⟩:=ZF (d.step h3);have hle:=zE8 am.op;have nD:(H q).get g≠none:=by
      rcases h1 with e|⟨off,n,c,_,e⟩
      ·rw[e];simp
      ·cases hr:z0 (H q) g with
       |none=>rw[hr]at e;cases e
       |some c=>exact zDA hr
     have keep:(H (q+1)).get g=(H q).get g->(H (q+1)).get g=some ob\/zIF (H (q+1)) g (Y6 (FR i).tm (H i) ao.op):=by
      intro e;rcases h1 with z|⟨off,n,c,e1,e2⟩
      ·exact .inl (e.trans z)
      ·exact .inr ⟨off,n,c,e1,by rw[zAw e];exact e2⟩
     rcases(by omega:zE am.op=0\/zE am.op=1\/zE am.op=2\/zE am.op=3)with hk|hk|hk|hk
     ·exact keep (by rw[k0 (.inl hk)];rfl)
     ·exact keep (by rw[k0 (.inr hk)];rfl)
     ·have k9:=iv.loud1 q am ω h3 ω;have ah:q≠i:=fun e=>by subst e;exact hS k9
      obtain⟨Lg,e1,e2⟩:=d.lg q am h3;have az:=e2 i ao ω ha (ew q am h3 k9) (.inl ⟨cV,hk⟩);rcases d.tr.write q (am,Lg) i (ao,un) g e1 ω pN hg (by simpa using az)with dy|cf
      ·have hs:=d.step h3;have hb:Nat.beq (zE am.op) 3=false:=by rw[hk];rfl
       unfold yC at hs;rw[hb]at hs;simp only[QU]at hs;have aD:g<(H q).n:=by
        rcases GP g (H q).n with q'|q'
        ·exact q'
        ·exact absurd (d.wf ω g q') nD
       exact keep ((Yr d.grow hs).log g aD aD dy)
      ·exact .inr cf
     ·rcases k3 hk with⟨kw,ke⟩|⟨eu,f,kw,km,ke,_⟩
      ·exact keep (by rw[ke];rfl)
      ·refine keep ?_;rw[ke,ZM,QC (fun e=>by
        have:=d.unlaid h3 hk (QF q);rw[<-e]at this;exact nD this)]
       rfl
    ·have:i=q+1:=ω
     subst this;exact .inl nC
  have aL:=aL p ω (QF _);rcases iv.dU g with⟨j,eu,q1,q2⟩|⟨_,q2⟩
  ·obtain⟨_,z2,am,f,z3,z4,_,_,z5⟩:=q1;have:=d.unlaid z3 z4 z2;rw[z5]at this;rcases aL with e|⟨off,n,c,_,e⟩
   ·rw[e]at this;cases this
   ·unfold z0 at e;rw[this]at e;cases e
  ·rcases aL with e|⟨off,n,c,e1,e2⟩
   ·exact .inl (by rw[q2,e,nC])
   ·exact .inr ⟨off,n,c,e1,by rw[zAw q2];exact e2⟩
 ·refine .inl ?_;have hw:=d.walk (S:=S) (g:=g) HE ω (fun m am h1 h2 hm=>⟨fun aU=>by
   have k9:=iv.loud2 m am h1 hm aU;have aW:Bf (Zx ops.toList []) i m=false:=by
    cases hq:Bf (Zx ops.toList []) i m with
    |false=>rfl
    |true=>exact absurd (pre m hq) k9
   have az:=gK m am h2 hm aW (.inr ⟨ω,cV⟩);obtain⟨r1,r2⟩:=d.tr.read i (ao,un) g m pN hg h2 (by simpa using az);have hs:=d.step hm;have hb:Nat.beq (zE am.op) 3=false:=by rw[aU];rfl
   unfold yC at hs;rw[hb]at hs;simp only[QU]at hs;exact(Yr d.grow hs).log g r1 r1 r2,fun cG k9 sd il=>by
   have aW:Bf (Zx ops.toList []) i m=false:=by
    cases hq:Bf (Zx ops.toList []) i m with
    |false=>rfl
    |true=>exact absurd (pre m hq) k9
   have az:=gK m am h2 hm aW (.inr ⟨ω,cV⟩);obtain⟨r1,r2⟩:=d.tr.read i (ao,un) g m pN hg h2 (by simpa using az);obtain⟨v,ds,_,_,_,k3⟩:=ZF (d.step hm);rcases k3 cG with⟨kw,_⟩|⟨eu,f,_,_,ke,_⟩
   ·rw[sd]at kw;cases kw
   ·apply r2;rw[ke,il];exact zBZ (by rw[<-il];exact r1)⟩)
  rcases hw with⟨j,eu,hj,q1,q2⟩|⟨q1,q2⟩
  ·rcases iv.dU g with⟨j',ma,r1,r2⟩|⟨r1,_⟩
   ·obtain⟨_,e2⟩:=d.pd_fun q1 r1;rw[r2,q2,e2]
   ·exact absurd q1 (r1 j eu)
  ·rcases iv.dU g with⟨j',ma,r1,r2⟩|⟨_,r2⟩
   ·rcases GP j' i with z|z
    ·exact absurd r1 (q1 j' ma z)
    ·obtain⟨_,_,am,f,z3,z4,_,_,z5⟩:=r1;have:=d.unlaid z3 z4 z;rw[z5,nC]at this;cases this
   ·rw[r2,q2]
end
section
variable {P:Program}{ih:Ex}{B:Nat}{nt:Nat}{ops:Array Oper}{as:List WE}{l:List (WE×List Nat)}{FR:Nat->WM}{H:Nat->WA}{G:Nat->Nat}{σ0:Nat->Option Pl}{h0:WA}{w0:World}{b:Frame}
variable {S:Nat->Prop}{p:Nat}{tS:WG Value}{HS:WA}{σ:Nat->Option Pl}{w:World}{a:Act}
def zDB(d:Dr P ih nt ops as l FR H G)(iv:Inv P B nt ops as FR H G σ0 h0 w0 b S p tS HS σ w a){i:Nat}{ao:WE}(ha:as[i]?=some ao)(hS:¬S i)
  (pre:∀ j,Bf (Zx ops.toList []) i j=true->S j) (ew:∀ j aj,as[j]?=some aj->S j->Bf (Zx ops.toList []) j i=false):∀ s∈YD ao,zC (FR i).tm s=zC tS s:=by
 intro s hs;have hi:=d.lt ha;refine(iv.slots s i ω (fun j aj hj cJ hd=> ?_) (fun j aj hj cJ hd ld=> ?_)).symm
 ·rcases d.pair j i aj ao hj cJ ha with q|⟨_,q,_⟩
  ·exact pre j q
  ·exact absurd hs (q s hd).1
 ·rcases GP i j with z|z
  ·rcases d.pair i j ao aj z ha cJ with q|⟨_,_,q⟩
   ·rw[ew j aj cJ ld]at q;cases q
   ·exact q s hd hs
  ·have:j=i:=ω
   subst this;exact hS ld
def zBW(d:Dr P ih nt ops as l FR H G)(iv:Inv P B nt ops as FR H G σ0 h0 w0 b S p tS HS σ w a){i:Nat}{ao:WE}(ha:as[i]?=some ao)(hS:¬S i)
  (ew:∀ j aj,as[j]?=some aj->S j->Bf (Zx ops.toList []) j i=false) {v:Value} {ds:List Deferred} (hf:FR (i+1)=val ao.dst {FR i with dfs:=ds++(FR i).dfs} v) (x:List Deferred) (y:Option Nat):
  ∀ (s m:Nat),m<=ops.size->(∀ (j:Nat) (aj:WE),j<m->as[j]?=some aj->aj.dst=some s->S j\/j=i)->(∀ (j:Nat) (aj:WE),m<=j->as[j]?=some aj->aj.dst=some s->¬(S j\/j=i))->
   zC (val ao.dst ⟨tS,x,y⟩ v).tm s=zC (FR m).tm s:=by
 intro s m hm c1 c2;by_cases hd:ao.dst=some s
 ·have xu:i<m:=by
   rcases GP i m with q|q
   ·exact q
   ·exact absurd (.inr rfl) (c2 i ao q ha hd)
  have e1:zC (FR m).tm s=zC (FR (i+1)).tm s:=d.slot ω hm fun j aj h1 h2 cJ mb=>by
   have ld:S j:=by
    rcases c1 j aj h2 cJ mb with q|q
    ·exact q
    ·omega
   rcases d.pair i j ao aj ω ha cJ with q|⟨_,q,_⟩
   ·rw[ew j aj cJ ld]at q;cases q
   ·exact(q s hd).2 mb
  rw[e1,hf,hd];show zC (tS.set s v) s=zC ((FR i).tm.set s v) s;rw[zg,zg,QJ rfl,QJ rfl]
 ·have e1:zC (val ao.dst ⟨tS,x,y⟩ v).tm s=zC tS s:=by
   cases hq:ao.dst with
   |none=>rfl
   |some e=>
    show zC (tS.set e v) s=_;rw[zg,QC (fun z=>hd (by rw[hq,z]))]
  rw[e1];refine iv.slots s m hm (fun j aj h1 cJ mb=> ?_) (fun j aj h1 cJ mb ld=>c2 j aj h1 cJ mb (.inl ld));rcases c1 j aj h1 cJ mb with q|q
  ·exact q
  ·subst q;rw[ha]at cJ;cases cJ;exact absurd mb hd
def zMm(P:Program)(B nt:Nat)(ops:Array Oper)(as:List WE)(FR:Nat->WM)(H:Nat->WA)(G:Nat->Nat)(σ0:Nat->Option Pl)(h0:WA)(w0:World)(b:Frame)(S:Nat->Prop)(i:Nat)(w:World)(a:Act):Prop:=
 ∃ p' xv xw σ' w' a',Inv P B nt ops as FR H G σ0 h0 w0 b (fun j=>S j\/j=i) p' xv xw σ' w' a'/\
  ∀ (rest:List Nat) (k:List Item) (cs:List Frame),zBn b cs->Steps P (lone (At b a (.inRegion ops (i::rest)::k)) cs w) (lone (At b a' (.inRegion ops rest::k)) cs w')
def zKl(hex:yQ P ih)(aw:yP P ih)(d:Dr P ih nt ops as l FR H G)(iv:Inv P B nt ops as FR H G σ0 h0 w0 b S p tS HS σ w a){i:Nat}{o:Oper}{ao:WE}(ho:ops[i]?=some o)(ha:as[i]?=some ao)(hS:¬S i)
  (hk:zE ao.op=0\/zE ao.op=1) (pre:∀ j,Bf (Zx ops.toList []) i j=true->S j) (ew:∀ j aj,as[j]?=some aj->S j->Bf (Zx ops.toList []) j i=false):
  zMm P B nt ops as FR H G σ0 h0 w0 b S i w a:=by
 have hs:=d.step ha;obtain⟨_,ds,hf,nq,_⟩:=ZF hs;have hb:Nat.beq (zE ao.op) 3=false:=by rcases hk with q|q<;>rw[q]<;>rfl
 have jh:=hs;unfold yC at jh;rw[hb]at jh;simp only[QU]at jh;obtain⟨v,HF,hq⟩:=zPj hk jh;have aM:=hq tS (FR p).dfs (FR 0).round HS (zDB d iv ha hS pre ew) (fun g hg hl=>zOC d iv ha hS hk pre ew hg hl);obtain⟨σ',w',a',e1,F1,_,st⟩:=zAo hex aw ho (d.op i o ao ho ha) iv.jg.rel iv.rel aM;have lh:∀ j g ob,Pd as FR G (fun j=>S j\/j=i) p j g ob↔Pd as FR G S p j g ob:=by
  intro j g ob;constructor
  ·rintro⟨h1,h2,am,f,h3,h4,h5⟩;refine⟨h1.resolve_right ?_,h2,am,f,h3,h4,h5⟩;rintro rfl;rw[ha]at h3;cases h3;omega
  ·rintro⟨h1,h2⟩;exact⟨.inl h1,h2⟩
 refine⟨p,_,HS,σ',w',a',⟨iv.pn,zBW d iv ha hS ew (ds:=[]) (by rw[HF];rfl) (FR p).dfs (FR 0).round,fun j am h1 h2 h3=> .inl (iv.loud1 j am h1 h2 h3),fun j am h1 h2 h3=> ?_,iv.hn,fun g=> ?_,fun j am h1 h2 h3=> ?_,?_,iv.jg.trans e1⟩,st⟩
 ·rintro(q|rfl)
  ·exact iv.loud2 j am h1 h2 h3 q
  ·rw[ha]at h2;cases h2;omega
 ·simp only[lh];exact iv.dU g
 ·have jG:=iv.free j am h1 h2 fun q=>h3 (.inl q);have aD:G j<HS.n:=by
   rw[iv.hn];have:=(d.below h1 h2).2;have:=d.n_le (i:=0) (j:=p) ω iv.pn;omega
  rw[e1.old.2 _ aD];exact jG
 ·have:(⟨(val ao.dst ⟨tS,(FR p).dfs,(FR 0).round⟩ v).tm,(FR p).dfs,(FR 0).round⟩:WM)=val ao.dst ⟨tS,(FR p).dfs,(FR 0).round⟩ v:=by cases ao.dst<;>rfl
  rw[this];exact F1
end
section
variable {P:Program}{ih:Ex}{B:Nat}{nt:Nat}{ops:Array Oper}{as:List WE}{l:List (WE×List Nat)}{FR:Nat->WM}{H:Nat->WA}{G:Nat->Nat}{σ0:Nat->Option Pl}{h0:WA}{w0:World}{b:Frame}
variable {S:Nat->Prop}{p:Nat}{tS:WG Value}{HS:WA}{σ:Nat->Option Pl}{w:World}{a:Act}
def zLV(hex:yQ P ih)(aw:yP P ih)(d:Dr P ih nt ops as l FR H G)(iv:Inv P B nt ops as FR H G σ0 h0 w0 b S p tS HS σ w a)(HG:h0.n<=G 0){i:Nat}{o:Oper}{ao:WE}(ho:ops[i]?=some o)(ha:as[i]?=some ao)(hS:¬S i)
  (hk:zE ao.op=3) (pre:∀ j,Bf (Zx ops.toList []) i j=true->S j) (ew:∀ j aj,as[j]?=some aj->S j->Bf (Zx ops.toList []) j i=false):
  zMm P B nt ops as FR H G σ0 h0 w0 b S i w a:=by
 have hi:=d.lt ha;have hs:=d.step ha;have pP:p<=i:=by
  rcases GP i p with q|q
  ·exact absurd (iv.loud1 i ao q ha ω) hS
  ·exact q
 have jK:=zDB d iv ha hS pre ew;have hc:=d.op i o ao ho ha;obtain⟨s1,s2,s3,_⟩:=zCw hc;have Cz:=zHf hc iv.rel.tm;have xx:=YX jK;have aD:∀ (j:Nat) (am:WE),as[j]?=some am->zE am.op=3->G j<HS.n:=fun j am h1 h2=>by
  rw[iv.hn];have:=(d.below h1 h2).2;have:=d.n_le (i:=0) (j:=p) ω iv.pn;omega
 have hb:Nat.beq (zE ao.op) 3=true:=by rw[hk];rfl
 unfold yC at hs;rw[hb]at hs;simp only[cond_true]at hs;cases hw:zP (FR i).tm ao.guard with
 |false=>
  simp only[hw,QU,QA,QE]at hs;obtain⟨hf,_⟩:=hs;have aM:yO P ih ao ⟨tS,(FR p).dfs,(FR 0).round⟩ HS=some (val ao.dst ⟨tS,(FR p).dfs,(FR 0).round⟩ undef,HS):=by
   unfold yO;rw[hw]at xx;simp only[<-xx,QU]
  obtain⟨σ',w',a',e1,F1,_,st⟩:=zAo hex aw ho hc iv.jg.rel iv.rel aM;have lh:∀ j g ob,Pd as FR G (fun j=>S j\/j=i) p j g ob↔Pd as FR G S p j g ob:=by
   intro j g ob;constructor
   ·rintro⟨h1,h2,am,f,h3,h4,h5,h6⟩;refine⟨h1.resolve_right ?_,h2,am,f,h3,h4,h5,h6⟩;rintro rfl;rw[ha]at h3;cases h3;rw[hw]at h5;cases h5
   ·rintro⟨h1,h2⟩;exact⟨.inl h1,h2⟩
  refine⟨p,_,HS,σ',w',a',⟨iv.pn,zBW d iv ha hS ew (ds:=[]) (v:=undef) (by rw[<-hf];rfl) (FR p).dfs (FR 0).round,fun j am h1 h2 h3=> .inl (iv.loud1 j am h1 h2 h3),fun j am h1 h2 h3=> ?_,iv.hn,fun g=> ?_,fun j am h1 h2 h3=> ?_,?_,iv.jg.trans e1⟩,st⟩
  ·rintro(q|rfl)
   ·exact iv.loud2 j am h1 h2 h3 q
   ·rw[ha]at h2;cases h2;omega
  ·simp only[lh];exact iv.dU g
  ·rw[e1.old.2 _ (aD j am h1 h2)];exact iv.free j am h1 h2 fun q=>h3 (.inl q)
  ·have:(⟨(val ao.dst ⟨tS,(FR p).dfs,(FR 0).round⟩ undef).tm,(FR p).dfs,(FR 0).round⟩:WM)=val ao.dst ⟨tS,(FR p).dfs,(FR 0).round⟩ undef:=by cases ao.dst<;>rfl
   rw[this];exact F1
 |true=>
  simp only[hw,cond_true]at hs;cases hm:yh (FR i).tm ao.op with
  |none=>simp[hm]at hs
  |some q=>
  obtain⟨ob,f⟩:=q;simp only[hm,QA,QE]at hs;obtain⟨hf,_⟩:=hs;have Lh:yh tS ao.op=some (ob,f):=by rw[<-zKi (zFT jK)];exact hm
  cases dt:SW P o with
  |none=>
   rw[dt,Gv]at s3;rw[s3]at hk;cases hk
  |some op=>
  rw[dt,GG]at s3;subst s3;obtain⟨O,n,w',cv,m1,m2,m3,m4,m5⟩:=zPN iv.jg.rel iv.rel.tm dt Lh;have ui:=iv.free i ao ha hk hS;obtain⟨k1,k2,k3,k4,k5⟩:=zSU (o:=ob) iv.jg.rel ui (aD i ao ha hk) m2 m3 m4;have ab:=yB σ (G i) ⟨w.heap.size,0,n⟩;have gJ:W2 P B σ0 h0 w0 (yu σ (G i) ⟨w.heap.size,0,n⟩) (HS.lay (G i) ob) w':=by
   have ev:=iv.jg;refine⟨ev.le.trans k2,k1,m3.1.trans ev.os,m3.2.1.trans ev.tape,m3.2.2.trans ev.output,QM ev.size k3,fun b hb dy=>(k4 b (QG hb ev.size)).trans (ev.kept b hb dy),fun b hb=> ?_,?_,fun g hg=> ?_⟩
   ·rcases k5 b hb with q|q
    ·exact .inl (QM ev.size q)
    ·exact ev.from_ b q
   ·exact ev.old.1
   ·have ah:g≠G i:=by
     have:=(d.below ha hk).1;omega
    unfold yu;rw[QC ah];exact ev.old.2 g hg
  have mc:Region.wanted o (yielded ops a.tmps)=true:=by rw[Cz];rw[hw]at xx;exact xx.symm
  have hnd:∀ c,o.op=.defer c->b.roundOf=none:=fun c hq=>by
   rcases zBg dt hq with⟨f',_,e⟩|⟨m,t,kt,e',_,_,_,_,e⟩<;>rw[e]at hk<;>cases hk
  refine⟨p,(val ao.dst ⟨tS,(FR p).dfs,(FR 0).round⟩ (f (G i))).tm,HS.lay (G i) ob,_,w',a.put o.dst cv,⟨iv.pn,zBW d iv ha hS ew (ds:=[]) (v:=f (G i)) (by rw[<-hf];rfl) (FR p).dfs (FR 0).round,
   fun j am h1 h2 h3=> .inl (iv.loud1 j am h1 h2 h3),fun j am h1 h2 h3=> ?_,iv.hn,fun g=> ?_,fun j am h1 h2 h3=> ?_,?_,gJ⟩,fun rest k cs aY=> .one (zC3 ho mc hnd m1)⟩
  ·rintro(q|rfl)
   ·exact iv.loud2 j am h1 h2 h3 q
   ·rw[ha]at h2;cases h2;omega
  ·by_cases hg:g=G i
   ·exact .inl ⟨i,ob,⟨.inr rfl,pP,ao,f,ha,hk,hw,hm,hg.symm⟩,by rw[ZM,QJ hg]⟩
   ·rw[ZM,QC hg];rcases iv.dU g with⟨j,eu,⟨q1,q2⟩,q3⟩|⟨q1,q2⟩
    ·exact .inl ⟨j,eu,⟨.inl q1,q2⟩,q3⟩
    ·refine .inr ⟨fun j eu hq=> ?_,q2⟩;obtain⟨z1,z2,am,f',z3,z4,z5,z6,z7⟩:=hq;rcases z1 with z1|rfl
     ·exact q1 j eu ⟨z1,z2,am,f',z3,z4,z5,z6,z7⟩
     ·exact hg z7.symm
  ·have ah:G j≠G i:=by
    have Li:j≠i:=fun q=>h3 (.inr q);have hj:=d.lt h1;rcases GP j i with q|q
    ·have:=d.apart q ω h1 h2;omega
    ·have:=d.apart (i:=i) (j:=j) ω ω ha hk;omega
   unfold yu;rw[QC ah];exact iv.free j am h1 h2 fun q=>h3 (.inl q)
  ·have:(⟨(val ao.dst ⟨tS,(FR p).dfs,(FR 0).round⟩ (f (G i))).tm,(FR p).dfs,(FR 0).round⟩:WM)=val ao.dst ⟨tS,(FR p).dfs,(FR 0).round⟩ (f (G i)):=by cases ao.dst<;>rfl
   rw[this,s2];exact(iv.rel.mono k2).val s1 (m5 _ _ ab)
end
section
variable {P:Program}{ih:Ex}{B:Nat}{nt:Nat}{ops:Array Oper}{as:List WE}{l:List (WE×List Nat)}{FR:Nat->WM}{H:Nat->WA}{G:Nat->Nat}{σ0:Nat->Option Pl}{h0:WA}{w0:World}{b:Frame}
variable {S:Nat->Prop}{p:Nat}{tS:WG Value}{HS:WA}{σ:Nat->Option Pl}{w:World}{a:Act}
def zSW{ao:WE}{fr ae:WM}{h h':WA}(hx:yO P ih ao fr h=some (ae,h')):
  ∃ v ds,ae=val ao.dst {fr with dfs:=ds++fr.dfs} v/\∀ (t2:WG Value) (ff:List Deferred),(∀ s∈YD ao,zC fr.tm s=zC t2 s)->
   yO P ih ao ⟨t2,ff,fr.round⟩ h=some (val ao.dst ⟨t2,ds++ff,fr.round⟩ v,h'):=by
 unfold yO at hx;cases hw:zP fr.tm ao.guard with
 |false=>
  simp only[hw,QU,QA,QE]at hx;obtain⟨rfl,rfl⟩:=hx;refine⟨undef,[],rfl,fun t2 ff hn=> ?_⟩;unfold yO;have:=YX hn;rw[hw]at this;simp only[<-this,QU,Gf]
 |true=>
  simp only[hw,cond_true]at hx;cases hv:zy P ih fr.tm fr.round h ao.op with
  |none=>simp[hv]at hx
  |some q=>
   obtain⟨v,ds,h1⟩:=q;simp only[hv,QA,QE]at hx;obtain⟨rfl,rfl⟩:=hx;refine⟨v,ds,rfl,fun t2 ff hn=> ?_⟩;have:=YX hn;rw[hw]at this;rw[zHv (zFT hn)]at hv;unfold yO;simp only[<-this,cond_true,hv]
def Dr.n_eq(d:Dr P ih nt ops as l FR H G){i:Nat}:∀ {j},i<=j->j<=ops.size->(∀ (m:Nat) (ao:WE),i<=m->m<j->as[m]?=some ao->zE ao.op≠2)->(H j).n=(H i).n:=by
 intro j;induction j with
 |zero=>intro h _ _;have:i=0:=ω
        subst this;rfl
 |succ j jJ=>
  intro h hj hn;rcases GP i (j+1)with q|q
  ·rw[<-jJ ω ω (fun m ao a b=>hn m ao a ω)];obtain⟨o,ao,un,_,h3,_⟩:=d.get (k:=j) ω;obtain⟨v,ds,_,_,k0,k3⟩:=ZF (d.step h3);have hle:=zE8 ao.op;have ah:=hn j ao ω ω h3;rcases(by omega:zE ao.op=0\/zE ao.op=1\/zE ao.op=3)with hk|hk|hk
   ·rw[k0 (.inl hk)]
   ·rw[k0 (.inr hk)]
   ·rcases k3 hk with⟨_,ke⟩|⟨ob,f,_,_,ke,_⟩<;>rw[ke]<;>rfl
  ·have:i=j+1:=ω
   subst this;rfl
def zOW(hex:yQ P ih)(aw:yP P ih)(d:Dr P ih nt ops as l FR H G)(iv:Inv P B nt ops as FR H G σ0 h0 w0 b S p tS HS σ w a){i:Nat}{o:Oper}{ao:WE}(ho:ops[i]?=some o)(ha:as[i]?=some ao)(hS:¬S i)
  (hk:zE ao.op=2) (pre:∀ j,Bf (Zx ops.toList []) i j=true->S j) (ew:∀ j aj,as[j]?=some aj->S j->Bf (Zx ops.toList []) j i=false):
  zMm P B nt ops as FR H G σ0 h0 w0 b S i w a:=by
 have hi:=d.lt ha;have hs:=d.step ha;have pP:p<=i:=by
  rcases GP i p with q|q
  ·exact absurd (iv.loud1 i ao q ha ω) hS
  ·exact q
 have ahead:∀ (j:Nat) (aj:WE),j<i->as[j]?=some aj->2<=zE aj.op->S j:=fun j aj hj cJ h2=>by
  rcases d.pair j i aj ao hj cJ ha with q|⟨q,_⟩
  ·exact pre j q
  ·exact absurd ⟨hk,h2⟩ q
 have behind:∀ (j:Nat) (aj:WE),i<j->as[j]?=some aj->zE aj.op=2->¬S j:=fun j aj hj cJ h2 ld=>by
  rcases d.pair i j ao aj hj ha cJ with q|⟨q,_⟩
  ·rw[ew j aj cJ ld]at q;cases q
  ·exact q ⟨h2,ω⟩
 have quiet:∀ (m:Nat) (am:WE),p<=m->m<i->as[m]?=some am->zE am.op≠2:=fun m am h1 h2 hm h3=>
  iv.loud2 m am h1 hm h3 (ahead m am h2 hm ω)
 have cR:∀ g ob,(H i).get g=some ob->HS.get g=some ob:=fun g ob nC=>by
  have hw:=d.walk (S:=S) (g:=g) pP ω (fun m am h1 h2 hm=>⟨fun aU=>absurd aU (quiet m am h1 h2 hm),fun cG k9 _ _=>k9 (ahead m am h2 hm ω)⟩);rcases hw with⟨j,eu,hj,q1,q2⟩|⟨q1,q2⟩
  ·rcases iv.dU g with⟨j',ma,r1,r2⟩|⟨r1,_⟩
   ·obtain⟨_,e2⟩:=d.pd_fun q1 r1;rw[r2,<-e2,<-q2,nC]
   ·exact absurd q1 (r1 j eu)
  ·rcases iv.dU g with⟨j',ma,r1,r2⟩|⟨_,r2⟩
   ·rcases GP j' i with z|z
    ·exact absurd r1 (q1 j' ma z)
    ·obtain⟨_,_,am,f,z3,z4,_,_,z5⟩:=r1;have:=d.unlaid z3 z4 z;rw[z5,nC]at this;cases this
   ·rw[r2,<-q2,nC]
 have hn:HS.n=(H i).n:=iv.hn.trans (d.n_eq pP ω quiet).symm;have CA:(FR i).dfs=(FR p).dfs:=d.dfs pP ω quiet;have gD:=d.round (j:=i) ω;have hb:Nat.beq (zE ao.op) 3=false:=by rw[hk];rfl
 unfold yC at hs;rw[hb]at hs;simp only[QU]at hs;obtain⟨v,ds,hf,hq⟩:=zSW hs;have aM:=hq tS (FR p).dfs (zDB d iv ha hS pre ew);rw[gD]at aM;have cZ:Wd P B σ {H i with mark:=(H i).n,wr:=[]} w:=iv.jg.rel.sub cR hn.symm;obtain⟨σ',w',a',e1,F1,_,st⟩:=zAo hex aw ho (d.op i o ao ho ha) cZ iv.rel aM;obtain⟨nz,x1,x2⟩:=zLz (fun j g ob=>Pd as FR G (fun j=>S j\/j=i) (i+1) j g ob)
  (fun j g ob g' eu h1 h2=>⟨by obtain⟨_,_,_,_,_,_,_,_,e⟩:=h1;obtain⟨_,_,_,_,_,_,_,_,e'⟩:=h2;exact e.symm.trans e',by
   obtain⟨y1,y2,ym,yf,y3,y4,y5,y6,y7⟩:=h1;obtain⟨z1,z2,zm,zf,z3,z4,z5,z6,z7⟩:=h2;rw[y3]at z3;cases z3;rw[y6]at z6;cases z6;rfl⟩) (H (i+1)) ops.size
 have gJ:W2 P B σ HS w σ' nz w':=by
  refine zNv (Hi:={H i with mark:=(H i).n,wr:=[]}) iv.jg.rel cR hn e1 (Yr d.grow hs) x1 fun g ob hg=> ?_;rcases x2 g with⟨j,eu,_,q1,q2⟩|⟨_,q2⟩
  ·right;rw[hg]at q2;cases q2;obtain⟨z1,z2,am,f,z3,z4,z5,z6,z7⟩:=q1;have z1:S j:=z1.resolve_right ω;have lh:Pd as FR G S p j g ob:=⟨z1,ω,am,f,z3,z4,z5,z6,z7⟩;refine⟨?_,zHA z6,by rw[<-z7];exact d.unlaid z3 z4 (k:=i) ω⟩;rcases iv.dU g with⟨j',ma,r1,r2⟩|⟨r1,_⟩
   ·obtain⟨_,e2⟩:=d.pd_fun lh r1;rw[r2,e2]
   ·exact absurd lh (r1 j ob)
  ·left;rw[<-q2];exact hg
 refine⟨i+1,_,nz,σ',w',a',⟨ω,zBW d iv ha hS ew hf (ds++(FR p).dfs) (FR 0).round,fun j am h1 h2 h3=> ?_,fun j am h1 h2 h3=> ?_,x1,fun g=> ?_,fun j am h1 h2 h3=> ?_,?_,iv.jg.trans gJ⟩,st⟩
 ·rcases GP j i with q|q
  ·exact .inl (ahead j am q h2 h3)
  ·exact .inr ω
 ·rintro(q|q)
  ·exact behind j am ω h2 h3 q
  ·omega
 ·rcases x2 g with⟨j,ob,_,q1,q2⟩|⟨q1,q2⟩
  ·exact .inl ⟨j,ob,q1,q2⟩
  ·refine .inr ⟨fun j ob lh=> ?_,q2⟩;have CB:=lh;obtain⟨_,_,am,f,z3,_⟩:=CB;exact q1 j ob (d.lt z3) lh
 ·have aD:G j<HS.n:=by
   rw[iv.hn];have:=(d.below h1 h2).2;have:=d.n_le (i:=0) (j:=p) ω iv.pn;omega
  rw[gJ.old.2 _ aD];exact iv.free j am h1 h2 fun q=>h3 (.inl q)
 ·have:(⟨(val ao.dst ⟨tS,ds++(FR p).dfs,(FR 0).round⟩ v).tm,(FR (i+1)).dfs,(FR 0).round⟩:WM)=val ao.dst ⟨tS,ds++(FR p).dfs,(FR 0).round⟩ v:=by
   rw[hf,zMc,CA];cases ao.dst<;>rfl
  rw[this];exact F1
end
section
variable {P:Program}{ih:Ex}{B:Nat}{nt:Nat}{ops:Array Oper}{as:List WE}{l:List (WE×List Nat)}{FR:Nat->WM}{H:Nat->WA}{G:Nat->Nat}{σ0:Nat->Option Pl}{h0:WA}{w0:World}{b:Frame}
def left(ops:Array Oper)(listed:Array Bool):List Nat:=(List.range ops.size).filter fun i=> !listed.getD i true
def Inv.congr{S S':Nat->Prop}{p:Nat}{tS:WG Value}{HS:WA}{σ:Nat->Option Pl}{w:World}{a:Act}(he:∀ j,S j↔S' j)(iv:Inv P B nt ops as FR H G σ0 h0 w0 b S p tS HS σ w a):Inv P B nt ops as FR H G σ0 h0 w0 b S' p tS HS σ w a:=by
 have:S=S':=funext fun j=>propext (he j);rw[<-this];exact iv
def zRV(hex:yQ P ih)(aw:yP P ih)(d:Dr P ih nt ops as l FR H G)(HG:h0.n<=G 0)(CC:zFI ops=true):∀ (fuel t:Nat) (listed:Array Bool) {p:Nat} {tS:WG Value} {HS:WA} {σ:Nat->Option Pl} {w:World} {a:Act},
  listed.size=ops.size->(left ops listed).length<=fuel->
  (∀ (j:Nat) (o:Oper),listed.getD j false=true->ops[j]?=some o->∀ e∈o.after.toList,Region.binds .any e=true->listed.getD e.on false=true)->
  Inv P B nt ops as FR H G σ0 h0 w0 b (fun j=>listed.getD j false=true) p tS HS σ w a->
  ∃ p' xv xw σ' w' a',Inv P B nt ops as FR H G σ0 h0 w0 b (fun j=>j<ops.size) p' xv xw σ' w' a'/\
   ∀ (k:List Item) (cs:List Frame),zBn b cs->Steps P (lone (At b a (.inRegion ops (Region.linearise.go .any ops fuel t listed [])::k)) cs w) (lone (At b a' (.inRegion ops []::k)) cs w'):=by
 intro fuel;have fin:∀ (listed:Array Bool) {p:Nat} {tS:WG Value} {HS:WA} {σ:Nat->Option Pl} {w:World} {a:Act},listed.size=ops.size->left ops listed=[]->Inv P B nt ops as FR H G σ0 h0 w0 b (fun j=>listed.getD j false=true) p tS HS σ w a->
   Inv P B nt ops as FR H G σ0 h0 w0 b (fun j=>j<ops.size) p tS HS σ w a:=by
  intro listed p tS HS σ w a hsz hl iv;refine iv.congr fun j=>⟨fun hj=> ?_,fun hj=> ?_⟩
  ·rcases GP j ops.size with q|q
   ·exact q
   ·rw[GD,Array.getElem?_eq_none ω]at hj;cases hj
  ·have hm:j∉left ops listed:=by rw[hl];simp
   have hq:listed.getD j true=true:=by
    cases hv:listed.getD j true with
    |true=>rfl
    |false=>exact absurd (Gp.2 ⟨Q4.2 hj,by simp[hv]⟩) hm
   rw[GD,Q6 ω]at hq |-;exact hq
 induction fuel with
 |zero=>
  intro t listed p tS HS σ w a hsz hlen aO iv;exact⟨p,tS,HS,σ,w,a,fin listed hsz (Gm.1 ω) iv,fun k cs aY=>Steps.refl P _⟩
 |succ fuel Lj=>
  intro t listed p tS HS σ w a hsz hlen aO iv;simp only[Region.linearise.go];change ∃ p' xv xw σ' w' a',_/\∀ (k:List Item) (cs:List Frame),zBn b cs->Steps P (lone (At b a (.inRegion ops (match(Region.ready .any ops listed)[t % (Region.ready .any ops listed).length]? with
   |some i=>Region.linearise.go .any ops fuel (t / (Region.ready .any ops listed).length) (listed.setIfInBounds i true) [i]
   |none=>[].reverse)::k)) cs w) _
  cases hi:(Region.ready .any ops listed)[t % (Region.ready .any ops listed).length]? with
  |none=>
   have cY:Region.ready .any ops listed=[]:=by
    cases hr:Region.ready .any ops listed with
    |nil=>rfl
    |cons x xs=>
     rw[hr]at hi;have aD:t % (x::xs).length<(x::xs).length:=Nat.mod_lt _ (by simp);simp at hi;simp at aD;omega
   refine⟨p,tS,HS,σ,w,a,fin listed hsz ?_ iv,fun k cs aY=>Steps.refl P _⟩;cases hL:left ops listed with
   |nil=>rfl
   |cons x xs=>
    exfalso;have key:∀ n j,j<n->j∈left ops listed->False:=by
     intro n;induction n with
     |zero=>intro j hj;omega
     |succ n k8=>
      intro j hj hm;obtain⟨cC,bT⟩:=Gp.1 hm;have pQ:=Q4.1 cC;have hr:j∈Region.ready .any ops listed:=by
       refine Gp.2 ⟨cC,?_⟩;rw[Q6 pQ];simp only[QL,GG,QI];refine⟨bT,?_⟩;rw[Array.all_eq_true'];intro e he;cases hb:Region.binds .any e with
       |false=>rfl
       |true=>
        have aD:=zNu CC (Q6 pQ) (by simpa using he) hb;have dy:=k8 e.on ω;have:listed.getD e.on true=true:=by
         cases hv:listed.getD e.on true with
         |true=>rfl
         |false=>exact absurd (Gp.2 ⟨Q4.2 ω,by simp[hv]⟩) dy
        rw[GD,Q6 ω]at this |-;simpa using this
      rw[cY]at hr;cases hr
    exact key (x+1) x ω (by rw[hL];exact QR ..)
  |some i=>
   simp only[];have xu:=Gb hi;obtain⟨cC,bT⟩:=Gp.1 xu;have xy:=Q4.1 cC;obtain⟨o,ao,un,ho,ha,_⟩:=d.get xy;rw[ho]at bT;simp only[QL,GG,QI]at bT;have uj:listed.getD i true=false:=by simpa using bT.1
   have hS:¬listed.getD i false=true:=by
    rw[GD,Q6 ω]at uj |-;simp only[GG]at uj |-;rw[uj];simp
   have jL:∀ e∈o.after.toList,Region.binds .any e=true->listed.getD e.on false=true:=by
    intro e he hb;have:=Array.all_eq_true'.1 bT.2 e (by simpa using he);rw[hb]at this;simpa using this
   have pre:∀ j,Bf (Zx ops.toList []) i j=true->listed.getD j false=true:=zHT (S:=fun j=>listed.getD j false=true) aO (i+1) i o ω ho jL;have ew:∀ j aj,as[j]?=some aj->listed.getD j false=true->Bf (Zx ops.toList []) j i=false:=by
    intro j aj cJ ld;cases hb:Bf (Zx ops.toList []) j i with
    |false=>rfl
    |true=>
     have pQ:=d.lt cJ;exact absurd (zHT (S:=fun j=>listed.getD j false=true) aO (j+1) j ops[j] ω (Q6 pQ) (aO j _ ld (Q6 pQ)) i hb) hS
   have jM:zMm P B nt ops as FR H G σ0 h0 w0 b (fun j=>listed.getD j false=true) i w a:=by
    have hle:=zE8 ao.op;rcases(by omega:(zE ao.op=0\/zE ao.op=1)\/zE ao.op=2\/zE ao.op=3)with hk|hk|hk
    ·exact zKl hex aw d iv ho ha hS hk pre ew
    ·exact zOW hex aw d iv ho ha hS hk pre ew
    ·exact zLV hex aw d iv HG ho ha hS hk pre ew
   obtain⟨p1,Sv,nz,σ1,w1,a1,Lk,bZ⟩:=jM;have dr:∀ j,(listed.setIfInBounds i true).getD j false=true↔listed.getD j false=true\/j=i:=by
    intro j;rw[GD,GD,Gi];by_cases hj:i=j
    ·subst hj;simp[hsz,xy]
    ·rw[QC hj];constructor
     ·exact .inl
     ·rintro(q|q)
      ·exact q
      ·exact absurd q.symm hj
   obtain⟨p2,Ll,Lm,σ2,w2,a2,Ln,cz⟩:=Lj (t / (Region.ready .any ops listed).length) (listed.setIfInBounds i true) (by simpa using hsz) (by
     have:(left ops (listed.setIfInBounds i true)).length<(left ops listed).length:=by
      have e:left ops (listed.setIfInBounds i true)=(left ops listed).filter fun j=> !(listed.setIfInBounds i true).getD j true:=by
       unfold left;rw[List.filter_filter];refine List.filter_congr fun j hj=> ?_;have pQ:=Q4.1 hj;rw[GD,GD,Gi];by_cases hq:i=j
       ·subst hq;simp[hsz,xy]
       ·rw[QC hq];simp
      rw[e];refine List.length_filter_lt_length_iff_exists.2 ⟨i,Gp.2 ⟨cC,by simp[uj]⟩,?_⟩;rw[GD,Gi];simp[hsz,xy]
     omega)
    (fun j o' hj tL e he hb=>by
     rw[dr]at hj |-;rcases hj with hj|rfl
     ·exact .inl (aO j o' hj tL e he hb)
     ·rw[ho]at tL;cases tL;exact .inl (jL e he hb)) (Lk.congr fun j=>(dr j).symm)
   refine⟨p2,Ll,Lm,σ2,w2,a2,Ln,fun k cs aY=> ?_⟩;rw[linearise_go_acc,List.reverse_singleton,JV];exact Steps.trans (bZ _ k cs aY) (cz k cs aY)
end
section
variable {P:Program}{ih:Ex}
def zLL(cS:P.follows .mixedOrders=true)(iI:ZT ih)(hex:yQ P ih)(aw:yP P ih):zHi P ih:=by
 intro nt id ops as l hc hd B σ h w fr ae a b h' hr hF hx;unfold zHD at hd;simp only[GL]at hd;split at hd;case isFalse=>cases hd
 case isTrue aS=>
 simp only[QA,WT.regionC.injEq]at hd;subst hd;rw[QI]at aS;obtain⟨CC,pS⟩:=aS;obtain⟨c1,c2⟩:=zL9 hc;simp only[Array.length_toList]at c1;unfold YZ at hx;cases CD:yD P ih (zCd (Zx ops.toList []) [] 0 as) 0 h.n [] [] [] fr {h with n:=h.n+((zCd (Zx ops.toList []) [] 0 as).filter fun x=>Nat.beq (zE x.1.op) 3).length} with
 |none=>simp[CD]at hx
 |some q=>
 obtain⟨a6,h1,ws⟩:=q;simp only[CD,QA,QE]at hx;obtain⟨rfl,rfl⟩:=hx;obtain⟨FR,H,G,f0,f1,f2,f3,f4,tr,_,_,_,_⟩:=zS4 CD;obtain⟨u1,u2⟩:=zRS (b:=Zx ops.toList []) (as:=as) (before:=[]) (j:=0);have bD:∀ g,h.n<=g->h.get g=none:=fun g hg=>by
  cases hq:h.get g with
  |none=>rfl
  |some o=>obtain⟨pl,z,_⟩:=hr.live _ _ hq;have:=(hr.lt _ _ z).1;omega
 have d:Dr P ih nt ops as (zCd (Zx ops.toList []) [] 0 as) FR H G:=by
  refine⟨c1,u1,fun i o ao ho ha=>c2 i o ao (by simpa using ho) ha,fun k ao ha=> ?_,fun i j ai aj jy fL Lo=> ?_,tr,iI,by rw[f1,f2];exact QF _,fun g hg=> ?_⟩
  ·obtain⟨un,a1,_,a3⟩:=u2 k ao ha;exact⟨un,a1,fun k2 jf h1 h2 h3 h4=>by have:=a3 k2 jf h1 h2 (by simpa using h3) h4;simpa using this⟩
  ·exact zNZ (zOQ pS i j _ _ jy (zCl c1 fL) (zCl c1 Lo))
  ·rw[f1];exact bD g (by rw[<-f2];exact hg)
 have xz:∀ g,(H 0).get g=h.get g:=fun g=>by rw[f1];rfl
 have hrel0:Wd P B σ (H 0) w:=by
  have hn:h.n<=(H 0).n:=by rw[f1];exact JP _ _
  refine⟨hr.globals,fun g pl hg=>⟨QG (hr.lt g pl hg).1 hn,(hr.lt g pl hg).2⟩,fun g o hg=>hr.live g o (by rw[<-xz];exact hg),
   fun g o g' o' pl bW a1 a2=>hr.apart g o g' o' pl bW (by rw[<-xz];exact a1) (by rw[<-xz];exact a2),hr.le⟩
 have CF:W2 P B σ h w σ (H 0) {w with drawn:=w.drawn+1}:=by
  refine⟨.refl _,hrel0.drew _,rfl,rfl,rfl,QF _,fun _ _ _=>rfl,fun b' ⟨g,o,pl,a1,a2⟩=> .inr ⟨g,o,pl,by rw[<-xz];exact a1,a2⟩,by rw[f1];exact JP _ _,fun _ _=>rfl⟩
 have CG:(⟨fr.tm,(FR 0).dfs,(FR 0).round⟩:WM)=fr:=by rw[f0]
 have xA:∀ j,¬(Array.replicate ops.size false).getD j false=true:=fun j=>by
  rw[GD,Array.getElem?_replicate];split<;>simp
 have Lp:Inv P B nt ops as FR H G σ h w b (fun j=>(Array.replicate ops.size false).getD j false=true) 0 fr.tm (H 0) σ {w with drawn:=w.drawn+1} a:=by
  refine⟨QQ _,fun s m hm k1 k2=> ?_,fun j ao hj=>by omega,fun j ao _ _ _ hj=>xA j hj,rfl,fun g=> .inr ⟨fun j ob hp=>xA j hp.1,rfl⟩,fun j ao cJ hk _=> ?_,?_,CF⟩
  ·have:=d.slot (s:=s) (i:=0) (j:=m) ω hm fun j ao _ h2 cJ mb=>xA j (k1 j ao h2 cJ mb);rw[this,f0]
  ·have:=(d.below cJ hk).1;rw[f2]at this;cases hq:σ (G j)with
   |none=>rfl
   |some pl=>have:=(hr.lt _ _ hq).1;omega
  ·rw[CG];exact hF
 obtain⟨p,tS,HS,σ',w',a',iv,st⟩:=zRV hex aw d (by rw[f2];exact QF _) CC ops.size (w.tape w.drawn (.order b.fn id)) (Array.replicate ops.size false) (by simp)
  (by have:=JK (fun i=> !(Array.replicate ops.size false).getD i true) (List.range ops.size);simpa [left]using this) (fun j o hj=>absurd hj (xA j)) Lp
 have hlen:(zCd (Zx ops.toList []) [] 0 as).length=ops.size:=by rw[u1,c1]
 rw[hlen]at f3 f4;subst f3 f4;have gL:∀ (m:Nat) (am:WE),p<=m->m<ops.size->as[m]?=some am->zE am.op≠2:=fun m am a1 a2 a3 a4=>iv.loud2 m am a1 a3 a4 a2;have a9:∀ g,HS.get g=(H ops.size).get g:=fun g=>by
  have hw:=d.walk (S:=fun j=>j<ops.size) (p:=p) (g:=g) iv.pn (QF _) (fun m am a1 a2 hm=>⟨fun aU=>absurd aU (gL m am a1 a2 hm),fun _ k9 _ _=>k9 a2⟩);rcases hw with⟨j,eu,hj,q1,q2⟩|⟨q1,q2⟩
  ·rcases iv.dU g with⟨j',ma,r1,r2⟩|⟨r1,_⟩
   ·obtain⟨_,e2⟩:=d.pd_fun q1 r1;rw[r2,<-e2,q2]
   ·exact absurd q1 (r1 j eu)
  ·rcases iv.dU g with⟨j',ma,r1,r2⟩|⟨_,r2⟩
   ·exact absurd r1 (q1 j' ma r1.1)
   ·rw[r2,q2]
 have hn:HS.n=(H ops.size).n:=iv.hn.trans (d.n_eq iv.pn (QF _) gL).symm;refine⟨σ',w',a',?_,?_,?_,fun k cs aY=> ?_⟩
 ·exact iv.jg.trans (W2.same (h2:={H ops.size with mark:=h.mark,wr:=((ws.map (·.2)).filter fun g=> !Nat.ble h.mark g)++h.wr}) iv.jg.rel (fun g o hg=>by rw[a9];exact hg) hn.symm)
 ·refine⟨iv.rel.size,fun k=> ?_,?_,?_⟩
  ·have:=iv.slots k ops.size (QF _) (fun j ao hj _ _=>hj) (fun j ao hj cJ _ pQ=>by omega);rw[<-this];exact iv.rel.tm k
  ·rw[d.dfs iv.pn (QF _) gL];exact iv.rel.dfs
  ·rw[d.round (QF _)];exact iv.rel.round
 ·rw[d.round (QF _),f0]
 ·refine Steps.trans (.one zFf) (.trans ?_ (.one (zCc (ops:=ops))));have:=st k cs aY;unfold Region.schedule;rw[cS];simp only[Qx,Qz];exact this
structure Ws.Ok(P:Program)(tab:Ws):Prop where
 code:∀ f a,tab.code f=some a->zGJ P f=some a
 stub:∀ f s,tab.stub f=some s->zCW P f s
 grow:∀ f s,tab.stub f=some s->∀ args h v h',s args h=some (v,h')->Wl h.n h h'
def sound(cS:P.follows .mixedOrders=true){tab:Ws}(cA:tab.Ok P)(n:Nat):yQ P (BE P tab n)/\yP P (BE P tab n):=by
 induction n with
 |zero=>exact⟨(fun nt c ac _ fr h e ae h' hx=>by cases hx),(fun f args h v h' hx=>by cases hx)⟩
 |succ n ih=>exact⟨zJO ih.1 ih.2 (zLL cS (zPG cA.grow n) ih.1 ih.2),zKS ih.1 ih.2 cA.code cA.stub⟩
end
section
variable {P:Program}{B:Nat}{σ:Nat->Option Pl}{h h':WA}{w:World}
def zPL(cS:P.follows .mixedOrders=true){tab:Ws}(cA:tab.Ok P){n:Nat}{f:FuncId}{args:List Value}{as:Array Value}{v:Value}
  (hx:(BE P tab n).call f args h=some (v,h')) (hr:Wd P B σ h w) (hl:WQ σ args as.toList):
  Calls P f as w fun e w'=>∃ σ' cv,e=.returned cv/\WI σ' v cv/\W2 P B σ h w σ' h' w':=by
 intro cs;obtain⟨_,h2⟩:=(sound cS cA n).2 f args h v h' hx;obtain⟨σ',w',cv,e1,e2,e3⟩:=h2 B σ w hr as hl .normal (.inl rfl);obtain⟨ae,e4,e5⟩:=e3 cs (.inl rfl);exact⟨.returned cv,w',ae,⟨σ',cv,rfl,e2,e1⟩,e4,e5.fn,e5.mode,e5.defers,e5.kind,by
  obtain⟨fn,q1,q2⟩:=e5.results;exact⟨fn,by rw[e5.fn];exact q1,q2⟩⟩
def zNn(cS:P.follows .mixedOrders=true){tab:Ws}(cA:tab.Ok P){n:Nat}{f:FuncId}{args:List Value}{as:Array Value}
  (hx:((BE P tab n).call f args h).map (·.1)=some (.bool true)) (hr:Wd P B σ h w) (hl:WQ σ args as.toList):
  Calls P f as w fun e w'=>e=.returned (.bool true)/\Below B w w':=by
 cases hc:(BE P tab n).call f args h with
 |none=>simp[hc]at hx
 |some p=>
  obtain⟨v,h'⟩:=p;simp only[hc,QL,QA]at hx;subst hx;exact Calls.mono (zPL cS cA hc hr hl) fun e w' ⟨σ',cv,e1,e2,e3⟩=>by
   cases e2;exact⟨e1,e3.below hr⟩
end
section
variable {P:Program}{w:World}
def s0(P:Program)(w:World):Nat->Option Pl:=fun g=>if g<P.globals.size then some ⟨g,0,match w.heap[g]? with|some (.cells c _ _)=>c.size|_=>0⟩else none
def zS8(n:Nat):WA:={n:=n,tab:= .leaf,mark:=0,wr:=[]}
def zMY(P:Program):Ws:=⟨zGJ P,fun _=>none⟩
def zK6(P:Program):(zMY P).Ok P:=⟨fun _ _ h=>h,(fun f s h=>by cases h),(fun f s h=>by cases h)⟩
def hrel0(hg:P.globals.size<=w.heap.size):Wd P w.heap.size (s0 P w) (zS8 P.globals.size) w:=by
 refine⟨fun g h=>⟨⟨g,0,match w.heap[g]? with|some (.cells c _ _)=>c.size|_=>0⟩,QJ h,rfl,rfl⟩,fun g pl hp=> ?_,fun g o hg=> ?_,fun g o g' o' pl bW hg=> ?_,QF _⟩
 ·unfold s0 at hp;split at hp
  ·cases hp;exact⟨by assumption,by show g<w.heap.size;omega⟩
  ·cases hp
 ·cases hg
 ·cases hg
end
end Go.Am
