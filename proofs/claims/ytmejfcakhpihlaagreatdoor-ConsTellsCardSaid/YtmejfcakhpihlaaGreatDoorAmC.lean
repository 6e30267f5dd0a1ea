/- A part of the machine and of its soundness; proves no statement. -/
import Derived.Test.YtmejfcakhpihlaaGreatDoorAmB
import Derived.Orders
set_option linter.all false
namespace Go.Am
structure Wk(m:Nat)(h h':WA):Prop where
 n:h.n<=h'.n
 gone:∀ g,g<m->h.get g=none->h'.get g=none
 mark:h'.mark=h.mark
 wr:∀ g,g∈h.wr->g∈h'.wr
 log:∀ g,g<h.mark->g<m->g∉h'.wr->h'.get g=h.get g
 notown:∀ g o,h'.get g=some o->zCO o=false->h.get g=some o
 wf:(∀ g,h.n<=g->h.get g=none)->∀ g,h'.n<=g->h'.get g=none
theorem Wk.refl(m:Nat)(h:WA):Wk m h h:=⟨QE _,fun _ _ x=>x,rfl,fun _ x=>x,fun _ _ _ _=>rfl,fun _ _ x _=>x,fun x=>x⟩
theorem Wk.le{m m':Nat}{h h':WA}(x:Wk m h h')(hm:m'<=m):Wk m' h h':=
 ⟨x.n,fun g hg=>x.gone g (QI hg hm),x.mark,x.wr,fun g h1 h2=>x.log g h1 (QI h2 hm),x.notown,x.wf⟩
theorem Wk.trans{m:Nat}{h h' ku:WA}(x:Wk m h h')(y:Wk m h' ku):Wk m h ku:=
 ⟨QP x.n y.n,fun g hg e=>y.gone g hg (x.gone g hg e),y.mark.trans x.mark,fun g e=>y.wr g (x.wr g e),
  fun g h1 h2 h3=>(y.log g (by rw[x.mark];exact h1) h2 h3).trans (x.log g h1 h2 fun e=>h3 (y.wr g e)),fun g o e k=>x.notown g o (y.notown g o e k) k,fun e=>y.wf (x.wf e)⟩
theorem Wk.on{h h' ku:WA}(x:Wk h.n h h')(y:Wk h'.n h' ku):Wk h.n h ku:=x.trans (y.le x.n)
theorem Yg(h:WA){o:Ws}(ho:zCO o=true):Wk h.n h (h.push o):=by
 refine⟨Qr _,fun g hg e=> ?_,rfl,fun _ x=>x,fun g _ hg _=> ?_,fun g o' e k=> ?_,fun e g hg=> ?_⟩
 ·rw[zS,QC (Nat.ne_of_lt hg)];exact e
 ·rw[zS,QC (Nat.ne_of_lt hg)]
 ·rw[zS]at e;split at e
  ·cases e;rw[ho]at k;cases k
  ·exact e
 ·have:h.n+1<=g:=hg;rw[zS,QC (by omega)];exact e g (by omega)
theorem zG4{h:WA}{g k:Nat}(hk:k∈h.wr):k∈h.log g:=by
 unfold WA.log;cases Nat.ble h.mark g<;>simp[hk]
theorem zBB{h:WA}{g:Nat}(hg:g<h.mark):g∈h.log g:=by
 unfold WA.log;have:Nat.ble h.mark g=false:=by
  cases hb:Nat.ble h.mark g with
  |false=>rfl
  |true=>have:=QS hb;omega
 simp[this]
theorem Z8(h:WA){g:Nat}{o o':Ws}(hg:h.get g=some o')(ho:zCO o=true)(m:Nat):Wk m h (h.set g o):=by
 refine⟨QE _,fun k _ e=> ?_,rfl,fun k hk=>zG4 hk,fun k h1 _ h3=> ?_,fun k o2 e q=> ?_,fun e k hk=> ?_⟩
 ·rw[zg];split
  ·rename_i e';subst e';rw[hg]at e;cases e
  ·exact e
 ·rw[zg];split
  ·rename_i e';subst e';exact absurd (zBB h1) h3
  ·rfl
 ·rw[zg]at e;split at e
  ·cases e;rw[ho]at q;cases q
  ·exact e
 ·have hk:h.n<=k:=hk;rw[zg];split
  ·rename_i e';subst e';rw[e k hk]at hg;cases hg
  ·exact e k hk
theorem zL4(h:WA)(g m:Nat):Wk m h (h.kill g):=by
 refine⟨QE _,fun k _ e=> ?_,rfl,fun k hk=>zG4 hk,fun k h1 _ h3=> ?_,fun k o2 e q=> ?_,fun e k hk=> ?_⟩
 ·rw[yt];split
  ·rfl
  ·exact e
 ·rw[yt];split
  ·rename_i e';subst e';exact absurd (zBB h1) h3
  ·rfl
 ·rw[yt]at e;split at e
  ·cases e
  ·exact e
 ·rw[yt];split
  ·rfl
  ·exact e k hk
theorem ZX(h:WA)(k:Nat)(o:Ws)(g:Nat):(h.lay k o).get g=if g=k then some o else h.get g:=zT _ _ _ _
theorem zMS(h:WA){g m:Nat}{o:Ws}(hg:m<=g)(hn:g<h.n)(ho:zCO o=true):Wk m h (h.lay g o):=by
 refine⟨QE _,fun k hk e=> ?_,rfl,fun k hk=>zG4 hk,fun k h1 hk h3=> ?_,fun k o2 e q=> ?_,fun e k hk=> ?_⟩
 ·rw[ZX,QC (by omega)];exact e
 ·rw[ZX,QC (by omega)]
 ·rw[ZX]at e;split at e
  ·cases e;rw[ho]at q;cases q
  ·exact e
 ·have hk:h.n<=k:=hk;rw[ZX,QC (by omega)];exact e k hk
def Zf(ih:Ex):Prop:=(∀ c fr h e af h',ih.exec c fr h=some (e,af,h')->Wk h.n h h')/\∀ f args h v h',ih.call f args h=some (v,h')->Wk h.n h h'
theorem zBc{h h':WA}{a:Addr}{vs:List Value}(hx:zr h a vs=some h'):Wk h.n h h':=by
 unfold zr at hx;split at hx
 ·rename_i cells lo hg;simp only[GI]at hx;split at hx
  ·cases hx;exact Z8 h hg rfl _
  ·cases hx
 ·cases hx
theorem zGX{c:Nat}{s x v:Value}{h h':WA}(hx:yb c s x h=some (v,h')):Wk h.n h h':=by
 have hm:∀ {y ys n},some (mk h (y::ys) n c)=some (v,h')->Wk h.n h h':=fun {y ys n} e=>by
  simp only[mk,QA,QD]at e;obtain⟨rfl,rfl⟩:=e;exact Yg h rfl
 unfold yb at hx;simp only[GI]at hx;repeat' split at hx
 all_goals first
  |(cases hx;done)
  |exact hm hx
  |(simp only[QA,QD]at hx
    obtain⟨rfl,rfl⟩:=hx
    first
     |exact Wk.refl _ _
     |exact Wk.on (zL4 h _ _) (Yg _ rfl))
theorem zFf{l:Nat}{r:W4}{h h':WA}{e:WP}{v:Value}(hl:h.get l=some (.loop r))(hx:Z7 l r h e=(v,h')):Wk h.n h h':=by
 cases e<;>(
  simp only[Z7,QD]at hx
  obtain⟨rfl,rfl⟩:=hx
  exact Z8 h hl rfl _)
theorem zIg{ih:Ex}(hi:Zf ih){l:Nat}{r:W4}{args:List Value}{h h':WA}{v:Value}(hx:zDf ih l r args h=some (v,h')):Wk h.n h h':=by
 unfold zDf at hx;split at hx
 ·rename_i bB h1 se;split at hx
  ·rename_i r1 eD;have aX:r1.state=.ready:=by
    cases hs:r1.state<;>first|rfl|(rw[hs]at hx;cases hx)
   rw[aX]at hx;dsimp only[cond_true]at hx;split at hx
   ·rename_i e lr h2 sh;split at hx
    ·rename_i r2 _ df;have g1:=hi.1 _ _ _ _ _ _ se;have g2:=Z8 h1 (o:= .loop {r1 with state:= .busy}) eD rfl h1.n;have g3:=hi.1 _ _ _ _ _ _ sh;have g4:Wk h2.n h2 h':=by
      simp only[QA]at hx;exact zFf df hx
     exact((g1.on g2).on g3).on g4
    ·cases hx
   ·cases hx
  ·cases hx
 ·cases hx
theorem zE5{ih:Ex}(hi:Zf ih){f:Value}{args:List Value}{h h':WA}{v:Value}(hx:zBZ ih f args h=some (v,h')):Wk h.n h h':=by
 unfold zBZ at hx;split at hx
 ·exact hi.2 _ _ _ _ _ hx
 ·split at hx
  ·simp only[GI]at hx;split at hx
   ·exact zIg hi hx
   ·cases hx
  ·cases hx
 ·cases hx
theorem zHA{P:Program}{ih:Ex}(hi:Zf ih){name:String}{x:Value}{args:List Value}{h h':WA}{v:Value}(hx:zAw P ih name x args h=some (v,h')):Wk h.n h h':=by
 unfold zAw at hx;split at hx
 ·split at hx
  ·exact hi.2 _ _ _ _ _ hx
  ·cases hx
 ·simp only[GI]at hx;repeat' split at hx
  all_goals first
   |(cases hx;done)
   |(simp only[QQ,QD]at hx
     obtain⟨_,_,_,rfl⟩:=hx
     exact Wk.refl _ _)
theorem zGM{x v:Value}{h h':WA}(hx:zBn x h=some (v,h')\/zCi x h=some (v,h')):Wk h.n h h':=by
 rcases hx with hx|hx
 ·unfold zBn at hx;split at hx
  ·cases hx;exact Yg h rfl
  ·cases hx
 ·unfold zCi at hx;simp only[GI]at hx;repeat' split at hx
  all_goals first
   |(cases hx;done)
   |(simp only[QA,QD]at hx
     obtain⟨rfl,rfl⟩:=hx
     first
      |exact Wk.refl _ _
      |exact Z8 h (by assumption) rfl _)
theorem zGx{c:Nat}{z:List Value}{x v:Value}{h h':WA}(hx:zBy c z x h=some (v,h')):Wk h.n h h':=by
 unfold zBy at hx;simp only[GI]at hx;repeat' split at hx
 all_goals first
  |(cases hx;done)
  |(cases hx;exact Wk.refl _ _)
  |(simp only[QQ,QD]at hx
    obtain⟨_,q,_,rfl⟩:=hx
    exact zBc q)
theorem zNc{P:Program}{ih:Ex}(hi:Zf ih){t:WG Value}{h h':WA}{op:Wx}{v:Value}(hx:WN P ih t h op=some (v,h')):Wk h.n h h':=by
 cases op with
 |store n a x=>
  simp only[WN,GI]at hx;repeat' split at hx
  all_goals first
   |(cases hx;done)
   |(simp only[QQ,QD]at hx;obtain⟨h1,hs,_,rfl⟩:=hx;exact zBc hs)
 |append c s x=>exact zGX hx
 |copy c d s=>
  simp only[WN,GI]at hx;repeat' split at hx
  all_goals first
   |(cases hx;done)
   |(cases hx;exact Wk.refl _ _)
   |(simp only[QQ,QD]at hx;obtain⟨h1,hs,_,rfl⟩:=hx;exact zBc hs)
 |call f args=>exact zE5 hi hx
 |invoke x n args=>exact zHA hi hx
 |rangeStr x=>exact zGM (.inl hx)
 |nextStr x=>exact zGM (.inr hx)
 |clearS c z x=>exact zGx hx
 |update m k v0=>
  simp only[WN]at hx;repeat' split at hx
  all_goals first
   |(cases hx;done)
   |(simp only[QA,QD]at hx
     obtain⟨rfl,rfl⟩:=hx
     exact Z8 h (by assumption) rfl _)
 |delete m k=>
  simp only[WN]at hx;repeat' split at hx
  all_goals first
   |(cases hx;done)
   |(simp only[QA,QD]at hx
     obtain⟨rfl,rfl⟩:=hx
     exact Z8 h (by assumption) rfl _)
 |clear m=>
  simp only[WN]at hx;repeat' split at hx
  all_goals first
   |(cases hx;done)
   |(simp only[QA,QD]at hx
     obtain⟨rfl,rfl⟩:=hx
     exact Z8 h (by assumption) rfl _)
 |_=>
  simp only[WN,GI,mk]at hx;repeat' split at hx
  all_goals first
   |(cases hx;done)
   |(cases hx;exact Wk.refl _ _)
   |(cases hx;exact Yg h rfl)
   |(simp only[QQ,QD]at hx
     obtain⟨_,_,_,rfl⟩:=hx
     first
      |exact Wk.refl _ _
      |exact Yg h rfl)
theorem ZG{α:Type}{b:Bool}{x:Option α}{y:α}(h:(bif b then x else none)=some y):b=true/\x=some y:=by
 cases b with
 |false=>cases h
 |true=>exact⟨rfl,h⟩
section
variable {P:Program}{ih:Ex}
theorem zII(hi:Zf ih){t:WG Value}{rd:Option Nat}{h h':WA}{op:Wx}{v:Value}{ds:List Deferred}(hx:yP P ih t rd h op=some (v,ds,h')):Wk h.n h h':=by
 unfold yP at hx;split at hx
 ·split at hx
  ·cases hx;exact Wk.refl _ _
  ·cases hx
 ·split at hx
  ·cases hx;exact Wk.refl _ _
  ·cases hx
 ·split at hx
  ·cases hx;exact Wk.refl _ _
  ·cases hx
 ·cases ha:WN P ih t h op with
  |none=>simp[ha]at hx
  |some p=>
   obtain⟨v0,h0⟩:=p;simp only[ha,QA,QD]at hx;obtain⟨rfl,rfl,rfl⟩:=hx;exact zNc hi ha
theorem Yb(hi:Zf ih){o:WF}{fr af:WR}{h h':WA}(hx:yU P ih o fr h=some (af,h')):Wk h.n h h':=by
 unfold yU at hx;cases hw:zV fr.tm o.guard with
 |false=>
  simp only[hw,QU,QA,QD]at hx;obtain⟨_,rfl⟩:=hx;exact Wk.refl _ _
 |true=>
  simp only[hw,cond_true]at hx;cases hv:yP P ih fr.tm fr.round h o.op with
  |none=>simp[hv]at hx
  |some p=>
   obtain⟨v,ds,h1⟩:=p;simp only[hv,QA,QD]at hx;obtain⟨_,rfl⟩:=hx;exact zII hi hv
theorem zHp(hi:Zf ih):∀ {l:List WF} {fr af:WR} {h h':WA},ZA P ih l fr h=some (af,h')->Wk h.n h h':=by
 intro l;induction l with
 |nil=>intro fr af h h' hx;simp only[ZA,QA,QD]at hx;obtain⟨_,rfl⟩:=hx;exact Wk.refl _ _
 |cons o l cI=>
  intro fr af h h' hx;simp only[ZA]at hx;cases ho:yU P ih o fr h with
  |none=>simp[ho]at hx
  |some p=>
   obtain⟨bB,h1⟩:=p;simp only[ho]at hx;exact(Yb hi ho).on (cI hx)
theorem zFp{t:WG Value}{op:Wx}{o:Ws}{f:Nat->Value}(hx:yi t op=some (o,f)):zCO o=true:=by
 unfold yi at hx;simp only[GI]at hx;repeat' split at hx
 all_goals first
  |(cases hx;done)
  |(cases hx;rfl)
  |(simp only[QQ,QD]at hx;obtain⟨_,_,rfl,_⟩:=hx;rfl)
theorem zHw(hi:Zf ih){g m:Nat}{o:WF}{fr af:WR}{h h':WA}(hm:m<=h.n)(hg:zI o.op=3->m<=g/\g<h.n)(hx:yT P ih g o fr h=some (af,h')):Wk m h h':=by
 unfold yT at hx;cases hk:Nat.beq (zI o.op) 3 with
 |false=>
  simp only[hk,QU]at hx;exact(Yb hi hx).le hm
 |true=>
  simp only[hk,cond_true]at hx;obtain⟨h1,h2⟩:=hg (QO hk);cases hw:zV fr.tm o.guard with
  |false=>
   simp only[hw,QU,QA,QD]at hx;obtain⟨_,rfl⟩:=hx;exact Wk.refl _ _
  |true=>
   simp only[hw,cond_true]at hx;cases hv:yi fr.tm o.op with
   |none=>simp[hv]at hx
   |some p=>
    obtain⟨ob,f⟩:=p;simp only[hv,QA,QD]at hx;obtain⟨_,rfl⟩:=hx;exact zMS h h1 h2 (zFp hv)
theorem zQj:∀ {a b:Value},eqV a b=true->a=b:=by
 intro a b h;have addr:∀ {x y:Addr},x.block=y.block->x.off=y.off->x.spot=none->y.spot=none->x=y:=by
  intro x y h1 h2 h3 h4;cases x;cases y;simp_all
 unfold eqV at h;split at h<;>first|(cases h;done)|skip
 all_goals try simp only[QN,Qd,beq_iff_eq,Option.isNone_iff_eq_none]at h
 ·obtain⟨rfl,rfl⟩:=h;rfl
 ·rw[h]
 ·rw[QO h.1,QO h.2]
 ·obtain⟨⟨⟨⟨⟨h1,h2⟩,h3⟩,h4⟩,h5⟩,h6⟩:=h;rw[addr (QO h1) (QO h2) h3 h4,QO h5,QO h6]
 ·rfl
 ·obtain⟨⟨⟨h1,h2⟩,h3⟩,h4⟩:=h;rw[addr (QO h1) (QO h2) h3 h4]
 ·rfl
 ·rw[QO h]
theorem zKH:∀ {l m:List Value},zOU l m=true->l=m
 |[],[],_=>rfl
 |a::l,b::m,h=>by
  simp only[zOU,QN]at h;rw[zQj h.1,zKH h.2]
def zGW(h:WA)(g:Nat)(vw:Option (Nat×Nat×List Value)):Prop:=∃ off n cells,vw=some (off,n,cells)/\((yj h g).bind fun row=>cut row off n)=some cells
theorem zPP{h:WA}{g:Nat}{vw:Option (Nat×Nat×List Value)}(hs:zCh h g vw=true):zGW h g vw:=by
 unfold zCh at hs;split at hs
 ·rename_i off n cells;split at hs
  ·rename_i c hc;exact⟨off,n,cells,rfl,by rw[hc,zKH hs]⟩
  ·cases hs
 ·cases hs
structure Tr(P:Program)(ih:Ex)(l:List (WF×List Nat))(i:Nat)(FR:Nat->WR)(H:Nat->WA)(G:Nat->Nat):Prop where
 step:∀ k x,l[k]?=some x->yT P ih (G k) x.1 (FR k) {H k with mark:=(H k).n,wr:=[]}=some (FR (k+1),H (k+1))
 next:∀ k x,l[k]?=some x->G (k+1)=bif Nat.beq (zI x.1.op) 3 then G k+1 else G k
 read:∀ k x g k2,l[k]?=some x->zl (FR k).tm x.1=some g->k2<k->(i+k2)∈x.2->g<(H k2).n/\g∉(H (k2+1)).wr
 write:∀ k x k2 x2 g,l[k]?=some x->k2<k->l[k2]?=some x2->zl (FR k2).tm x2.1=some g->(i+k2)∈x.2->g∉(H (k+1)).wr\/zGW (H (k+1)) g (zAL (FR k2).tm (H k2) x2.1.op)
theorem zP2:∀ {l:List (WF×List Nat)} {i g:Nat} {ws:List (Nat×Nat)} {rs:List (Nat×Nat×Option (Nat×Nat×List Value))} {bs cj:List (Nat×Nat)} {fr af:WR} {h h':WA},yH P ih l i g ws rs bs fr h=some (af,h',cj)->
  ∃ FR H G,FR 0=fr/\H 0=h/\G 0=g/\FR l.length=af/\H l.length=h'/\Tr P ih l i FR H G/\
   (∀ k x g,l[k]?=some x->zl (FR k).tm x.1=some g->(∀ j g',(j,g')∈ws->j∈x.2->g≠g')/\∀ j n,(j,n)∈bs->j∈x.2->g<n)/\
   (∀ k x j g vw,l[k]?=some x->(j,g,vw)∈rs->j∈x.2->g∉(H (k+1)).wr\/zGW (H (k+1)) g vw)/\
   (∀ e,e∈ws->e∈cj)/\∀ k,k<l.length->∀ g,g∈(H (k+1)).wr->∃ j,(j,g)∈cj:=by
 intro l;induction l with
 |nil=>
  intro i g ws rs bs cj fr af h h' hx;simp only[yH,QA,QD]at hx;obtain⟨rfl,rfl,rfl⟩:=hx;exact⟨fun _=>fr,fun _=>h,fun _=>g,rfl,rfl,rfl,rfl,rfl,⟨fun k x e=>by simp at e,fun k x e=>by simp at e,fun k x g k2 e=>by simp at e,fun k x k2 x2 g e=>by simp at e⟩,
   fun k x g e=>by simp at e,fun k x j g vw e=>by simp at e,fun e x=>x,fun k hk=>by simp at hk⟩
 |cons y l cI=>
  intro i g ws rs bs cj fr af h h' hx;obtain⟨o,un⟩:=y;simp only[yH]at hx;cases ho:yT P ih g o fr {h with mark:=h.n,wr:=[]} with
  |none=>simp[ho]at hx
  |some p=>
  obtain⟨bB,h1⟩:=p;simp only[ho]at hx;obtain⟨a8,hx⟩:=ZG hx;rw[QN]at a8;obtain⟨pg,Ep⟩:=a8;obtain⟨FR,H,G,f0,f1,f2,f3,f4,tr,f5,f6,f7,f8⟩:=cI hx;have sC:∀ g0,zl fr.tm o=some g0->(∀ j g',(j,g')∈ws->j∈un->g0≠g')/\∀ j n,(j,n)∈bs->j∈un->g0<n:=by
   intro g0 cR;rw[cR]at pg;simp only[QN,QX]at pg;refine⟨fun j g' hm hj e=> ?_,fun j n hm hj=> ?_⟩
   ·have:=pg.1 _ hm;subst e;simp[hj]at this
   ·have:=pg.2 _ hm;simp[hj]at this;omega
  have Er:∀ j g0 vw,(j,g0,vw)∈rs->j∈un->g0∉h1.wr\/zGW h1 g0 vw:=by
   intro j g0 vw hm hj;by_cases hw:g0∈h1.wr
   ·have:=QX.1 Ep _ hm;simp[hj,hw]at this;exact .inr (zPP this)
   ·exact .inl hw
  refine⟨fun k=>match k with|0=>fr|k+1=>FR k,fun k=>match k with|0=>h|k+1=>H k,fun k=>match k with|0=>g|k+1=>G k,rfl,rfl,rfl,f3,f4,⟨?_,?_,?_,?_⟩,?_,?_,?_,?_⟩
  ·intro k x e;cases k with
   |zero=>
    simp only[Gd,QA]at e;subst e;simp only[f0,f1];exact ho
   |succ k=>exact tr.step k x (by simpa using e)
  ·intro k x e;cases k with
   |zero=>
    simp only[Gd,QA]at e;subst e;simp only[f2,GI]
   |succ k=>exact tr.next k x (by simpa using e)
  ·intro k x g0 k2 e cR aL hj;cases k with
   |zero=>omega
   |succ k=>
    have e':l[k]?=some x:=by simpa using e
    cases k2 with
    |zero=>
     have hq:=f5 k x g0 e' cR;refine⟨hq.2 i h.n (Qj ..) (by simpa using hj),fun hw=> ?_⟩;simp only[f1]at hw;exact hq.1 i g0 (GX _ (Qw.2 ⟨g0,hw,rfl⟩)) (by simpa using hj) rfl
    |succ k2=>exact tr.read k x g0 k2 e' cR (by omega) (by rw[show i+1+k2=i+(k2+1) by omega];exact hj)
  ·intro k x k2 x2 g0 e aL e2 cR hj;cases k with
   |zero=>omega
   |succ k=>
    have e':l[k]?=some x:=by simpa using e
    cases k2 with
    |zero=>
     simp only[Gd,QA]at e2;subst e2;simp only at cR;refine f6 k x i g0 _ e' ?_ (by simpa using hj);rw[cR];exact Qj ..
    |succ k2=>exact tr.write k x k2 x2 g0 e' (by omega) (by simpa using e2) cR (by rw[show i+1+k2=i+(k2+1) by omega];exact hj)
  ·intro k x g0 e cR;cases k with
   |zero=>
    simp only[Gd,QA]at e;subst e;exact sC g0 cR
   |succ k=>
    have hq:=f5 k x g0 (by simpa using e) cR;exact⟨fun j g' hm=>hq.1 j g' (GT _ hm),fun j n hm=>hq.2 j n (Qu _ hm)⟩
  ·intro k x j g0 vw e hm hj;cases k with
   |zero=>
    simp only[Gd,QA]at e;subst e;simp only[f1];exact Er j g0 vw hm hj
   |succ k=>
    refine f6 k x j g0 vw (by simpa using e) ?_ hj;split
    ·exact Qu _ hm
    ·exact hm
  ·intro e he;exact f7 e (GT _ he)
  ·intro k hk g0 hw;cases k with
   |zero=>
    simp only[f1]at hw;exact⟨i,f7 _ (GX _ (Qw.2 ⟨g0,hw,rfl⟩))⟩
   |succ k=>exact f8 k (by simpa using hk) g0 hw
end
section
variable {P:Program}{ih:Ex}
def cnt(l:List (WF×List Nat)):Nat:=(l.filter fun x=>Nat.beq (zI x.1.op) 3).length
theorem zHn(l:List (WF×List Nat))(k:Nat):cnt (l.take k)<=cnt l:=((List.take_sublist k l).filter _).length_le
theorem Tr.count{l:List (WF×List Nat)}{i:Nat}{FR:Nat->WR}{H:Nat->WA}{G:Nat->Nat}(tr:Tr P ih l i FR H G):∀ k,k<=l.length->G k=G 0+cnt (l.take k):=by
 intro k;induction k with
 |zero=>intro _;simp[cnt]
 |succ k iw=>
  intro hk;have aL:k<l.length:=hk;have e:l[k]?=some l[k]:=QB aL;rw[tr.next k _ e,Q1,e];simp only[Option.toList_some,cnt,List.filter_append,QM];rw[iw (by omega)];simp only[cnt];cases hb:Nat.beq (zI l[k].1.op) 3 with
  |false=>simp[List.filter_cons,hb]
  |true=>simp[List.filter_cons,hb];omega
theorem Tr.below{l:List (WF×List Nat)}{i:Nat}{FR:Nat->WR}{H:Nat->WA}{G:Nat->Nat}(tr:Tr P ih l i FR H G){k:Nat}{x:WF×List Nat}(e:l[k]?=some x)(h3:zI x.1.op=3):G 0<=G k/\G k<G 0+cnt l:=by
 have hk:k<l.length:=(QR.1 e).1;have h1:=tr.count k (by omega);have h2:=tr.count (k+1) hk;have h4:=tr.next k x e;rw[h3]at h4;have hb:Nat.beq 3 3=true:=rfl;simp only[hb,cond_true]at h4;have:=zHn l (k+1);omega
theorem Tr.grow{l:List (WF×List Nat)}{i:Nat}{FR:Nat->WR}{H:Nat->WA}{G:Nat->Nat}(tr:Tr P ih l i FR H G)(hi:Zf ih){m:Nat}(hm:m<=G 0)(hg:G 0+cnt l<=(H 0).n):
  ∀ k,(k<=l.length->(H 0).n<=(H k).n)/\(k<l.length->Wk m {H k with mark:=(H k).n,wr:=[]} (H (k+1))):=by
 have step:∀ k,k<l.length->(H 0).n<=(H k).n->Wk m {H k with mark:=(H k).n,wr:=[]} (H (k+1)):=fun k hk hn=>by
  have e:l[k]?=some l[k]:=QB hk;refine zHw hi (by show m<=(H k).n;omega) (fun h3=> ?_) (tr.step k _ e);have:=tr.below e h3;exact⟨by omega,by show G k<(H k).n;omega⟩
 intro k;induction k with
 |zero=>exact⟨fun _=>QE _,fun hk=>step 0 hk (QE _)⟩
 |succ k iw=>
  have hn:k+1<=l.length->(H 0).n<=(H (k+1)).n:=fun hk=>by
   have h1:=iw.1 (by omega);have h2:(H k).n<=(H (k+1)).n:=(iw.2 hk).n;omega
  exact⟨hn,fun hk=>step _ hk (hn (by omega))⟩
theorem zGh(hi:Zf ih){l:List (WF×List Nat)}{fr af:WR}{h h':WA}(hx:Yo P ih l fr h=some (af,h')):Wk h.n h h':=by
 unfold Yo at hx;cases hc:yH P ih l 0 h.n [] [] [] fr {h with n:=h.n+(l.filter fun x=>Nat.beq (zI x.1.op) 3).length} with
 |none=>simp[hc]at hx
 |some p=>
 obtain⟨bB,h1,ws⟩:=p;simp only[hc,QA,QD]at hx;obtain⟨_,rfl⟩:=hx;obtain⟨FR,H,G,f0,f1,f2,f3,f4,tr,_,_,_,f8⟩:=zP2 hc;have kv:=tr.grow hi (m:=h.n) (by omega) (by rw[f1,f2];exact QE _);have bq:∀ (k g:Nat),({H k with mark:=(H k).n,wr:=[]}:WA).get g=(H k).get g:=fun _ _=>rfl;have h0:∀ g,(H 0).get g=h.get g:=fun g=>by rw[f1];rfl
 have kz:h.n<=(H 0).n:=by rw[f1];exact JB _ _
 subst f4;refine⟨?_,fun g hg e=> ?_,rfl,fun g hg=>GT _ hg,fun g h1 h2 h3=> ?_,fun g o e q=> ?_,fun e g hg=> ?_⟩
 ·have:=(kv l.length).1 (QE _);show h.n<=(H l.length).n;omega
 ·have:∀ k,k<=l.length->(H k).get g=none:=by
   intro k;induction k with
   |zero=>intro _;rw[h0];exact e
   |succ k iw=>intro hk;exact((kv k).2 hk).gone g hg (iw (by omega))
  exact this l.length (QE _)
 ·have bW:∀ k,k<l.length->g∉(H (k+1)).wr:=fun k hk hw=>by
   obtain⟨j,hj⟩:=f8 k hk g hw;apply h3;refine GX _ (Gs.2 ⟨Qw.2 ⟨_,hj,rfl⟩,?_⟩);have:Nat.ble h.mark g=false:=by
    cases hb:Nat.ble h.mark g with
    |false=>rfl
    |true=>have:=QS hb;omega
   simp[this]
  have:∀ k,k<=l.length->(H k).get g=h.get g:=by
   intro k;induction k with
   |zero=>intro _;exact h0 g
   |succ k iw=>
    intro hk;rw[<-iw (by omega)];refine((kv k).2 hk).log g ?_ h2 (bW k hk);have:=(kv k).1 (by omega);show g<(H k).n;omega
  exact this l.length (QE _)
 ·have:∀ k,k<=l.length->(H k).get g=some o->h.get g=some o:=by
   intro k;induction k with
   |zero=>intro _ e;rw[<-h0];exact e
   |succ k iw=>intro hk e;exact iw (by omega) (((kv k).2 hk).notown g o e q)
  exact this l.length (QE _) e
 ·have:∀ k,k<=l.length->∀ g,(H k).n<=g->(H k).get g=none:=by
   intro k;induction k with
   |zero=>
    intro _ g hg;rw[h0];exact e g (by omega)
   |succ k iw=>intro hk;exact((kv k).2 hk).wf (iw (by omega))
  exact this l.length (QE _) g hg
theorem zHc(hi:Zf ih):∀ (n:Nat) {b c:WY} {fr af:WR} {h h':WA} {e:WP},Ya ih n b c fr h=some (e,af,h')->Wk h.n h h':=by
 intro n;induction n with
 |zero=>intro b c fr af h h' e hx;simp[Ya]at hx
 |succ n nG=>
  intro b c fr af h h' e hx;simp only[Ya]at hx;cases he:ih.exec c fr h with
  |none=>simp[he]at hx
  |some p=>
   obtain⟨e0,cF,h0⟩:=p;have g0:=hi.1 _ _ _ _ _ _ he;rw[he]at hx;cases e0 with
   |goto l=>
    simp only at hx;cases hf:yW b l with
    |none=>simp only[hf,QA,QD]at hx;obtain⟨_,_,rfl⟩:=hx;exact g0
    |some rest=>simp only[hf]at hx;exact g0.on (nG hx)
   |_=>simp only[QA,QD]at hx;obtain⟨_,_,rfl⟩:=hx;exact g0
theorem zDt(hi:Zf ih){f:Value}{ps:List Nat}{a b:WY}{fr af:WR}{d:Nat}{mark:List Deferred}{h h':WA}{e:WP}(hx:zA0 ih f ps a b fr d mark h=some (e,af,h')):Wk h.n h h':=by
 unfold zA0 at hx;split at hx
 ·cases hx
 ·rename_i v0 h2 so;have g1:=Yg h (o:= .loop {state:= .ready,pending:=none,fn:=0,tm:=fr.tm,params:=ps,assign:=a,body:=b,defers:=d}) rfl;have g2:=zE5 hi so;split at hx
  ·rename_i r hl;have g3:=Z8 h2 (o:= .loop {r with state:= .exhausted}) hl rfl h2.n;have g4:=(g1.on g2).on g3;repeat' split at hx
   all_goals first
    |(cases hx;done)
    |(simp only[QA,QD]at hx;obtain⟨_,_,rfl⟩:=hx;exact g4)
  ·cases hx
theorem zHS(hi:Zf ih){f:Value}{ps:List Nat}{a b:WY}{fr af:WR}{h h':WA}{e:WP}(hx:zCU ih f ps a b fr h=some (e,af,h')):Wk h.n h h':=by
 unfold zCU at hx;split at hx
 ·exact(Yg h rfl).on (zDt hi hx)
 ·split at hx
  ·exact zDt hi hx
  ·cases hx
theorem zJb(hi:Zf ih){c:WY}{fr af:WR}{h h':WA}{e:WP}(hx:zv P ih c fr h=some (e,af,h')):Wk h.n h h':=by
 cases c with
 |region ops=>
  simp only[zv,QQ,QD]at hx;obtain⟨⟨bB,h1⟩,hx,_,_,rfl⟩:=hx;exact zHp hi hx
 |regionC ops=>
  simp only[zv,QQ,QD]at hx;obtain⟨⟨bB,h1⟩,hx,_,_,rfl⟩:=hx;exact zGh hi hx
 |seq a b=>
  simp only[zv]at hx;cases he:ih.exec a fr h with
  |none=>simp[he]at hx
  |some p=>
   obtain⟨e0,cF,h0⟩:=p;have g0:=hi.1 _ _ _ _ _ _ he;rw[he]at hx;cases e0 with
   |normal=>exact g0.on (hi.1 _ _ _ _ _ _ hx)
   |_=>simp only[QA,QD]at hx;obtain⟨_,_,rfl⟩:=hx;exact g0
 |cond t a b=>
  simp only[zv]at hx;repeat' split at hx
  all_goals first
   |(cases hx;done)
   |exact hi.1 _ _ _ _ _ _ hx
 |block id b=>
  simp only[zv]at hx;cases he:ih.exec b fr h with
  |none=>simp[he]at hx
  |some p=>
   obtain⟨e0,cF,h0⟩:=p;have g0:=hi.1 _ _ _ _ _ _ he;rw[he]at hx;cases e0 with
   |exit js=>
    simp only at hx;split at hx<;>(simp only[QA,QD]at hx;obtain⟨_,_,rfl⟩:=hx;exact g0)
   |_=>simp only[QA,QD]at hx;obtain⟨_,_,rfl⟩:=hx;exact g0
 |loop b=>
  simp only[zv]at hx;cases he:ih.exec b fr h with
  |none=>simp[he]at hx
  |some p=>
   obtain⟨e0,cF,h0⟩:=p;have g0:=hi.1 _ _ _ _ _ _ he;rw[he]at hx;cases e0 with
   |normal=>exact g0.on (hi.1 _ _ _ _ _ _ hx)
   |_=>simp only[QA,QD]at hx;obtain⟨_,_,rfl⟩:=hx;exact g0
 |rangeFunc f ps a b=>exact zHS hi hx
 |scope b=>exact zHc hi _ hx
 |_=>simp only[zv,QA,QD]at hx;obtain⟨_,_,rfl⟩:=hx;exact Wk.refl _ _
theorem zGw(hi:Zf ih):∀ {ds:List Deferred} {h h':WA},ZY ih ds h=some h'->Wk h.n h h':=by
 intro ds;induction ds with
 |nil=>intro h h' hx;simp only[ZY,QA]at hx;subst hx;exact Wk.refl _ _
 |cons d ds sB=>
  intro h h' hx;simp only[ZY]at hx;split at hx
  ·split at hx
   ·rename_i hc;exact(hi.2 _ _ _ _ _ hc).on (sB hx)
   ·cases hx
  ·split at hx
   ·split at hx
    ·rename_i hg;exact(Z8 h hg rfl h.n).on (sB hx)
    ·cases hx
   ·cases hx
  ·split at hx
   ·rename_i hg;exact(Z8 h hg rfl h.n).on (sB hx)
   ·cases hx
  ·cases hx
theorem zJE(hi:Zf ih){tab:FuncId->Option B3}{f:FuncId}{args:List Value}{h h':WA}{v:Value}(hx:zDy P tab ih f args h=some (v,h')):Wk h.n h h':=by
 unfold zDy at hx;split at hx
 ·cases hx
 ·split at hx
  ·rename_i e bB h1 he;obtain⟨_,hx⟩:=ZG hx;split at hx
   ·cases hx
   ·rename_i h2 hd;split at hx
    ·cases hx
    ·simp only[QA,QD]at hx;obtain⟨_,rfl⟩:=hx;exact(hi.1 _ _ _ _ _ _ he).on (zGw hi hd)
  ·cases hx
theorem zIi(hi:Zf ih){tab:Wy}(aX:∀ f s,tab.stub f=some s->∀ args h v h',s args h=some (v,h')->Wk h.n h h'){f:FuncId}{args:List Value}{h h':WA}{v:Value}
  (hx:zDF P tab ih f args h=some (v,h')):Wk h.n h h':=by
 unfold zDF at hx;split at hx
 ·exact aX _ _ (by assumption) _ _ _ _ hx
 ·exact zJE hi hx
theorem zL8{tab:Wy}(aX:∀ f s,tab.stub f=some s->∀ args h v h',s args h=some (v,h')->Wk h.n h h'):∀ n,Zf (BI P tab n):=by
 intro n;induction n with
 |zero=>exact⟨(fun c fr h e af h' hx=>by cases hx),(fun f args h v h' hx=>by cases hx)⟩
 |succ n nG=>exact⟨fun c fr h e af h' hx=>zJb nG hx,fun f args h v h' hx=>zIi (P:=P) nG aX hx⟩
end
section
variable {P:Program}{ih:Ex}
theorem YD{t t2:WG Value}{o:Option Operand}(hx:∀ x∈zEg o,ev t x=ev t2 x):Bx t o=Bx t2 o:=by
 cases o with
 |none=>rfl
 |some x=>simp only[Bx,hx x (by simp[zEg])]
theorem Y0{t t2:WG Value}{l:List Operand}(hx:∀ x∈l,ev t x=ev t2 x):l.map (ev t)=l.map (ev t2):=Gp hx
theorem zBe{t t2:WG Value}{l:List (Nat×Nat×Operand)}(hx:∀ x∈l.map (·.2.2),ev t x=ev t2 x):zu t l=zu t2 l:=by
 unfold zu;refine Gp fun p hp=> ?_;obtain⟨a,b,x⟩:=p;simp only[hx x (Qw.2 ⟨_,hp,rfl⟩)]
theorem zGE{t t2:WG Value}{h:WA}{op:Wx}(hx:∀ x∈zFa op,ev t x=ev t2 x):WN P ih t h op=WN P ih t2 h op:=by
 cases op with
 |build z ps=>simp only[WN,zBe hx]
 |buildSlice l c z ps=>simp only[WN,zBe hx]
 |slice c x lo hi mx=>
  simp only[zFa,GG,Qs]at hx;simp only[WN,hx x (.inl rfl),YD (o:=lo) fun y hy=>hx y (.inr (.inl (.inl hy))),YD (o:=hi) fun y hy=>hx y (.inr (.inl (.inr hy))),YD (o:=mx) fun y hy=>hx y (.inr (.inr hy))]
 |sliceArr n c x lo hi mx=>
  simp only[zFa,GG,Qs]at hx;simp only[WN,hx x (.inl rfl),YD (o:=lo) fun y hy=>hx y (.inr (.inl (.inl hy))),YD (o:=hi) fun y hy=>hx y (.inr (.inl (.inr hy)))]
 |sliceStr x lo hi=>
  simp only[zFa,GG,Qs]at hx;simp only[WN,hx x (.inl rfl),YD (o:=lo) fun y hy=>hx y (.inr (.inl hy)),YD (o:=hi) fun y hy=>hx y (.inr (.inr hy))]
 |maxmin m xs=>
  cases xs with
  |nil=>rfl
  |cons x r=>simp only[WN,hx x (Qj ..),Y0 fun y hy=>hx y (Qu _ hy)]
 |mkFunc fn a b=>simp only[WN,Y0 (l:=a) fun y hy=>hx y (GX _ hy),Y0 (l:=b) fun y hy=>hx y (GT _ hy)]
 |call f args=>simp only[WN,hx f (Qj ..),Y0 fun y hy=>hx y (Qu _ hy)]
 |dfr f args=>rfl
 |dfrClear _ _ _ _=>rfl
 |invoke x n args=>simp only[WN,hx x (Qj ..),Y0 fun y hy=>hx y (Qu _ hy)]
 |_=>
  simp only[zFa,GG,List.not_mem_nil,or_false,forall_eq_or_imp,forall_eq]at hx;simp only[WN,hx]
theorem zHK{t t2:WG Value}{rd:Option Nat}{h:WA}{op:Wx}(hx:∀ x∈zFa op,ev t x=ev t2 x):yP P ih t rd h op=yP P ih t2 rd h op:=by
 cases op with
 |dfr f args=>simp only[yP,hx f (Qj ..),Y0 fun y hy=>hx y (Qu _ hy)]
 |dfrClear ty tp cs m=>simp only[yP,hx m (Qj ..)]
 |_=>simp only[yP,zGE hx]
theorem zIT{t t2:WG Value}{op:Wx}(hx:∀ x∈zFa op,ev t x=ev t2 x):yi t op=yi t2 op:=by
 cases op with
 |buildSlice l c z ps=>simp only[yi,zBe hx]
 |box x=>simp only[yi,hx x (Qj ..)]
 |mkSlice c z l cp=>
  simp only[zFa,GG,List.not_mem_nil,or_false,forall_eq_or_imp,forall_eq]at hx;simp only[yi,hx]
 |_=>rfl
theorem zEk{t t2:WG Value}{o:WF}(hx:∀ s∈YA o,zC t s=zC t2 s):∀ x∈zFa o.op,ev t x=ev t2 x:=by
 intro x kJ;cases x with
 |tmp s=>
  refine hx s (GX _ ?_);exact Gz.2 ⟨.tmp s,kJ,rfl⟩
 |_=>rfl
theorem YK{t t2:WG Value}{o:WF}(hx:∀ s∈YA o,zC t s=zC t2 s):zV t o.guard=zV t2 o.guard:=by
 cases hg:o.guard with
 |none=>rfl
 |some p=>
  obtain⟨j,want⟩:=p;simp only[zV,hx j (by simp[YA,hg])]
def zCY(t:WG Value):Wx->Option Nat
 | .load _ _ x| .sliceArr _ _ x _ _ _=>(match ev t x with
  | .pointer (some a)=>some a.block
  |_=>none)
 | .lookup _ _ m _| .lenMap m=>(match ev t m with
  | .map (some g)=>some g
  |_=>none)
 |_=>none
theorem zKp(t:WG Value)(o:WF)(hw:zV t o.guard=true):zl t o=zCY t o.op:=by
 unfold zl;rw[hw];cases o.op<;>rfl
theorem zAX{h h2:WA}{g:Nat}(e:h2.get g=h.get g):yj h2 g=yj h g:=by unfold yj;rw[e]
theorem zCM{h:WA}{g:Nat}{c:List Value}(e:yj h g=some c):h.get g≠none:=by
 unfold yj at e;intro e';rw[e']at e;cases e
theorem zJI{α:Type}{f:α->Value}{x:Option α}{h h':WA}{v:Value}(e:(x.map fun a=>(f a,h))=some (v,h')):h'=h/\∃ a,x=some a/\f a=v:=by
 simp only[QQ,QD]at e;obtain⟨a,e0,e1,e2⟩:=e;exact⟨e2.symm,a,e0,e1⟩
theorem zIu{t:WG Value}{h h':WA}{op:Wx}{v:Value}(hk:zI op=0)(hx:WN P ih t h op=some (v,h')):h'=h/\∀ h2:WA,WN P ih t h2 op=some (v,h2):=by
 have plain:∀ {x:Option Value},(x.map fun a=>(a,h))=some (v,h')->h'=h/\∀ h2:WA,(x.map fun a=>(a,h2))=some (v,h2):=fun {x} e=>by
  obtain⟨e1,a,e2,e3⟩:=zJI e;refine⟨e1,fun h2=> ?_⟩;rw[e2,<-e3];rfl
 cases op with
 |mov x=>simp only[WN]at hx |-;cases hx;exact⟨rfl,fun _=>rfl⟩
 |lenC n=>simp only[WN]at hx |-;cases hx;exact⟨rfl,fun _=>rfl⟩
 |pick c a b=>
  simp only[WN]at hx |-;cases hc:ev t c with
  |bool c=>simp only[hc]at hx;cases hx;exact⟨rfl,fun _=>rfl⟩
  |_=>simp[hc]at hx
 |bin op x y=>exact plain hx
 |un op x=>exact plain hx
 |maxmin m xs=>
  cases xs with
  |nil=>cases hx
  |cons x r=>exact plain hx
 |slice c x lo hi mx=>
  simp only[WN]at hx |-;cases h1:Bx t lo with
  |none=>simp[h1]at hx
  |some kq=>
  cases h2:Bx t hi with
  |none=>simp[h1,h2]at hx
  |some ae=>
  cases h3:Bx t mx with
  |none=>simp[h1,h2,h3]at hx
  |some qE=>
  simp only[h1,h2,h3]at hx;exact plain hx
 |isNil k n x=>
  simp only[WN]at hx |-;obtain⟨e1,a,e2,e3⟩:=zJI (f:=fun b=>Value.bool (if n then !b else b)) hx;exact⟨e1,fun h2=>by rw[e2,<-e3];rfl⟩
 |build z ps=>
  simp only[WN]at hx |-;obtain⟨e1,a,e2,e3⟩:=zJI (f:=fun cells:List Value=>Value.agg cells.toArray) hx;exact⟨e1,fun h2=>by rw[e2,<-e3];rfl⟩
 |len x=>
  simp only[WN]at hx |-;cases hl:zMP (ev t x)with
  |none=>rw[hl]at hx;cases hx
  |some n=>
   rw[hl]at hx;cases hx;exact⟨rfl,fun h2=>rfl⟩
 |part agg off n x=>
  simp only[WN]at hx |-;cases hv:ev t x with
  |agg cs=>simp only[hv]at hx;exact plain hx
  |_=>simp[hv]at hx
 |elem len agg n x i=>
  simp only[WN]at hx |-;cases hv:ev t x with
  |agg cs=>
   cases hi:BO (ev t i)with
   |none=>simp[hv,hi]at hx
   |some i'=>
    simp only[hv,hi]at hx;obtain⟨hc,hx⟩:=ZG hx;simp only[hc,cond_true];exact plain hx
  |_=>simp[hv]at hx
 |binB neg x y=>
  simp only[WN]at hx |-;cases hv:ev t x with
  |bool a=>
   cases hw:ev t y with
   |bool b=>simp only[hv,hw]at hx;cases hx;exact⟨rfl,fun _=>rfl⟩
   |_=>simp[hv,hw]at hx
  |_=>simp[hv]at hx
 |binP op ty x y=>
  simp only[WN]at hx |-;obtain⟨hc,hx⟩:=ZG hx;split at hx
  ·rename_i v0 hp;obtain⟨eC,hx⟩:=ZG hx;cases hx;exact⟨rfl,fun h2=>by simp only[hc,hp,eC,cond_true]⟩
  ·cases hx
 |convP s d x=>
  simp only[WN]at hx |-;obtain⟨hc,hx⟩:=ZG hx;split at hx
  ·rename_i v0 hp;obtain⟨eC,hx⟩:=ZG hx;cases hx;exact⟨rfl,fun h2=>by simp only[hc,hp,eC,cond_true]⟩
  ·cases hx
 |conv k x=>
  simp only[WN]at hx |-;cases hv:ev t x with
  |int k' n=>simp only[hv]at hx;cases hx;exact⟨rfl,fun _=>rfl⟩
  |_=>simp[hv]at hx
 |idx c x i=>
  simp only[WN]at hx |-;split at hx
  ·rename_i a len k i' q1 q2;obtain⟨hc,hx⟩:=ZG hx;cases hx;exact⟨rfl,fun h2=>by simp only[q1,q2,hc,cond_true]⟩
  ·cases hx
 |idxArr len c x i=>
  simp only[WN]at hx |-;split at hx
  ·rename_i a i' q1 q2;obtain⟨hc,hx⟩:=ZG hx;cases hx;exact⟨rfl,fun h2=>by simp only[q1,q2,hc,cond_true]⟩
  ·cases hx
 |cplx x y=>exact plain hx
 |cpart im x=>exact plain hx
 |assert ty ok x=>exact plain hx
 |typeOf rt x=>exact plain hx
 |mkIface ty x=>simp only[WN]at hx |-;cases hx;exact⟨rfl,fun _=>rfl⟩
 |nilCheck x=>exact plain hx
 |fld off x=>
  simp only[WN]at hx |-;split at hx
  ·rename_i a q1;obtain⟨hc,hx⟩:=ZG hx;cases hx;exact⟨rfl,fun h2=>by simp only[q1,hc,cond_true]⟩
  ·cases hx
 |elemStr x i=>
  simp only[WN]at hx |-;split at hx
  ·rename_i s i' q1 q2;split at hx
   ·rename_i b q3;cases hx;exact⟨rfl,fun h2=>by simp only[q1,q2,q3]⟩
   ·cases hx
  ·cases hx
 |sliceStr x lo hi=>
  simp only[WN]at hx |-;split at hx
  ·rename_i s kq ae q1 q2 q3;obtain⟨hc,hx⟩:=ZG hx;cases hx;exact⟨rfl,fun h2=>by simp only[q1,q2,q3,hc,cond_true]⟩
  ·cases hx
 |lenStr x=>
  simp only[WN]at hx |-;split at hx
  ·rename_i s q1;cases hx;exact⟨rfl,fun h2=>by simp only[q1]⟩
  ·cases hx
 |mkFunc fn a b=>
  simp only[WN]at hx |-;split at hx
  ·cases hx;exact⟨rfl,fun _=>rfl⟩
  ·cases hx
 |extract x i=>
  simp only[WN]at hx |-;split at hx
  ·rename_i vs q1;split at hx
   ·rename_i v0 q2;cases hx;exact⟨rfl,fun h2=>by simp only[q1,q2]⟩
   ·cases hx
  ·cases hx
 |_=>cases hk
theorem zEW{t:WG Value}{h h':WA}{op:Wx}{v:Value}(hk:zI op=0\/zI op=1)(hx:WN P ih t h op=some (v,h')):
  h'=h/\(∀ g,zCY t op=some g->h.get g≠none)/\∀ h2:WA,(∀ g,zCY t op=some g->h2.get g=h.get g\/zGW h2 g (zAL t h op))->WN P ih t h2 op=some (v,h2):=by
 have quiet:∀ {x:Option Value},(x.map fun v=>(v,h))=some (v,h')->h'=h/\x=some v:=fun {x} e=>by
  simp only[QQ,QD]at e;obtain⟨v0,e0,rfl,rfl⟩:=e;exact⟨rfl,e0⟩
 cases op with
 |load agg n x=>
  simp only[WN]at hx;simp only[zCY,WN];split at hx
  ·rename_i a ha;simp only[ha];cases hs:a.spot.isNone with
   |false=>simp[hs]at hx
   |true=>
   simp only[hs,cond_true]at hx |-;obtain⟨e1,e2⟩:=quiet hx;refine⟨e1,fun g hg=> ?_,fun h2 hh=> ?_⟩
   ·cases hg;cases hr:yj h a.block with
    |none=>simp[hr]at e2
    |some c=>exact zCM hr
   ·rcases hh _ rfl with q|⟨off,n',cells,q1,q2⟩
    ·rw[zAX q,e2];rfl
    ·simp only[zAL,ha,QQ,QD]at q1;obtain⟨c,q3,rfl,rfl,rfl⟩:=q1;rw[q2];rw[q3]at e2;rw[e2];rfl
  ·cases hx
 |sliceArr n c x lo hi mx=>
  simp only[WN]at hx;simp only[zCY,WN];split at hx
  ·rename_i a ha;simp only[ha];split at hx
   ·rename_i kq ae cells q1 q2 q4;obtain⟨hc,hx⟩:=ZG hx;cases hx;refine⟨rfl,fun g hg=> ?_,fun h2 hh=> ?_⟩
    ·cases hg;exact zCM q4
    ·have hh:=(hh _ rfl).resolve_right (fun⟨_,_,_,q,_⟩=>by cases q);rw[zAX hh];simp only[q1,q2,q4,hc,cond_true]
   ·cases hx
  ·cases hx
 |lenMap m=>
  simp only[WN]at hx;simp only[zCY,WN];split at hx
  ·rename_i hm;simp only[hm];cases hx;exact⟨rfl,(fun g hg=>by cases hg),fun h2 _=>rfl⟩
  ·rename_i g hm;simp only[hm];split at hx
   ·rename_i es cl hg;cases hx;refine⟨rfl,(fun g' jS=>by cases jS;rw[hg];simp),fun h2 hh=> ?_⟩;have hh:=(hh _ rfl).resolve_right (fun⟨_,_,_,q,_⟩=>by cases q);rw[hh,hg]
   ·cases hx
  ·cases hx
 |lookup ok z m k=>
  simp only[WN]at hx;simp only[zCY,WN];have look:∀ (h1:WA) (es:Option (List MapEntry)),(match es with
    |none=>none
    |some es=>match ev t k with
     | .int kk n=>(match YT (.int kk n) es 0 with
      |some (some (_,v))=>some (if ok then Value.tuple #[v,.bool true]else v,h1)
      |some none=>some (if ok then .tuple #[z,.bool false]else z,h1)
      |none=>none)
     |_=>none)=((es.bind fun es=>match ev t k with
     | .int kk n=>(match YT (.int kk n) es 0 with
      |some (some (_,v))=>some (if ok then Value.tuple #[v,.bool true]else v)
      |some none=>some (if ok then .tuple #[z,.bool false]else z)
      |none=>none)
     |_=>none).map fun v=>(v,h1)):=by
   intro h1 es;cases es with
   |none=>rfl
   |some es=>
    simp only[Qb];cases bK:ev t k with
    |int kk n=>
     simp only;cases hf:YT (.int kk n) es 0 with
     |none=>rfl
     |some r=>cases r with
      |none=>rfl
      |some q=>rfl
    |_=>rfl
  have hx:=(look h _).symm.trans hx;obtain⟨e1,e2⟩:=quiet hx;refine⟨e1,fun g hg=> ?_,fun h2 hh=> ?_⟩
  ·intro hn;split at hg
   ·rename_i g' hm;cases hg;simp only[hm,hn,Option.bind_none]at e2;cases e2
   ·cases hg
  ·refine(look h2 _).trans ?_;cases hm:ev t m with
   |map r=>
    cases r with
    |none=>
     rw[hm]at e2;exact congrArg (Option.map fun v=>(v,h2)) e2
    |some g=>
     rw[hm]at e2;simp only[hm]at hh;have hh:=(hh g rfl).resolve_right (fun⟨_,_,_,q,_⟩=>by cases q);simp only[hh];exact congrArg (Option.map fun v=>(v,h2)) e2
   |_=>rw[hm]at e2;simp at e2
 |alloc _=>rcases hk with e|e<;>cases e
 |box _=>rcases hk with e|e<;>cases e
 |buildSlice _ _ _ _=>rcases hk with e|e<;>cases e
 |mkSlice _ _ _ _=>rcases hk with e|e<;>cases e
 |mkMap=>rcases hk with e|e<;>cases e
 |stuck=>rcases hk with e|e<;>cases e
 |store _ _ _=>rcases hk with e|e<;>cases e
 |append _ _ _=>rcases hk with e|e<;>cases e
 |copy _ _ _=>rcases hk with e|e<;>cases e
 |update _ _ _=>rcases hk with e|e<;>cases e
 |delete _ _=>rcases hk with e|e<;>cases e
 |clear _=>rcases hk with e|e<;>cases e
 |call _ _=>rcases hk with e|e<;>cases e
 |dfr _ _=>rcases hk with e|e<;>cases e
 |dfrClear _ _ _ _=>rcases hk with e|e<;>cases e
 |_=>
  have q:=zIu (by rcases hk with e|e<;>first|exact e|cases e) hx;exact⟨q.1,(fun g hg=>by cases hg),fun h2 _=>q.2 h2⟩
end
section
variable {P:Program}
theorem zJB{nt:Nat}{ops:Array Oper}:∀ {l:List Oper} {as:List WF},Yf P nt ops l=some as->as.length=l.length/\∀ (i:Nat) (o:Oper) (ao:WF),l[i]?=some o->as[i]?=some ao->zDL P nt ops o=some ao:=by
 intro l;induction l with
 |nil=>intro as hc;simp only[Yf,QA]at hc;subst hc;exact⟨rfl,fun i o ao h=>by simp at h⟩
 |cons x l ih=>
  intro as hc;simp only[Yf]at hc;cases h1:zDL P nt ops x with
  |none=>simp[h1]at hc
  |some a=>
  cases h2:Yf P nt ops l with
  |none=>simp[h1,h2]at hc
  |some J5=>
  simp only[h1,h2,QA]at hc;subst hc;obtain⟨e1,e2⟩:=ih h2;refine⟨by simp[e1],fun i o ao ho ha=> ?_⟩;cases i with
  |zero=>simp at ho ha;subst ho ha;exact h1
  |succ i=>exact e2 i o ao (by simpa using ho) (by simpa using ha)
def Bf(b:List Nat)(j i:Nat):Bool:=(b.getD j 0).testBit i
theorem zLg{b:List Nat}:∀ {l:List (Nat×WF)},zEE b l=true->∀ (i j:Nat) (x y:Nat×WF),i<j->l[i]?=some x->l[j]?=some y->zGj b x y=true:=by
 intro l;induction l with
 |nil=>intro _ i j x y _ hx;simp at hx
 |cons z l ih=>
  intro hp i j x y ly hx hy;simp only[zEE,QN]at hp;cases j with
  |zero=>omega
  |succ j=>
   have nA:l[j]?=some y:=by simpa using hy
   cases i with
   |zero=>
    simp only[Gd,QA]at hx;subst hx;exact QX.1 hp.1 y (Gl nA)
   |succ i=>exact ih hp.2 i j x y (by omega) (by simpa using hx) nA
theorem zCA{as:List WF}{n i:Nat}{ao:WF}(hn:as.length=n)(ha:as[i]?=some ao):((List.range n).zip as)[i]?=some (i,ao):=by
 have hi:i<as.length:=(QR.1 ha).1;rw[List.getElem?_zip_eq_some];exact⟨by rw[List.getElem?_range (by omega)],ha⟩
theorem zKk{b:List Nat}{i j:Nat}{ai aj:WF}(h:zGj b (i,ai) (j,aj)=true):Bf b j i=true\/
  (¬(zI aj.op=2/\2<=zI ai.op)/\(∀ d,ai.dst=some d->d∉YA aj/\aj.dst≠some d)/\∀ d,aj.dst=some d->d∉YA ai):=by
 simp only[zGj,GN,QN]at h;rcases h with h|⟨⟨h1,h2⟩,h3⟩
 ·exact .inl h
 ·refine .inr ⟨fun⟨k1,k2⟩=> ?_,fun d hd=> ?_,fun d hd=> ?_⟩
  ·rw[k1]at h1;have:Nat.ble 2 (zI ai.op)=true:=QH k2;rw[this]at h1;cases h1
  ·rw[hd]at h2;simp only[QN,Gj,List.contains_eq_mem,Gk]at h2;refine⟨h2.1,fun e=> ?_⟩;rw[e]at h2;simp at h2
  ·rw[hd]at h3;simpa using h3
theorem zOr{b:List Nat}:∀ {as:List WF} {before:List (Nat×Wx)} {j:Nat},(zB8 b before j as).length=as.length/\
  ∀ (k:Nat) (ao:WF),as[k]?=some ao->∃ un,(zB8 b before j as)[k]?=some (ao,un)/\
   (∀ i o,(i,o)∈before->Bf b (j+k) i=false->((zI o=1/\zI ao.op=2)\/(2<=zI o/\zI ao.op=1))->i∈un)/\
   ∀ k2 kK,k2<k->as[k2]?=some kK->Bf b (j+k) (j+k2)=false->((zI kK.op=1/\zI ao.op=2)\/(2<=zI kK.op/\zI ao.op=1))->(j+k2)∈un:=by
 intro as;induction as with
 |nil=>intro before j;exact⟨rfl,fun k ao h=>by simp at h⟩
 |cons a as ih=>
  intro before j;obtain⟨e1,e2⟩:=ih (before:=before++[(j,a.op)]) (j:=j+1);refine⟨by simp[zB8,e1],fun k ao ha=> ?_⟩;cases k with
  |zero=>
   simp only[Gd,QA]at ha;subst ha;refine⟨_,rfl,fun i o hm hb hk=> ?_,fun k2 kK hk=>by omega⟩;refine Gz.2 ⟨(i,o),hm,?_⟩;have cY:((b.getD j 0).testBit i)=false:=hb;have bK:((Nat.beq (zI o) 1&&Nat.beq (zI a.op) 2)||(Nat.ble 2 (zI o)&&Nat.beq (zI a.op) 1))=true:=by
    rcases hk with⟨q1,q2⟩|⟨q1,q2⟩
    ·rw[q1,q2];rfl
    ·rw[q2,QH q1];simp
   simp only[cY,bK,Qh,Qq,cond_true]
  |succ k=>
   obtain⟨un,u1,u2,u3⟩:=e2 k ao (by simpa using ha);refine⟨un,by simpa [zB8]using u1,fun i o hm hb hk=>u2 i o (GX _ hm) (by rw[show j+1+k=j+(k+1) by omega];exact hb) hk,fun k2 kK aS xj hb hk=> ?_⟩;cases k2 with
   |zero=>
    simp only[Gd,QA]at xj;subst xj;exact u2 j a.op (GT _ (QZ.2 rfl)) (by rw[show j+1+k=j+(k+1) by omega];exact hb) hk
   |succ k2=>
    have:=u3 k2 kK (by omega) (by simpa using xj) (by rw[show j+1+k=j+(k+1) by omega,show j+1+k2=j+(k2+1) by omega];exact hb) hk;rw[show j+(k2+1)=j+1+k2 by omega];exact this
def bits(acc:List Nat)(o:Oper):Nat:=o.after.toList.foldl (fun s e=>bif Region.binds .any e then s|||2 ^ e.on|||acc.getD e.on 0 else s) 0
theorem zK7(acc:List Nat)(i:Nat):∀ (l:List Edge) (s:Nat),(l.foldl (fun s e=>bif Region.binds .any e then s|||2 ^ e.on|||acc.getD e.on 0 else s) s).testBit i=true->
  s.testBit i=true\/∃ e∈l,Region.binds .any e=true/\(i=e.on\/(acc.getD e.on 0).testBit i=true):=by
 intro l;induction l with
 |nil=>intro s h;exact .inl h
 |cons e l ih=>
  intro s h;rw[List.foldl_cons]at h;rcases ih _ h with h1|⟨e',h1,h2⟩
  ·cases hb:Region.binds .any e with
   |false=>rw[hb]at h1;exact .inl h1
   |true=>
    rw[hb]at h1;simp only[cond_true,Nat.testBit_or,GN,Nat.testBit_two_pow,Qd]at h1;rcases h1 with(h1|h1)|h1
    ·exact .inl h1
    ·exact .inr ⟨e,Qj ..,hb,.inl h1.symm⟩
    ·exact .inr ⟨e,Qj ..,hb,.inr h1⟩
  ·exact .inr ⟨e',Qu _ h1,h2⟩
theorem zM6:∀ (l:List Oper) (acc:List Nat),(∃ r,Z4 l acc=acc++r)/\∀ (k:Nat) (o:Oper),l[k]?=some o->(Z4 l acc).getD (acc.length+k) 0=bits ((Z4 l acc).take (acc.length+k)) o:=by
 intro l;induction l with
 |nil=>intro acc;exact⟨⟨[],by simp[Z4]⟩,fun k o h=>by simp at h⟩
 |cons x l ih=>
  intro acc;obtain⟨⟨r,hr⟩,hk⟩:=ih (acc++[bits acc x]);have hb:Z4 (x::l) acc=Z4 l (acc++[bits acc x]):=rfl;refine⟨⟨bits acc x::r,by rw[hb,hr];simp⟩,fun k o ho=> ?_⟩;cases k with
  |zero=>
   simp only[Gd,QA]at ho;subst ho;rw[hb,hr];simp[QG]
  |succ k=>
   have:=hk k o (by simpa using ho);rw[hb,show acc.length+(k+1)=(acc++[bits acc x]).length+k by simp;omega];exact this
theorem zFu{ops:Array Oper}{S:Nat->Prop}(hS:∀ j o,S j->ops[j]?=some o->∀ e∈o.after.toList,Region.binds .any e=true->S e.on):
  ∀ (n j:Nat) (o:Oper),j<n->ops[j]?=some o->(∀ e∈o.after.toList,Region.binds .any e=true->S e.on)->∀ i,Bf (Z4 ops.toList []) j i=true->S i:=by
 intro n;induction n with
 |zero=>intro j o h;omega
 |succ n ih=>
  intro j o hj ho hd i hb;have h1:=(zM6 ops.toList []).2 j o (by simpa using ho);simp only[G9,GH]at h1;unfold Bf at hb;rw[h1]at hb;rcases zK7 _ i _ 0 hb with h2|⟨e,h2,h3,h4⟩
  ·simp at h2
  ·rcases h4 with rfl|h4
   ·exact hd e h2 h3
   ·have aL:e.on<j:=by
     rcases GO e.on j with q|q
     ·exact q
     ·rw[QG,GM,QC (by omega)]at h4;simp at h4
    rw[QG,GM,QF aL,<-QG]at h4;have hlen:e.on<ops.size:=by
     have:=(G1.1 ho).1;omega
    exact ih e.on ops[e.on] (by omega) (Q9 hlen) (fun e' Es cY=>hS e.on _ (hd e h2 h3) (Q9 hlen) e' Es cY) i h4
theorem zLF{ops:Array Oper}(he:zEO ops=true){j:Nat}{o:Oper}(ho:ops[j]?=some o){e:Edge}(hm:e∈o.after.toList)(hb:Region.binds .any e=true):e.on<j:=by
 unfold zEO at he;rw[QX]at he;have h1:(o,j)∈ops.toList.zipIdx:=by
  rw[List.mem_zipIdx_iff_getElem?];simpa using ho
 have:=he _ h1;simp only[QX]at this;have:=this e hm;rw[hb]at this;simp at this;omega
end
open Go.RowKit
section
variable {P:Program}{B:Nat}{σ σ':Nat->Option Pl}{h h2:WA}{w w':World}
theorem Wg.sub(hr:Wg P B σ h w)(hs:∀ g o,h2.get g=some o->h.get g=some o)(hn:h2.n=h.n):Wg P B σ h2 w:=
 ⟨hr.globals,fun g pl hg=>by rw[hn];exact hr.lt g pl hg,fun g o hg=>hr.live g o (hs g o hg),fun g o g' o' pl cP a b=>hr.apart g o g' o' pl cP (hs _ _ a) (hs _ _ b),hr.le⟩
theorem W0.same(hr:Wg P B σ h w)(hs:∀ g o,h2.get g=some o->h.get g=some o)(hn:h2.n=h.n):W0 P B σ h w σ h2 w:=
 ⟨.refl _,hr.sub hs hn,rfl,rfl,rfl,QE _,fun _ _ _=>rfl,fun b ⟨g,o,pl,h1,h3⟩=> .inr ⟨g,o,pl,hs _ _ h1,h3⟩,Nat.le_of_eq hn.symm,fun _ _=>rfl⟩
theorem zJH(Q:Nat->Nat->Ws->Prop)(hQ:∀ j g ob g' fK,Q j g ob->Q j g' fK->g=g'/\ob=fK)(h:WA):∀ N,∃ h2:WA,h2.n=h.n/\
  ∀ g,(∃ j ob,j<N/\Q j g ob/\h2.get g=some ob)\/((∀ j ob,j<N->¬Q j g ob)/\h2.get g=h.get g):=by
 intro N;induction N with
 |zero=>exact⟨h,rfl,fun g=> .inr ⟨fun j ob hj=>by omega,rfl⟩⟩
 |succ N ih=>
  obtain⟨h2,e1,e2⟩:=ih;by_cases hq:∃ g ob,Q N g ob
  ·obtain⟨g0,J8,hq⟩:=hq;refine⟨h2.lay g0 J8,e1,fun g=> ?_⟩;by_cases hg:g=g0
   ·subst hg;exact .inl ⟨N,J8,by omega,hq,by rw[ZX,QF rfl]⟩
   ·rcases e2 g with⟨j,ob,a1,a2,a3⟩|⟨a1,a2⟩
    ·exact .inl ⟨j,ob,by omega,a2,by rw[ZX,QC hg];exact a3⟩
    ·refine .inr ⟨fun j ob hj xl=> ?_,by rw[ZX,QC hg];exact a2⟩;rcases GO j N with q|q
     ·exact a1 j ob q xl
     ·have:j=N:=by omega
      subst this;exact hg (hQ _ _ _ _ _ xl hq).1
  ·refine⟨h2,e1,fun g=> ?_⟩;rcases e2 g with⟨j,ob,a1,a2,a3⟩|⟨a1,a2⟩
   ·exact .inl ⟨j,ob,by omega,a2,a3⟩
   ·refine .inr ⟨fun j ob hj xl=> ?_,a2⟩;rcases GO j N with q|q
    ·exact a1 j ob q xl
    ·have:j=N:=by omega
     subst this;exact hq ⟨_,_,xl⟩
theorem BL.symm'{pl o cP o'}(h:BL pl o cP o'):BL cP o' pl o:=by
 cases o<;>cases o'<;>first|exact h.elim|exact⟨fun x=>h.1 ⟨x.2,x.1⟩,h.2.2,h.2.1⟩
theorem zK2{HS Hi H1 qL:WA}(hr:Wg P B σ HS w)(gO:∀ g o,Hi.get g=some o->HS.get g=some o)(hn:HS.n=Hi.n)(ev:W0 P B σ Hi w σ' H1 w')(kv:Wk Hi.n Hi H1)(ju:qL.n=H1.n)
  (hp:∀ g o,qL.get g=some o->H1.get g=some o\/(HS.get g=some o/\zCO o=true/\Hi.get g=none)):W0 P B σ HS w σ' qL w':=by
 have gP:∀ g o,HS.get g=some o->zCO o=true->Hi.get g=none->∃ pl,σ g=some pl/\σ' g=some pl/\Be P σ' pl o w'/\B<=pl.b/\pl.b<w.heap.size/\¬zJt σ Hi pl.b:=by
  intro g o hg ho bW;obtain⟨pl,h1,h3,h4⟩:=hr.live g o hg;have ph:¬zJt σ Hi pl.b:=by
   rintro⟨g2,o2,cQ,k1,k2,k3,k4⟩;have aq:g2≠g:=fun e=>by subst e;rw[bW]at k1;cases k1
   have:=hr.apart g2 o2 g o cQ pl (gO _ _ k1) hg aq k3 h1 k4;cases o2 with
   |row c own lo=>
    cases o with
    |row c' rU kq=>exact this.1 ⟨k2,ho⟩
    |_=>exact this.elim
   |_=>exact this.elim
  exact⟨pl,h1,ev.le _ _ h1,h3.keep ev.le (ev.kept _ (hr.lt _ _ h1).2 ph),h4 ho,(hr.lt _ _ h1).2,ph⟩
 have rel:Wg P B σ' qL w':=by
  refine⟨ev.rel.globals,fun g pl hg=>by rw[ju];exact ev.rel.lt g pl hg,fun g o hg=> ?_,?_,ev.rel.le⟩
  ·rcases hp g o hg with h1|⟨h1,h3,h4⟩
   ·exact ev.rel.live g o h1
   ·obtain⟨pl,_,q2,q3,q4,_⟩:=gP g o h1 h3 h4;exact⟨pl,q2,q3,fun _=>q4⟩
  ·have qM:∀ g o g2 o2 pl cQ,H1.get g=some o->HS.get g2=some o2->zCO o2=true->Hi.get g2=none->g≠g2->σ' g=some pl->σ' g2=some cQ->pl.b=cQ.b->BL pl o cQ o2:=by
    intro g o g2 o2 pl cQ a1 a2 a3 a4 aq s1 s2 hb;obtain⟨pm,q1,q2,_,_,q5,q6⟩:=gP g2 o2 a2 a3 a4;rw[s2]at q2;cases q2;cases jN:zCO o with
    |true=>
     rcases ev.from_ pl.b ⟨g,o,pl,a1,jN,s1,rfl⟩with k|k
     ·rw[hb]at k;omega
     ·rw[hb]at k;exact absurd k q6
    |false=>
     have k:=kv.notown g o a1 jN;obtain⟨pl3,z1,_⟩:=hr.live g o (gO _ _ k);have:=ev.le _ _ z1;rw[s1]at this;cases this;exact hr.apart g o g2 o2 pl cQ (gO _ _ k) a2 aq z1 q1 hb
   intro g o g2 o2 pl cQ a1 a2 aq s1 s2 hb;rcases hp g o a1 with h1|⟨h1,h3,h4⟩<;>rcases hp g2 o2 a2 with k1|⟨k1,k3,k4⟩
   ·exact ev.rel.apart g o g2 o2 pl cQ h1 k1 aq s1 s2 hb
   ·exact qM g o g2 o2 pl cQ h1 k1 k3 k4 aq s1 s2 hb
   ·exact(qM g2 o2 g o cQ pl k1 h1 h3 h4 (fun e=>aq e.symm) s2 s1 hb.symm).symm'
   ·obtain⟨p1,u1,u2,_⟩:=gP g o h1 h3 h4;obtain⟨p2,v1,v2,_⟩:=gP g2 o2 k1 k3 k4;rw[s1]at u2;cases u2;rw[s2]at v2;cases v2;exact hr.apart g o g2 o2 pl cQ h1 k1 aq u1 v1 hb
 refine⟨ev.le,rel,ev.os,ev.tape,ev.output,ev.size,fun b hb bW=>ev.kept b hb fun⟨g,o,pl,h1,h3⟩=>bW ⟨g,o,pl,gO _ _ h1,h3⟩,?_,?_⟩
 ·rintro b ⟨g,o,pl,h1,h3,h4,h5⟩;rcases hp g o h1 with k|⟨k1,k2,k3⟩
  ·rcases ev.from_ b ⟨g,o,pl,k,h3,h4,h5⟩with q|⟨g2,o2,cQ,q1,q2⟩
   ·exact .inl q
   ·exact .inr ⟨g2,o2,cQ,gO _ _ q1,q2⟩
  ·obtain⟨p1,u1,u2,_⟩:=gP g o k1 k2 k3;rw[h4]at u2;cases u2;exact .inr ⟨g,o,pl,k1,h3,u1,h5⟩
 ·rw[ju,hn];exact ev.fC
theorem zO9{g:Nat}{O:Obj}{o:Ws}{n:Nat}(hr:Wg P B σ h w)(hg:σ g=none)(aL:g<h.n)(hh:w'.heap=w.heap.push O)(hd:w'.os=w.os/\w'.tape=w.tape/\w'.output=w.output)
  (ho:∀ σ',Le σ σ'->Be P σ' ⟨w.heap.size,0,n⟩ o w'):Wg P B (Zu σ g ⟨w.heap.size,0,n⟩) (h.lay g o) w'/\Le σ (Zu σ g ⟨w.heap.size,0,n⟩)/\w.heap.size<=w'.heap.size/\(∀ b,b<w.heap.size->w'.heap[b]?=w.heap[b]?)/\
   ∀ b,zJt (Zu σ g ⟨w.heap.size,0,n⟩) (h.lay g o) b->w.heap.size<=b\/zJt σ h b:=by
 have hsz:w'.heap.size=w.heap.size+1:=by rw[hh];simp
 have hle:Le σ (Zu σ g ⟨w.heap.size,0,n⟩):=fun k p hk=>by
  unfold Zu;rw[QC (fun e=>by subst e;rw[hg]at hk;cases hk)];exact hk
 have dw:∀ b,b<w.heap.size->w'.heap[b]?=w.heap[b]?:=fun b hb=>by
  rw[hh,Array.getElem?_push_lt hb,Q9 hb]
 have ab:∀ k pl,Zu σ g ⟨w.heap.size,0,n⟩ k=some pl->k=g/\pl=⟨w.heap.size,0,n⟩\/k≠g/\σ k=some pl:=fun k pl hk=>by
  unfold Zu at hk;split at hk
  ·exact .inl ⟨by assumption,(GL hk).symm⟩
  ·exact .inr ⟨by assumption,hk⟩
 refine⟨⟨fun k hk=> ?_,fun k pl hk=> ?_,fun k o' hk=> ?_,?_,by rw[hsz];have:=hr.le;omega⟩,hle,by omega,dw,fun b ⟨k,o',pl,h1,h2,h3,h4⟩=> ?_⟩
 ·obtain⟨pl,h1,h2⟩:=hr.globals k hk;exact⟨pl,hle _ _ h1,h2⟩
 ·rcases ab k pl hk with⟨rfl,rfl⟩|⟨_,h1⟩
  ·exact⟨aL,by simp[hsz]⟩
  ·have:=hr.lt k pl h1;exact⟨this.1,by omega⟩
 ·rw[ZX]at hk;split at hk
  ·rename_i e;subst e;cases hk;exact⟨_,yR _ _ _,ho _ hle,fun _=>hr.le⟩
  ·obtain⟨pl,h1,h2,h3⟩:=hr.live k o' hk;exact⟨pl,hle _ _ h1,h2.keep hle (dw _ (hr.lt _ _ h1).2),h3⟩
 ·intro k o1 k' o2 pl cP h1 h2 aq h3 h4 hb;rw[ZX]at h1 h2;rcases ab k pl h3 with⟨e,rfl⟩|⟨e,oz⟩<;>rcases ab k' cP h4 with⟨e',rfl⟩|⟨e',jM⟩
  ·exact absurd (e.trans e'.symm) aq
  ·have:=(hr.lt _ _ jM).2;simp at hb;omega
  ·have:=(hr.lt _ _ oz).2;simp at hb;omega
  ·rw[QC e]at h1;rw[QC e']at h2;exact hr.apart k o1 k' o2 pl cP h1 h2 aq oz jM hb
 ·rw[ZX]at h1;rcases ab k pl h3 with⟨e,rfl⟩|⟨e,oz⟩
  ·left;rw[<-h4];exact QE _
  ·rw[QC e]at h1;exact .inr ⟨k,o',pl,h1,h2,oz,h4⟩
end
def Made(P:Program)(σ:Nat->Option Pl)(w:World)(s:Sem Next)(ob:Ws)(f:Nat->Value):Prop:=
 ∃ O n w' cv,s.run P w=.ok (.value cv) w'/\w'.heap=w.heap.push O/\(w'.os=w.os/\w'.tape=w.tape/\w'.output=w.output)/\
  (∀ σ',Le σ σ'->Be P σ' ⟨w.heap.size,0,n⟩ ob w')/\∀ σ' g,σ' g=some ⟨w.heap.size,0,n⟩->WI σ' (f g) cv
section
variable {P:Program}{B:Nat}{σ:Nat->Option Pl}{h:WA}{w:World}
theorem zCo{s:Sem Value}{xs ys extra:List Value}{e:TypeId}{f:Nat->Value}{cv:Value}(hl:WW σ xs ys)(hs:s.run P w=.ok cv (w.alloc (.cells (ys++extra).toArray e)))
  (hv:∀ σ' g,σ' g=some ⟨w.heap.size,0,ys.length+extra.length⟩->WI σ' (f g) cv):Made P σ w (do pure (.value (<-s))) (.row xs true 0) f:=by
 refine⟨.cells (ys++extra).toArray e,ys.length+extra.length,w.alloc (.cells (ys++extra).toArray e),cv,by simp[hs],rfl,⟨rfl,rfl,rfl⟩,fun σ' hle=> ?_,hv⟩;refine⟨(ys++extra).toArray,e,(0,0),by show(w.heap.push _)[w.heap.size]?=_;simp,by simp,by simp[hl.1],fun i x hx=> ?_,fun _=>rfl⟩;obtain⟨y,a,b⟩:=hl.get hx;refine⟨y,?_,b.mono hle⟩;have hi:i<ys.length:=(QR.1 a).1;simp only[GH,List.getElem?_toArray];rw[Qy hi];exact a
theorem zGn{t e:TypeId}{c l cp:Nat}{zs:List Value}{k k':IntKind}(ht:P.underlying t=some (.slice e))(he:Zm P e=some c)(hz:Yw P e=some zs)
  (h1:l<=cp) (h2:cp<=room):
  Made P σ w (do pure (.value (<-Instr.makeSlice t (.int k l) (.int k' cp)))) (.row (zo zs l) true 0) (fun g=> .slice (some ⟨g,0,none⟩) l c):=by
 obtain⟨i,z,hi,hsz,aW,cZ,aI,dF,dM⟩:=y9 he;obtain⟨i',z',ae,iK,rfl,nv,a7⟩:=ZT hz;rw[hi]at ae;cases ae;rw[dF]at iK;cases iK;have a6:room=4294967296:=rfl;have hl:(IntKind.i64.wrap (l:Int))=l:=IntWalk.i64_in _ (by omega);have oU:(IntKind.i64.wrap (cp:Int))=cp:=IntWalk.i64_in _ (by omega);have iL:¬((281474976710656:Int)<(i.bytes:Int)*(cp:Int)):=by
  have:i.bytes*cp<=1024*4294967296:=Nat.mul_le_mul aI (by omega);have h3:((i.bytes*cp:Nat):Int)<=((1024*4294967296:Nat):Int):=Int.ofNat_le.2 this;rw[Int.natCast_mul]at h3;omega
 have rV:WW σ (zo z.cells.toList l) ((zo z.cells.toList l)):=by
  refine VM σ ?_;clear oU hl h1;induction l with
  |zero=>rfl
  |succ l ih=>simp only[zo,Zr,List.all_append,QN];exact⟨a7,ih⟩
 have de:zo z.cells.toList cp=zo z.cells.toList l++zo z.cells.toList (cp-l):=by
  have:∀ a b,zo z.cells.toList (a+b)=zo z.cells.toList a++zo z.cells.toList b:=fun a b=>by
   induction a with
   |zero=>simp[zo]
   |succ a ih=>rw[Nat.succ_add];simp[zo,ih]
  rw[<-this];congr 1;omega
 have aO:((Array.range (cp*i.size)).map (z.cells[· % z.cells.size]!))=(zo z.cells.toList l++zo z.cells.toList (cp-l)).toArray:=by
  apply JF;rw[<-de,<-zAl z.cells (by omega) cp];simp[nv]
 refine zCo (extra:=zo z.cells.toList (cp-l)) (e:=e) (cv:= .slice (some ⟨w.heap.size,0,none⟩) l cp) rV ?_ fun σ' g hg=>WI.slice (pl:=⟨w.heap.size,0,_⟩) hg aW h1 ?_
 ·rw[<-aO];by_cases hn:cp=0
  ·subst hn;have:l=0:=by omega
   subst this;have w0:IntKind.i64.wrap 0=0:=by decide
   have cR:Array.range 0=#[]:=rfl;simp[Instr.makeSlice,asInt,asIntOf,run_underlying ht,typeInfo,hi,yC hi,newRow,w0,cR]
  ·have ez:¬(cp*i.size=0):=by
    intro h0;rcases Nat.mul_eq_zero.1 h0 with h|h<;>omega
   have rW:¬((cp:Int)<0):=by omega
   have lv:¬((l:Int)<0):=by omega
   have lx:¬cp<l:=by omega
   have vB:¬i.size=0:=by omega
   simp[Instr.makeSlice,asInt,asIntOf,run_underlying ht,typeInfo,hi,yC hi,newRow,hl,oU,iL,zeroValue,dF,rW,lv,lx];intro h0;exact absurd h0 ez
 ·simp only[GH,yA];rw[<-Gv];have:l+(cp-l)=cp:=by omega
  rw[this];have:z.cells.toList.length=c:=by simpa using dM
  rw[this];exact QE _
theorem zHI{b:Builtin}{args:List Operand}{ts:List TypeId}{op:Wx}{t:WG Value}(hc:zAH P b args ts=some op):yi t op=none:=by
 unfold zAH at hc;simp only[GI]at hc;repeat' split at hc
 all_goals first
  |(cases hc;done)
  |(cases hc;rfl)
  |(simp only[QQ]at hc;obtain⟨_,_,rfl⟩:=hc;rfl)
theorem zMe(hr:Wg P B σ h w){t:WG Value}{a:Act}(ht:∀ k,WI σ (zC t k) (a.tmps.getD k Go.undef)){o:Oper}{op:Wx}(hc:B9 P o=some op){ob:Ws}{f:Nat->Value}
  (ho:yi t op=some (ob,f)):Made P σ w (execOp a.eval o) ob f:=by
 unfold B9 at hc;cases a8:zCP P o.op.operands.toList with
 |false=>simp[a8]at hc
 |true=>
 simp only[a8,QW,QU]at hc;have b7:∀ x∈o.op.operands.toList,Zq P x=true:=fun x hx=>QX.1 a8 x hx;clear a8;have E:∀ x∈o.op.operands.toList,WI σ (ev t x) (a.eval x):=fun x hx=>zAb hr ht (b7 x hx);unfold execOp;cases hq:o.op with
 |alloc e=>
  simp only[hq]at hc;cases hz:Yw P e with
  |none=>simp[hz]at hc
  |some zs=>
   simp only[hz,QJ,QA]at hc;subst hc;obtain⟨i,z,hi,dF,rfl,nv,a7⟩:=ZT hz;simp only[yi,QA,QD]at ho;obtain⟨rfl,rfl⟩:=ho;refine zCo (extra:=[]) (e:=e) (cv:= .pointer (some ⟨w.heap.size,0,none⟩)) (VM σ a7) ?_ fun σ' g hg=>WI.ptr (off:=0) hg;simp[Instr.alloc,zeroValue,typeInfo,hi,dF,newVar,newRow]
 |box e x=>
  simp only[hq,QA]at hc;subst hc;simp only[yi,QA,QD]at ho;obtain⟨rfl,rfl⟩:=ho;refine zCo (extra:=[]) (e:=e) (cv:= .pointer (some ⟨w.heap.size,0,none⟩)) (E x (by simp[hq,Op.operands])).cells ?_ fun σ' g hg=>WI.ptr (off:=0) hg;simp[Instr.box,newVar,newRow]
 |makeMap ty r=>
  simp only[hq]at hc;cases r with
  |some r=>simp at hc
  |none=>
   simp only at hc;split at hc
   ·rename_i k e hu;simp only[QA]at hc;subst hc;simp only[yi,QA,QD]at ho;obtain⟨rfl,rfl⟩:=ho;exact⟨.map #[] 0,0,w.alloc (.map #[] 0),.map (some w.heap.size),by simp[Instr.makeMap],rfl,⟨rfl,rfl,rfl⟩,fun σ' _=>⟨#[],by show(w.heap.push _)[w.heap.size]?=_;simp,BZ.nil⟩,
     fun σ' g hg=>WI.map (pl:=⟨w.heap.size,0,0⟩) hg⟩
   ·cases hc
 |buildSlice ty len parts=>
  simp only[hq]at hc;have dN:∀ x∈parts.toList,Zq P x.2=true:=fun x hx=>b7 x.2 (by simp[hq,Op.operands];exact⟨x.1,by simpa using hx⟩);cases b9:yh P ty with
  |none=>simp[b9]at hc
  |some e=>
  have hu:P.underlying ty=some (.slice e):=by
   unfold yh at b9;split at b9
   ·cases b9;assumption
   ·cases b9
  simp only[b9]at hc;split at hc
  ·rename_i n zs he hz;cases hb:Nat.ble (len*n) 65536 with
   |false=>simp[hb]at hc
   |true=>
   simp only[hb,cond_true]at hc;cases fH:YR (fun i=>some (i*n,n)) parts.toList with
   |none=>simp[fH]at hc
   |some ps=>
    simp only[fH,QJ,QA]at hc;subst hc;obtain⟨i,z,hi,hsz,aW,_,_,dF,dM⟩:=y9 he;obtain⟨i',z',ae,lK,rfl,nv,a7⟩:=ZT hz;rw[hi]at ae;cases ae;rw[dF]at lK;cases lK;subst hsz;simp only[yi]at ho;cases hf:Zy (zo z.cells.toList len) (zu t ps)with
    |none=>simp[hf]at ho
    |some cells=>
     simp only[hf,QJ,QA,QD]at ho;obtain⟨rfl,rfl⟩:=ho;obtain⟨q1,q2⟩:=zBk hr ht dN fH;have D6:WW σ (zo z.cells.toList len) (zo z.cells.toList len):=VM σ (zAP a7 len);obtain⟨ys,f1,f2⟩:=zC8 (parts.toList.map fun x=>(x.1,a.eval x.2)) (fun D7=>some (D7*i.size,i.size)) _ _ (zu t ps) cells D6 q1 q2 hf;have hlen:ys.length=len*i.size:=by
      have cG:∀ (qs:List (Nat×Nat×Value)) (xs r:List Value),Zy xs qs=some r->r.length=xs.length:=fun qs=>by
       induction qs with
       |nil=>intro xs r h;simp[Zy]at h;rw[h]
       |cons q qs w8=>
        intro xs r h;obtain⟨o1,n1,u1⟩:=q;simp only[Zy]at h;cases aC:(Nat.beq u1.cells.size n1&&Nat.ble (o1+n1) xs.length)with
        |false=>simp[aC]at h
        |true=>
         simp only[aC,cond_true]at h;simp only[QN]at aC;have b1:=QO aC.1;have b2:=QS aC.2;rw[w8 _ _ h];simp[zh];omega
      rw[<-f2.1,cG _ _ _ hf,yA];simp[dM]
     refine zCo (extra:=[]) (e:=e) (cv:= .slice (some ⟨w.heap.size,0,none⟩) len len) f2 ?_ fun σ' g hg=>WI.slice (pl:=⟨w.heap.size,0,ys.length+0⟩) hg aW (QE _) (by simp[hlen]);have iL:¬(16777216<len*i.size):=by have:=QS hb;omega
     have aO:((Array.range (len*i.size)).map (z.cells[· % z.cells.size]!))=(zo z.cells.toList len).toArray:=by
      apply JF;rw[<-zAl z.cells (by omega) len];simp[dM]
     by_cases fP:len*i.size=0
     ·have eD:len=0:=by rcases Nat.mul_eq_zero.1 fP with h|h<;>omega
      subst eD;have cR:Array.range 0=#[]:=rfl;simp only[zo]at f1;simp[Instr.buildSlice,run_underlying hu,yC hi,newRow,cR,f1]
     ·simp[Instr.buildSlice,run_underlying hu,yC hi,zeroValue,typeInfo,hi,dF,iL,newRow,aO,f1];intro h0;exact absurd h0 fP
  ·cases hc
 |makeSlice ty l c=>
  simp only[hq]at hc;have e1:=E l (by simp[hq,Op.operands]);have e2:=E c (by simp[hq,Op.operands]);cases b9:yh P ty with
  |none=>simp[b9]at hc
  |some e=>
   have hu:P.underlying ty=some (.slice e):=by
    unfold yh at b9;split at b9
    ·cases b9;assumption
    ·cases b9
   simp only[b9]at hc;split at hc
   ·rename_i n zs he hz;simp only[QA]at hc;subst hc;simp only[yi]at ho;split at ho
    ·rename_i ln cn h1 h2;cases hb:(Nat.ble ln cn&&Nat.ble cn room)with
     |false=>simp[hb]at ho
     |true=>
      simp only[hb,cond_true,QA,QD]at ho;simp only[QN]at hb;obtain⟨rfl,rfl⟩:=ho;obtain⟨k,hk⟩:=Yz e1 h1;obtain⟨k',bK⟩:=Yz e2 h2;dsimp only;rw[hk,bK];exact zGn hu he hz (QS hb.1) (QS hb.2)
    ·cases ho
   ·cases hc
 |call c=>
  exfalso;simp only[hq]at hc;split at hc
  ·cases hc;rcases zCG (P:=P) ‹Operand› c.args.toList with q|⟨_,_,_,_,_,_,_,q⟩<;>(rw[q]at ho;cases ho)
  ·unfold Y6 at hc;split at hc
   ·cases hc;cases ho
   ·cases hc;cases ho
   ·cases hc;cases ho
   ·cases hc;cases ho
   ·rw[zHI hc]at ho;cases ho
  ·cases hc;cases ho
 |defer c=>
  exfalso;simp only[hq]at hc;repeat' split at hc
  all_goals first
   |(cases hc;done)
   |(cases hc;cases ho;done)
 |_=>
  exfalso;try simp only[hq,GI]at hc
  repeat' split at hc
  all_goals first
   |(cases hc;done)
   |(cases hc;cases ho;done)
   |(simp only[QQ]at hc;obtain⟨_,_,rfl⟩:=hc;cases ho;done)
   |(simp_all;done)
end
section
variable {P:Program}{ih:Ex}
theorem ZS{g:Nat}{o:WF}{fr af:WR}{h h':WA}(hx:yT P ih g o fr h=some (af,h')):
  ∃ v ds,af=val o.dst {fr with dfs:=ds++fr.dfs} v/\(zI o.op≠2->ds=[])/\(zI o.op=0\/zI o.op=1->h'=h)/\
   (zI o.op=3->(zV fr.tm o.guard=false/\h'=h)\/∃ ob f,zV fr.tm o.guard=true/\yi fr.tm o.op=some (ob,f)/\h'=h.lay g ob/\v=f g):=by
 unfold yT at hx;cases hk:Nat.beq (zI o.op) 3 with
 |true=>
  have cg:=QO hk;simp only[hk,cond_true]at hx;cases hw:zV fr.tm o.guard with
  |false=>
   simp only[hw,QU,QA,QD]at hx;obtain⟨rfl,rfl⟩:=hx;exact⟨undef,[],rfl,fun _=>rfl,fun _=>rfl,fun _=> .inl ⟨rfl,rfl⟩⟩
  |true=>
   simp only[hw,cond_true]at hx;cases hv:yi fr.tm o.op with
   |none=>simp[hv]at hx
   |some p=>
    obtain⟨ob,f⟩:=p;simp only[hv,QA,QD]at hx;obtain⟨rfl,rfl⟩:=hx;exact⟨f g,[],rfl,fun _=>rfl,fun e=>by omega,fun _=> .inr ⟨ob,f,rfl,rfl,rfl,rfl⟩⟩
 |false=>
  have cg:zI o.op≠3:=fun e=>by rw[e]at hk;cases hk
  simp only[hk,QU]at hx;unfold yU at hx;cases hw:zV fr.tm o.guard with
  |false=>
   simp only[hw,QU,QA,QD]at hx;obtain⟨rfl,rfl⟩:=hx;exact⟨undef,[],rfl,fun _=>rfl,fun _=>rfl,fun e=>absurd e cg⟩
  |true=>
   simp only[hw,cond_true]at hx;cases hv:yP P ih fr.tm fr.round h o.op with
   |none=>simp[hv]at hx
   |some p=>
    obtain⟨v,ds,h1⟩:=p;simp only[hv,QA,QD]at hx;obtain⟨rfl,rfl⟩:=hx;have qH:zI o.op≠2->ds=[]/\WN P ih fr.tm h o.op=some (v,h1):=by
     intro aS;unfold yP at hv;split at hv
     ·rename_i e;rw[e]at aS;exact absurd rfl aS
     ·rename_i e;rw[e]at aS;exact absurd rfl aS
     ·rename_i e;rw[e]at aS;exact absurd rfl aS
     ·cases ha:WN P ih fr.tm h o.op with
      |none=>simp[ha]at hv
      |some q=>
       obtain⟨v0,h0⟩:=q;simp only[ha,QA,QD]at hv;obtain⟨rfl,rfl,rfl⟩:=hv;exact⟨rfl,rfl⟩
    exact⟨v,ds,rfl,fun e=>(qH e).1,fun e=>(zEW e (qH (by omega)).2).1,fun e=>absurd e cg⟩
structure Dr(P:Program)(ih:Ex)(nt:Nat)(ops:Array Oper)(as:List WF)(l:List (WF×List Nat))(FR:Nat->WR)(H:Nat->WA)(G:Nat->Nat):Prop where
 len:as.length=ops.size
 llen:l.length=as.length
 op:∀ (i:Nat) (o:Oper) (ao:WF),ops[i]?=some o->as[i]?=some ao->zDL P nt ops o=some ao
 lg:∀ (k:Nat) (ao:WF),as[k]?=some ao->∃ un,l[k]?=some (ao,un)/\∀ (k2:Nat) (kK:WF),k2<k->as[k2]?=some kK->Bf (Z4 ops.toList []) k k2=false->((zI kK.op=1/\zI ao.op=2)\/(2<=zI kK.op/\zI ao.op=1))->k2∈un
 pair:∀ (i j:Nat) (ai aj:WF),i<j->as[i]?=some ai->as[j]?=some aj->Bf (Z4 ops.toList []) j i=true\/
  (¬(zI aj.op=2/\2<=zI ai.op)/\(∀ d,ai.dst=some d->d∉YA aj/\aj.dst≠some d)/\∀ d,aj.dst=some d->d∉YA ai)
 tr:Tr P ih l 0 FR H G
 grow:Zf ih
 room:G 0+cnt l<=(H 0).n
 free:∀ g,G 0<=g->(H 0).get g=none
section
variable {nt:Nat}{ops:Array Oper}{as:List WF}{l:List (WF×List Nat)}{FR:Nat->WR}{H:Nat->WA}{G:Nat->Nat}
theorem Dr.get(d:Dr P ih nt ops as l FR H G){k:Nat}(hk:k<ops.size):∃ o ao un,ops[k]?=some o/\as[k]?=some ao/\l[k]?=some (ao,un):=by
 have h1:k<as.length:=by rw[d.len];exact hk
 obtain⟨un,h2,_⟩:=d.lg k as[k] (QB h1);exact⟨ops[k],as[k],un,Q9 hk,QB h1,h2⟩
theorem Dr.lt(d:Dr P ih nt ops as l FR H G){k:Nat}{ao:WF}(ha:as[k]?=some ao):k<ops.size:=by
 rw[<-d.len];exact(QR.1 ha).1
theorem Dr.step(d:Dr P ih nt ops as l FR H G){k:Nat}{ao:WF}(ha:as[k]?=some ao):yT P ih (G k) ao (FR k) {H k with mark:=(H k).n,wr:=[]}=some (FR (k+1),H (k+1)):=by
 obtain⟨un,h2,_⟩:=d.lg k ao ha;exact d.tr.step k _ h2
theorem Dr.next(d:Dr P ih nt ops as l FR H G){k:Nat}{ao:WF}(ha:as[k]?=some ao):G (k+1)=bif Nat.beq (zI ao.op) 3 then G k+1 else G k:=by
 obtain⟨un,h2,_⟩:=d.lg k ao ha;exact d.tr.next k _ h2
theorem Dr.mono(d:Dr P ih nt ops as l FR H G){i:Nat}:∀ {j},i<=j->j<=ops.size->G i<=G j:=by
 intro j;induction j with
 |zero=>intro h _;have:i=0:=by omega
        subst this;exact QE _
 |succ j lV=>
  intro h hj;rcases GO i (j+1)with q|q
  ·have h1:=lV (by omega) (by omega);obtain⟨o,ao,un,_,h3,_⟩:=d.get (k:=j) (by omega);have:=d.next h3;cases hb:Nat.beq (zI ao.op) 3<;>rw[hb]at this<;>simp at this<;>omega
  ·have:i=j+1:=by omega
   subst this;exact QE _
theorem Dr.apart(d:Dr P ih nt ops as l FR H G){i j:Nat}{ao:WF}(ly:i<j)(hj:j<=ops.size)(ha:as[i]?=some ao)(hk:zI ao.op=3):G i<G j:=by
 have h1:=d.next ha;have hb:Nat.beq 3 3=true:=rfl;rw[hk,hb]at h1;simp only[cond_true]at h1;have:=d.mono (i:=i+1) (j:=j) (by omega) hj;omega
theorem Dr.below(d:Dr P ih nt ops as l FR H G){k:Nat}{ao:WF}(ha:as[k]?=some ao)(hk:zI ao.op=3):G 0<=G k/\G k<(H 0).n:=by
 obtain⟨un,h2,_⟩:=d.lg k ao ha;have:=d.tr.below h2 hk;have:=d.room;omega
theorem Dr.n_le(d:Dr P ih nt ops as l FR H G){i:Nat}:∀ {j},i<=j->j<=ops.size->(H i).n<=(H j).n:=by
 intro j;induction j with
 |zero=>intro h _;have:i=0:=by omega
        subst this;exact QE _
 |succ j lV=>
  intro h hj;rcases GO i (j+1)with q|q
  ·have h1:=lV (by omega) (by omega);have h2:(H j).n<=(H (j+1)).n:=((d.tr.grow d.grow (m:=G 0) (QE _) d.room j).2 (by rw[d.llen,d.len];omega)).n;omega
  ·have:i=j+1:=by omega
   subst this;exact QE _
theorem Dr.unlaid(d:Dr P ih nt ops as l FR H G){j:Nat}{ao:WF}(ha:as[j]?=some ao)(hk:zI ao.op=3):∀ {k},k<=j->(H k).get (G j)=none:=by
 have hj:=d.lt ha;obtain⟨cZ,aI⟩:=d.below ha hk;intro k;induction k with
 |zero=>intro _;exact d.free _ cZ
 |succ k iw=>
  intro hkj;have h1:=iw (by omega);obtain⟨o,sD,un,_,h3,_⟩:=d.get (k:=k) (by omega);have hs:=d.step h3;have hn:=d.n_le (i:=0) (j:=k) (by omega) (by omega);by_cases Et:zI sD.op=3
  ·obtain⟨v,ds,_,_,_,q⟩:=ZS hs;rcases q Et with⟨_,q⟩|⟨ob,f,_,_,q,_⟩
   ·rw[q];exact h1
   ·rw[q,ZX,QC (fun e=>by have:=d.apart (i:=k) (j:=j) (by omega) (by omega) h3 Et;omega)];exact h1
  ·have hb:Nat.beq (zI sD.op) 3=false:=by
    cases hq:Nat.beq (zI sD.op) 3 with
    |false=>rfl
    |true=>exact absurd (QO hq) Et
   unfold yT at hs;rw[hb]at hs;simp only[QU]at hs;exact(Yb d.grow hs).gone _ (by show G j<(H k).n;omega) h1
theorem Dr.slot(d:Dr P ih nt ops as l FR H G){s i:Nat}:∀ {j},i<=j->j<=ops.size->(∀ (m:Nat) (ao:WF),i<=m->m<j->as[m]?=some ao->ao.dst≠some s)->zC (FR j).tm s=zC (FR i).tm s:=by
 intro j;induction j with
 |zero=>intro h _ _;have:i=0:=by omega
        subst this;rfl
 |succ j lV=>
  intro h hj hn;rcases GO i (j+1)with q|q
  ·rw[<-lV (by omega) (by omega) (fun m ao a b=>hn m ao a (by omega))];obtain⟨o,ao,un,_,h3,_⟩:=d.get (k:=j) (by omega);obtain⟨v,ds,hf,_⟩:=ZS (d.step h3);rw[hf];cases hd:ao.dst with
   |none=>rfl
   |some e=>
    have aq:=hn j ao (by omega) (by omega) h3;rw[hd]at aq;show zC ((FR j).tm.set e v) s=_;rw[zb,QC (fun q=>aq (by rw[q]))]
  ·have:i=j+1:=by omega
   subst this;rfl
theorem zK3(d:Option Nat)(fr:WR)(v:Value):(val d fr v).round=fr.round:=by cases d<;>rfl
theorem zJ6(d:Option Nat)(fr:WR)(v:Value):(val d fr v).dfs=fr.dfs:=by cases d<;>rfl
theorem Dr.round(d:Dr P ih nt ops as l FR H G):∀ {j},j<=ops.size->(FR j).round=(FR 0).round:=by
 intro j;induction j with
 |zero=>intro _;rfl
 |succ j lV=>
  intro hj;obtain⟨o,ao,un,_,h3,_⟩:=d.get (k:=j) (by omega);obtain⟨v,ds,hf,_⟩:=ZS (d.step h3);rw[hf,zK3];exact lV (by omega)
theorem Dr.dfs(d:Dr P ih nt ops as l FR H G){i:Nat}:∀ {j},i<=j->j<=ops.size->(∀ (m:Nat) (ao:WF),i<=m->m<j->as[m]?=some ao->zI ao.op≠2)->(FR j).dfs=(FR i).dfs:=by
 intro j;induction j with
 |zero=>intro h _ _;have:i=0:=by omega
        subst this;rfl
 |succ j lV=>
  intro h hj hn;rcases GO i (j+1)with q|q
  ·rw[<-lV (by omega) (by omega) (fun m ao a b=>hn m ao a (by omega))];obtain⟨o,ao,un,_,h3,_⟩:=d.get (k:=j) (by omega);obtain⟨v,ds,hf,qH,_⟩:=ZS (d.step h3);rw[hf,zJ6,qH (hn j ao (by omega) (by omega) h3)];rfl
  ·have:i=j+1:=by omega
   subst this;rfl
end
end
def Pd(as:List WF)(FR:Nat->WR)(G:Nat->Nat)(S:Nat->Prop)(p j g:Nat)(ob:Ws):Prop:=
 S j/\p<=j/\∃ ao f,as[j]?=some ao/\zI ao.op=3/\zV (FR j).tm ao.guard=true/\yi (FR j).tm ao.op=some (ob,f)/\G j=g
structure Inv(P:Program)(B:Nat)(nt:Nat)(ops:Array Oper)(as:List WF)(FR:Nat->WR)(H:Nat->WA)(G:Nat->Nat)(σ0:Nat->Option Pl)(h0:WA)(w0:World)(b:Frame)
  (S:Nat->Prop) (p:Nat) (tS:WG Value) (HS:WA) (σ:Nat->Option Pl) (w:World) (a:Act):Prop where
 pn:p<=ops.size
 slots:∀ (s m:Nat),m<=ops.size->(∀ (j:Nat) (ao:WF),j<m->as[j]?=some ao->ao.dst=some s->S j)->(∀ (j:Nat) (ao:WF),m<=j->as[j]?=some ao->ao.dst=some s->¬S j)->zC tS s=zC (FR m).tm s
 loud1:∀ (j:Nat) (ao:WF),j<p->as[j]?=some ao->2<=zI ao.op->S j
 loud2:∀ (j:Nat) (ao:WF),p<=j->as[j]?=some ao->zI ao.op=2->¬S j
 hn:HS.n=(H p).n
 eV:∀ g,(∃ j ob,Pd as FR G S p j g ob/\HS.get g=some ob)\/((∀ j ob,¬Pd as FR G S p j g ob)/\HS.get g=(H p).get g)
 free:∀ (j:Nat) (ao:WF),as[j]?=some ao->zI ao.op=3->¬S j->σ (G j)=none
 rel:W5 P σ nt ⟨tS,(FR p).dfs,(FR 0).round⟩ a b
 kL:W0 P B σ0 h0 w0 σ HS w
section
variable {P:Program}{ih:Ex}{nt:Nat}{ops:Array Oper}{as:List WF}{l:List (WF×List Nat)}{FR:Nat->WR}{H:Nat->WA}{G:Nat->Nat}{S:Nat->Prop}
theorem zEL(op:Wx):zI op<=3:=by cases op<;>simp[zI]
theorem Dr.pd_fun(d:Dr P ih nt ops as l FR H G){p p' j j' g:Nat}{S':Nat->Prop}{ob fK:Ws}(h1:Pd as FR G S p j g ob)(h2:Pd as FR G S' p' j' g fK):j=j'/\ob=fK:=by
 obtain⟨_,_,ao,f,a1,a2,_,a3,a4⟩:=h1;obtain⟨_,_,sD,f',b1,b2,_,b3,b4⟩:=h2;have hj:=d.lt a1;have fD:=d.lt b1;have e:j=j':=by
  rcases Nat.lt_trichotomy j j' with q|q|q
  ·have:=d.apart q (by omega) a1 a2;omega
  ·exact q
  ·have:=d.apart q (by omega) b1 b2;omega
 subst e;rw[a1]at b1;cases b1;rw[a3]at b3;cases b3;exact⟨rfl,rfl⟩
theorem Dr.walk(d:Dr P ih nt ops as l FR H G){p g:Nat}:∀ {i},p<=i->i<=ops.size->
  (∀ (m:Nat) (ao:WF),p<=m->m<i->as[m]?=some ao->(zI ao.op=2->(H (m+1)).get g=(H m).get g)/\(zI ao.op=3->¬S m->zV (FR m).tm ao.guard=true->g≠G m))->
  (∃ j ob,j<i/\Pd as FR G S p j g ob/\(H i).get g=some ob)\/((∀ j ob,j<i->¬Pd as FR G S p j g ob)/\(H i).get g=(H p).get g):=by
 intro i;induction i with
 |zero=>intro h _ _;have:p=0:=by omega
        subst this;exact .inr ⟨fun j ob hj=>by omega,rfl⟩
 |succ i Ni=>
  intro h hi hm;rcases GO p (i+1)with q|q
  ·have h1:=Ni (by omega) (by omega) (fun m ao a b=>hm m ao a (by omega));obtain⟨o,ao,un,_,h3,_⟩:=d.get (k:=i) (by omega);obtain⟨m1,m2⟩:=hm i ao (by omega) (by omega) h3;obtain⟨v,ds,_,_,k0,k3⟩:=ZS (d.step h3);have same:(H (i+1)).get g=(H i).get g->(∀ ob,¬Pd as FR G S p i g ob)->
     (∃ j ob,j<i+1/\Pd as FR G S p j g ob/\(H (i+1)).get g=some ob)\/((∀ j ob,j<i+1->¬Pd as FR G S p j g ob)/\(H (i+1)).get g=(H p).get g):=by
    intro e bW;rcases h1 with⟨j,ob,a1,a2,a3⟩|⟨a1,a2⟩
    ·exact .inl ⟨j,ob,by omega,a2,e.trans a3⟩
    ·refine .inr ⟨fun j ob hj=> ?_,e.trans a2⟩;rcases GO j i with q2|q2
     ·exact a1 j ob q2
     ·have:j=i:=by omega
      subst this;exact bW ob
   have nk:zI ao.op≠3->∀ ob,¬Pd as FR G S p i g ob:=by
    rintro hk ob ⟨_,_,sD,f,b1,b2,_⟩;rw[h3]at b1;cases b1;exact hk b2
   have hle:=zEL ao.op;rcases(by omega:zI ao.op=0\/zI ao.op=1\/zI ao.op=2\/zI ao.op=3)with hk|hk|hk|hk
   ·exact same (by rw[k0 (.inl hk)];rfl) (nk (by omega))
   ·exact same (by rw[k0 (.inr hk)];rfl) (nk (by omega))
   ·exact same (m1 hk) (nk (by omega))
   ·rcases k3 hk with⟨kw,ke⟩|⟨ob,f,kw,km,ke,_⟩
    ·refine same (by rw[ke];rfl) ?_;rintro ob ⟨_,_,sD,f,b1,b2,b3,_⟩;rw[h3]at b1;cases b1;rw[kw]at b3;cases b3
    ·by_cases hg:g=G i
     ·by_cases hS:S i
      ·exact .inl ⟨i,ob,by omega,⟨hS,by omega,ao,f,h3,hk,kw,km,hg.symm⟩,by rw[ke,ZX,QF hg]⟩
      ·exact absurd hg (m2 hk hS kw)
     ·refine same (by rw[ke,ZX,QC hg];rfl) ?_;rintro fK ⟨_,_,sD,f',b1,b2,b3,b4,b5⟩;exact hg b5.symm
  ·have:p=i+1:=by omega
   subst this;exact .inr ⟨fun j ob hj ⟨_,h2,_⟩=>by omega,rfl⟩
end
section
variable {P:Program}{ih:Ex}
theorem zNm{ao:WF}{fr af:WR}{h h':WA}(hk:zI ao.op=0\/zI ao.op=1)(hx:yU P ih ao fr h=some (af,h')):
  ∃ v,af=val ao.dst fr v/\∀ (t2:WG Value) (gb:List Deferred) (kE:Option Nat) (h2:WA),(∀ s∈YA ao,zC fr.tm s=zC t2 s)->
   (∀ g,zl fr.tm ao=some g->h.get g≠none->h2.get g=h.get g\/zGW h2 g (zAL fr.tm h ao.op))->yU P ih ao ⟨t2,gb,kE⟩ h2=some (val ao.dst ⟨t2,gb,kE⟩ v,h2):=by
 unfold yU at hx;cases hw:zV fr.tm ao.guard with
 |false=>
  simp only[hw,QU,QA,QD]at hx;obtain⟨rfl,_⟩:=hx;refine⟨undef,rfl,fun t2 gb kE h2 hn _=> ?_⟩;unfold yU;have:=YK hn;rw[hw]at this;simp only[<-this,QU]
 |true=>
  simp only[hw,cond_true]at hx;have CG:∀ (t:WG Value) (rd:Option Nat) (h:WA),yP P ih t rd h ao.op=match WN P ih t h ao.op with
    |some (v,h)=>some (v,[],h)
    |none=>none:=by
   intro t rd h;unfold yP;split
   ·rename_i e;rw[e]at hk;rcases hk with q|q<;>cases q
   ·rename_i e;rw[e]at hk;rcases hk with q|q<;>cases q
   ·rename_i e;rw[e]at hk;rcases hk with q|q<;>cases q
   ·rfl
  rw[CG]at hx;cases ha:WN P ih fr.tm h ao.op with
  |none=>simp[ha]at hx
  |some q=>
   obtain⟨v,h1⟩:=q;simp only[ha,QA,QD,GJ]at hx;obtain⟨rfl,_⟩:=hx;refine⟨v,rfl,fun t2 gb kE h2 hn hh=> ?_⟩;obtain⟨_,q2,q3⟩:=zEW hk ha;have h3:=q3 h2 fun g hg=>hh g (by rw[zKp _ _ hw];exact hg) (q2 g hg);rw[zGE (zEk hn)]at h3;have:=YK hn;rw[hw]at this;unfold yU;simp only[<-this,cond_true,CG,h3,GJ]
variable {B:Nat}{nt:Nat}{ops:Array Oper}{as:List WF}{l:List (WF×List Nat)}{FR:Nat->WR}{H:Nat->WA}{G:Nat->Nat}{σ0:Nat->Option Pl}{h0:WA}{w0:World}{b:Frame}
variable {S:Nat->Prop}{p:Nat}{tS:WG Value}{HS:WA}{σ:Nat->Option Pl}{w:World}{a:Act}
theorem Dr.wf(d:Dr P ih nt ops as l FR H G):∀ {k},k<=ops.size->∀ g,(H k).n<=g->(H k).get g=none:=by
 intro k;induction k with
 |zero=>intro _ g hg;exact d.free g (by have:=d.room;omega)
 |succ k iw=>
  intro hk;exact((d.tr.grow d.grow (m:=G 0) (QE _) d.room k).2 (by rw[d.llen,d.len];omega)).wf (iw (by omega))
theorem zKj(d:Dr P ih nt ops as l FR H G)(iv:Inv P B nt ops as FR H G σ0 h0 w0 b S p tS HS σ w a){i:Nat}{ao:WF}(ha:as[i]?=some ao)(hS:¬S i)(hk:zI ao.op=0\/zI ao.op=1)
  (pre:∀ j,Bf (Z4 ops.toList []) i j=true->S j) (fL:∀ j aj,as[j]?=some aj->S j->Bf (Z4 ops.toList []) j i=false) {g:Nat} (hg:zl (FR i).tm ao=some g) (hl:(H i).get g≠none):
  HS.get g=(H i).get g\/zGW HS g (zAL (FR i).tm (H i) ao.op):=by
 have hi:=d.lt ha;have dj:zI ao.op=1:=by
  rcases hk with q|q
  ·exfalso;unfold zl at hg;cases hw:zV (FR i).tm ao.guard with
   |false=>rw[hw]at hg;cases hg
   |true=>
    rw[hw]at hg;cases b7:ao.op<;>rw[b7]at hg q<;>first|(cases hg;done)|(cases q;done)
  ·exact q
 obtain⟨un,sE,iP⟩:=d.lg i ao ha;obtain⟨ob,qN⟩:=Option.ne_none_iff_exists'.1 hl;rcases GO i p with J9|J9
 ·
  have aX:∀ q,i<=q->q<=p->(H q).get g=some ob\/zGW (H q) g (zAL (FR i).tm (H i) ao.op):=by
   intro q;induction q with
   |zero=>intro h _;have:i=0:=by omega
          subst this;exact .inl qN
   |succ q w8=>
    intro h hq;rcases GO i (q+1)with z|z
    ·have h1:=w8 (by omega) (by omega);have fH:=iv.pn;obtain⟨o',am,un',_,h3,_⟩:=d.get (k:=q) (by omega);obtain⟨v,ds,_,_,k0,k3⟩:=ZS (d.step h3);have hle:=zEL am.op;have qP:(H q).get g≠none:=by
      rcases h1 with e|⟨off,n,c,_,e⟩
      ·rw[e];simp
      ·cases hr:yj (H q) g with
       |none=>rw[hr]at e;cases e
       |some c=>exact zCM hr
     have keep:(H (q+1)).get g=(H q).get g->(H (q+1)).get g=some ob\/zGW (H (q+1)) g (zAL (FR i).tm (H i) ao.op):=by
      intro e;rcases h1 with z|⟨off,n,c,e1,e2⟩
      ·exact .inl (e.trans z)
      ·exact .inr ⟨off,n,c,e1,by rw[zAX e];exact e2⟩
     rcases(by omega:zI am.op=0\/zI am.op=1\/zI am.op=2\/zI am.op=3)with hk|hk|hk|hk
     ·exact keep (by rw[k0 (.inl hk)];rfl)
     ·exact keep (by rw[k0 (.inr hk)];rfl)
     ·have nJ:=iv.loud1 q am (by omega) h3 (by omega);have aq:q≠i:=fun e=>by subst e;exact hS nJ
      obtain⟨Nj,e1,e2⟩:=d.lg q am h3;have aw:=e2 i ao (by omega) ha (fL q am h3 nJ) (.inl ⟨dj,hk⟩);rcases d.tr.write q (am,Nj) i (ao,un) g e1 (by omega) sE hg (by simpa using aw)with bW|bp
      ·have hs:=d.step h3;have hb:Nat.beq (zI am.op) 3=false:=by rw[hk];rfl
       unfold yT at hs;rw[hb]at hs;simp only[QU]at hs;have aL:g<(H q).n:=by
        rcases GO g (H q).n with q'|q'
        ·exact q'
        ·exact absurd (d.wf (by omega) g q') qP
       exact keep ((Yb d.grow hs).log g aL aL bW)
      ·exact .inr bp
     ·rcases k3 hk with⟨kw,ke⟩|⟨fK,f,kw,km,ke,_⟩
      ·exact keep (by rw[ke];rfl)
      ·refine keep ?_;rw[ke,ZX,QC (fun e=>by
        have:=d.unlaid h3 hk (QE q);rw[<-e]at this;exact qP this)]
       rfl
    ·have:i=q+1:=by omega
     subst this;exact .inl qN
  have aX:=aX p (by omega) (QE _);rcases iv.eV g with⟨j,fK,q1,q2⟩|⟨_,q2⟩
  ·obtain⟨_,z2,am,f,z3,z4,_,_,z5⟩:=q1;have:=d.unlaid z3 z4 z2;rw[z5]at this;rcases aX with e|⟨off,n,c,_,e⟩
   ·rw[e]at this;cases this
   ·unfold yj at e;rw[this]at e;cases e
  ·rcases aX with e|⟨off,n,c,e1,e2⟩
   ·exact .inl (by rw[q2,e,qN])
   ·exact .inr ⟨off,n,c,e1,by rw[zAX q2];exact e2⟩
 ·refine .inl ?_;have hw:=d.walk (S:=S) (g:=g) J9 (by omega) (fun m am h1 h2 hm=>⟨fun aS=>by
   have nJ:=iv.loud2 m am h1 hm aS;have aQ:Bf (Z4 ops.toList []) i m=false:=by
    cases hq:Bf (Z4 ops.toList []) i m with
    |false=>rfl
    |true=>exact absurd (pre m hq) nJ
   have aw:=iP m am h2 hm aQ (.inr ⟨by omega,dj⟩);obtain⟨r1,r2⟩:=d.tr.read i (ao,un) g m sE hg h2 (by simpa using aw);have hs:=d.step hm;have hb:Nat.beq (zI am.op) 3=false:=by rw[aS];rfl
   unfold yT at hs;rw[hb]at hs;simp only[QU]at hs;exact(Yb d.grow hs).log g r1 r1 r2,fun cg nJ vH gF=>by
   have aQ:Bf (Z4 ops.toList []) i m=false:=by
    cases hq:Bf (Z4 ops.toList []) i m with
    |false=>rfl
    |true=>exact absurd (pre m hq) nJ
   have aw:=iP m am h2 hm aQ (.inr ⟨by omega,dj⟩);obtain⟨r1,r2⟩:=d.tr.read i (ao,un) g m sE hg h2 (by simpa using aw);obtain⟨v,ds,_,_,_,k3⟩:=ZS (d.step hm);rcases k3 cg with⟨kw,_⟩|⟨fK,f,_,_,ke,_⟩
   ·rw[vH]at kw;cases kw
   ·apply r2;rw[ke,gF];exact zBB (by rw[<-gF];exact r1)⟩)
  rcases hw with⟨j,fK,hj,q1,q2⟩|⟨q1,q2⟩
  ·rcases iv.eV g with⟨j',pj,r1,r2⟩|⟨r1,_⟩
   ·obtain⟨_,e2⟩:=d.pd_fun q1 r1;rw[r2,q2,e2]
   ·exact absurd q1 (r1 j fK)
  ·rcases iv.eV g with⟨j',pj,r1,r2⟩|⟨_,r2⟩
   ·rcases GO j' i with z|z
    ·exact absurd r1 (q1 j' pj z)
    ·obtain⟨_,_,am,f,z3,z4,_,_,z5⟩:=r1;have:=d.unlaid z3 z4 z;rw[z5,qN]at this;cases this
   ·rw[r2,q2]
end
section
variable {P:Program}{ih:Ex}{B:Nat}{nt:Nat}{ops:Array Oper}{as:List WF}{l:List (WF×List Nat)}{FR:Nat->WR}{H:Nat->WA}{G:Nat->Nat}{σ0:Nat->Option Pl}{h0:WA}{w0:World}{b:Frame}
variable {S:Nat->Prop}{p:Nat}{tS:WG Value}{HS:WA}{σ:Nat->Option Pl}{w:World}{a:Act}
theorem zCI(d:Dr P ih nt ops as l FR H G)(iv:Inv P B nt ops as FR H G σ0 h0 w0 b S p tS HS σ w a){i:Nat}{ao:WF}(ha:as[i]?=some ao)(hS:¬S i)
  (pre:∀ j,Bf (Z4 ops.toList []) i j=true->S j) (fL:∀ j aj,as[j]?=some aj->S j->Bf (Z4 ops.toList []) j i=false):∀ s∈YA ao,zC (FR i).tm s=zC tS s:=by
 intro s hs;have hi:=d.lt ha;refine(iv.slots s i (by omega) (fun j aj hj c9 hd=> ?_) (fun j aj hj c9 hd nK=> ?_)).symm
 ·rcases d.pair j i aj ao hj c9 ha with q|⟨_,q,_⟩
  ·exact pre j q
  ·exact absurd hs (q s hd).1
 ·rcases GO i j with z|z
  ·rcases d.pair i j ao aj z ha c9 with q|⟨_,_,q⟩
   ·rw[fL j aj c9 nK]at q;cases q
   ·exact q s hd hs
  ·have:j=i:=by omega
   subst this;exact hS nK
theorem zA1(d:Dr P ih nt ops as l FR H G)(iv:Inv P B nt ops as FR H G σ0 h0 w0 b S p tS HS σ w a){i:Nat}{ao:WF}(ha:as[i]?=some ao)(hS:¬S i)
  (fL:∀ j aj,as[j]?=some aj->S j->Bf (Z4 ops.toList []) j i=false) {v:Value} {ds:List Deferred} (hf:FR (i+1)=val ao.dst {FR i with dfs:=ds++(FR i).dfs} v) (x:List Deferred) (y:Option Nat):
  ∀ (s m:Nat),m<=ops.size->(∀ (j:Nat) (aj:WF),j<m->as[j]?=some aj->aj.dst=some s->S j\/j=i)->(∀ (j:Nat) (aj:WF),m<=j->as[j]?=some aj->aj.dst=some s->¬(S j\/j=i))->
   zC (val ao.dst ⟨tS,x,y⟩ v).tm s=zC (FR m).tm s:=by
 intro s m hm c1 c2;by_cases hd:ao.dst=some s
 ·have CH:i<m:=by
   rcases GO i m with q|q
   ·exact q
   ·exact absurd (.inr rfl) (c2 i ao q ha hd)
  have e1:zC (FR m).tm s=zC (FR (i+1)).tm s:=d.slot (by omega) hm fun j aj h1 h2 c9 pk=>by
   have nK:S j:=by
    rcases c1 j aj h2 c9 pk with q|q
    ·exact q
    ·omega
   rcases d.pair i j ao aj (by omega) ha c9 with q|⟨_,q,_⟩
   ·rw[fL j aj c9 nK]at q;cases q
   ·exact(q s hd).2 pk
  rw[e1,hf,hd];show zC (tS.set s v) s=zC ((FR i).tm.set s v) s;rw[zb,zb,QF rfl,QF rfl]
 ·have e1:zC (val ao.dst ⟨tS,x,y⟩ v).tm s=zC tS s:=by
   cases hq:ao.dst with
   |none=>rfl
   |some e=>
    show zC (tS.set e v) s=_;rw[zb,QC (fun z=>hd (by rw[hq,z]))]
  rw[e1];refine iv.slots s m hm (fun j aj h1 c9 pk=> ?_) (fun j aj h1 c9 pk nK=>c2 j aj h1 c9 pk (.inl nK));rcases c1 j aj h1 c9 pk with q|q
  ·exact q
  ·subst q;rw[ha]at c9;cases c9;exact absurd pk hd
def zJ1(P:Program)(B nt:Nat)(ops:Array Oper)(as:List WF)(FR:Nat->WR)(H:Nat->WA)(G:Nat->Nat)(σ0:Nat->Option Pl)(h0:WA)(w0:World)(b:Frame)(S:Nat->Prop)(i:Nat)(w:World)(a:Act):Prop:=
 ∃ p' CJ CK σ' w' a',Inv P B nt ops as FR H G σ0 h0 w0 b (fun j=>S j\/j=i) p' CJ CK σ' w' a'/\
  ∀ (rest:List Nat) (k:List Item) (cs:List Frame),zBM b cs->Steps P (lone (At b a (.inRegion ops (i::rest)::k)) cs w) (lone (At b a' (.inRegion ops rest::k)) cs w')
theorem zJd(hex:yQ P ih)(aD:yO P ih)(d:Dr P ih nt ops as l FR H G)(iv:Inv P B nt ops as FR H G σ0 h0 w0 b S p tS HS σ w a){i:Nat}{o:Oper}{ao:WF}(ho:ops[i]?=some o)(ha:as[i]?=some ao)(hS:¬S i)
  (hk:zI ao.op=0\/zI ao.op=1) (pre:∀ j,Bf (Z4 ops.toList []) i j=true->S j) (fL:∀ j aj,as[j]?=some aj->S j->Bf (Z4 ops.toList []) j i=false):
  zJ1 P B nt ops as FR H G σ0 h0 w0 b S i w a:=by
 have hs:=d.step ha;obtain⟨_,ds,hf,qH,_⟩:=ZS hs;have hb:Nat.beq (zI ao.op) 3=false:=by rcases hk with q|q<;>rw[q]<;>rfl
 have eW:=hs;unfold yT at eW;rw[hb]at eW;simp only[QU]at eW;obtain⟨v,Ka,hq⟩:=zNm hk eW;have aV:=hq tS (FR p).dfs (FR 0).round HS (zCI d iv ha hS pre fL) (fun g hg hl=>zKj d iv ha hS hk pre fL hg hl);obtain⟨σ',w',a',e1,F1,_,st⟩:=zAV hex aD ho (d.op i o ao ho ha) iv.kL.rel iv.rel aV;have nL:∀ j g ob,Pd as FR G (fun j=>S j\/j=i) p j g ob↔Pd as FR G S p j g ob:=by
  intro j g ob;constructor
  ·rintro⟨h1,h2,am,f,h3,h4,h5⟩;refine⟨h1.resolve_right ?_,h2,am,f,h3,h4,h5⟩;rintro rfl;rw[ha]at h3;cases h3;omega
  ·rintro⟨h1,h2⟩;exact⟨.inl h1,h2⟩
 refine⟨p,_,HS,σ',w',a',⟨iv.pn,zA1 d iv ha hS fL (ds:=[]) (by rw[Ka];rfl) (FR p).dfs (FR 0).round,fun j am h1 h2 h3=> .inl (iv.loud1 j am h1 h2 h3),fun j am h1 h2 h3=> ?_,iv.hn,fun g=> ?_,fun j am h1 h2 h3=> ?_,?_,iv.kL.trans e1⟩,st⟩
 ·rintro(q|rfl)
  ·exact iv.loud2 j am h1 h2 h3 q
  ·rw[ha]at h2;cases h2;omega
 ·simp only[nL];exact iv.eV g
 ·have lP:=iv.free j am h1 h2 fun q=>h3 (.inl q);have aL:G j<HS.n:=by
   rw[iv.hn];have:=(d.below h1 h2).2;have:=d.n_le (i:=0) (j:=p) (by omega) iv.pn;omega
  rw[e1.fC.2 _ aL];exact lP
 ·have:(⟨(val ao.dst ⟨tS,(FR p).dfs,(FR 0).round⟩ v).tm,(FR p).dfs,(FR 0).round⟩:WR)=val ao.dst ⟨tS,(FR p).dfs,(FR 0).round⟩ v:=by cases ao.dst<;>rfl
  rw[this];exact F1
end
section
variable {P:Program}{ih:Ex}{B:Nat}{nt:Nat}{ops:Array Oper}{as:List WF}{l:List (WF×List Nat)}{FR:Nat->WR}{H:Nat->WA}{G:Nat->Nat}{σ0:Nat->Option Pl}{h0:WA}{w0:World}{b:Frame}
variable {S:Nat->Prop}{p:Nat}{tS:WG Value}{HS:WA}{σ:Nat->Option Pl}{w:World}{a:Act}
theorem zJW(hex:yQ P ih)(aD:yO P ih)(d:Dr P ih nt ops as l FR H G)(iv:Inv P B nt ops as FR H G σ0 h0 w0 b S p tS HS σ w a)(Kb:h0.n<=G 0){i:Nat}{o:Oper}{ao:WF}(ho:ops[i]?=some o)(ha:as[i]?=some ao)(hS:¬S i)
  (hk:zI ao.op=3) (pre:∀ j,Bf (Z4 ops.toList []) i j=true->S j) (fL:∀ j aj,as[j]?=some aj->S j->Bf (Z4 ops.toList []) j i=false):
  zJ1 P B nt ops as FR H G σ0 h0 w0 b S i w a:=by
 have hi:=d.lt ha;have hs:=d.step ha;have nM:p<=i:=by
  rcases GO i p with q|q
  ·exact absurd (iv.loud1 i ao q ha (by omega)) hS
  ·exact q
 have lW:=zCI d iv ha hS pre fL;have hc:=d.op i o ao ho ha;obtain⟨s1,s2,s3,_⟩:=zCK hc;have Eu:=zGQ hc iv.rel.tm;have CL:=YK lW;have aL:∀ (j:Nat) (am:WF),as[j]?=some am->zI am.op=3->G j<HS.n:=fun j am h1 h2=>by
  rw[iv.hn];have:=(d.below h1 h2).2;have:=d.n_le (i:=0) (j:=p) (by omega) iv.pn;omega
 have hb:Nat.beq (zI ao.op) 3=true:=by rw[hk];rfl
 unfold yT at hs;rw[hb]at hs;simp only[cond_true]at hs;cases hw:zV (FR i).tm ao.guard with
 |false=>
  simp only[hw,QU,QA,QD]at hs;obtain⟨hf,_⟩:=hs;have aV:yU P ih ao ⟨tS,(FR p).dfs,(FR 0).round⟩ HS=some (val ao.dst ⟨tS,(FR p).dfs,(FR 0).round⟩ undef,HS):=by
   unfold yU;rw[hw]at CL;simp only[<-CL,QU]
  obtain⟨σ',w',a',e1,F1,_,st⟩:=zAV hex aD ho hc iv.kL.rel iv.rel aV;have nL:∀ j g ob,Pd as FR G (fun j=>S j\/j=i) p j g ob↔Pd as FR G S p j g ob:=by
   intro j g ob;constructor
   ·rintro⟨h1,h2,am,f,h3,h4,h5,h6⟩;refine⟨h1.resolve_right ?_,h2,am,f,h3,h4,h5,h6⟩;rintro rfl;rw[ha]at h3;cases h3;rw[hw]at h5;cases h5
   ·rintro⟨h1,h2⟩;exact⟨.inl h1,h2⟩
  refine⟨p,_,HS,σ',w',a',⟨iv.pn,zA1 d iv ha hS fL (ds:=[]) (v:=undef) (by rw[<-hf];rfl) (FR p).dfs (FR 0).round,fun j am h1 h2 h3=> .inl (iv.loud1 j am h1 h2 h3),fun j am h1 h2 h3=> ?_,iv.hn,fun g=> ?_,fun j am h1 h2 h3=> ?_,?_,iv.kL.trans e1⟩,st⟩
  ·rintro(q|rfl)
   ·exact iv.loud2 j am h1 h2 h3 q
   ·rw[ha]at h2;cases h2;omega
  ·simp only[nL];exact iv.eV g
  ·rw[e1.fC.2 _ (aL j am h1 h2)];exact iv.free j am h1 h2 fun q=>h3 (.inl q)
  ·have:(⟨(val ao.dst ⟨tS,(FR p).dfs,(FR 0).round⟩ undef).tm,(FR p).dfs,(FR 0).round⟩:WR)=val ao.dst ⟨tS,(FR p).dfs,(FR 0).round⟩ undef:=by cases ao.dst<;>rfl
   rw[this];exact F1
 |true=>
  simp only[hw,cond_true]at hs;cases hm:yi (FR i).tm ao.op with
  |none=>simp[hm]at hs
  |some q=>
  obtain⟨ob,f⟩:=q;simp only[hm,QA,QD]at hs;obtain⟨hf,_⟩:=hs;have Nk:yi tS ao.op=some (ob,f):=by rw[<-zIT (zEk lW)];exact hm
  cases dO:B9 P o with
  |none=>
   rw[dO,Gu]at s3;rw[s3]at hk;cases hk
  |some op=>
  rw[dO,GB]at s3;subst s3;obtain⟨O,n,w',cv,m1,m2,m3,m4,m5⟩:=zMe iv.kL.rel iv.rel.tm dO Nk;have xm:=iv.free i ao ha hk hS;obtain⟨k1,k2,k3,k4,k5⟩:=zO9 (o:=ob) iv.kL.rel xm (aL i ao ha hk) m2 m3 m4;have ab:=yR σ (G i) ⟨w.heap.size,0,n⟩;have iO:W0 P B σ0 h0 w0 (Zu σ (G i) ⟨w.heap.size,0,n⟩) (HS.lay (G i) ob) w':=by
   have ev:=iv.kL;refine⟨ev.le.trans k2,k1,m3.1.trans ev.os,m3.2.1.trans ev.tape,m3.2.2.trans ev.output,QP ev.size k3,fun b hb bW=>(k4 b (QI hb ev.size)).trans (ev.kept b hb bW),fun b hb=> ?_,?_,fun g hg=> ?_⟩
   ·rcases k5 b hb with q|q
    ·exact .inl (QP ev.size q)
    ·exact ev.from_ b q
   ·exact ev.fC.1
   ·have aq:g≠G i:=by
     have:=(d.below ha hk).1;omega
    unfold Zu;rw[QC aq];exact ev.fC.2 g hg
  have sF:Region.wanted o (yielded ops a.tmps)=true:=by rw[Eu];rw[hw]at CL;exact CL.symm
  have hnd:∀ c,o.op=.defer c->b.roundOf=none:=fun c hq=>by
   rcases zA4 dO hq with⟨f',_,e⟩|⟨m,t,kt,e',_,_,_,_,e⟩<;>rw[e]at hk<;>cases hk
  refine⟨p,(val ao.dst ⟨tS,(FR p).dfs,(FR 0).round⟩ (f (G i))).tm,HS.lay (G i) ob,_,w',a.put o.dst cv,⟨iv.pn,zA1 d iv ha hS fL (ds:=[]) (v:=f (G i)) (by rw[<-hf];rfl) (FR p).dfs (FR 0).round,
   fun j am h1 h2 h3=> .inl (iv.loud1 j am h1 h2 h3),fun j am h1 h2 h3=> ?_,iv.hn,fun g=> ?_,fun j am h1 h2 h3=> ?_,?_,iO⟩,fun rest k cs aY=> .one (zCZ ho sF hnd m1)⟩
  ·rintro(q|rfl)
   ·exact iv.loud2 j am h1 h2 h3 q
   ·rw[ha]at h2;cases h2;omega
  ·by_cases hg:g=G i
   ·exact .inl ⟨i,ob,⟨.inr rfl,nM,ao,f,ha,hk,hw,hm,hg.symm⟩,by rw[ZX,QF hg]⟩
   ·rw[ZX,QC hg];rcases iv.eV g with⟨j,fK,⟨q1,q2⟩,q3⟩|⟨q1,q2⟩
    ·exact .inl ⟨j,fK,⟨.inl q1,q2⟩,q3⟩
    ·refine .inr ⟨fun j fK hq=> ?_,q2⟩;obtain⟨z1,z2,am,f',z3,z4,z5,z6,z7⟩:=hq;rcases z1 with z1|rfl
     ·exact q1 j fK ⟨z1,z2,am,f',z3,z4,z5,z6,z7⟩
     ·exact hg z7.symm
  ·have aq:G j≠G i:=by
    have Ew:j≠i:=fun q=>h3 (.inr q);have hj:=d.lt h1;rcases GO j i with q|q
    ·have:=d.apart q (by omega) h1 h2;omega
    ·have:=d.apart (i:=i) (j:=j) (by omega) (by omega) ha hk;omega
   unfold Zu;rw[QC aq];exact iv.free j am h1 h2 fun q=>h3 (.inl q)
  ·have:(⟨(val ao.dst ⟨tS,(FR p).dfs,(FR 0).round⟩ (f (G i))).tm,(FR p).dfs,(FR 0).round⟩:WR)=val ao.dst ⟨tS,(FR p).dfs,(FR 0).round⟩ (f (G i)):=by cases ao.dst<;>rfl
   rw[this,s2];exact(iv.rel.mono k2).val s1 (m5 _ _ ab)
end
section
variable {P:Program}{ih:Ex}{B:Nat}{nt:Nat}{ops:Array Oper}{as:List WF}{l:List (WF×List Nat)}{FR:Nat->WR}{H:Nat->WA}{G:Nat->Nat}{σ0:Nat->Option Pl}{h0:WA}{w0:World}{b:Frame}
variable {S:Nat->Prop}{p:Nat}{tS:WG Value}{HS:WA}{σ:Nat->Option Pl}{w:World}{a:Act}
theorem zPO{ao:WF}{fr af:WR}{h h':WA}(hx:yU P ih ao fr h=some (af,h')):
  ∃ v ds,af=val ao.dst {fr with dfs:=ds++fr.dfs} v/\∀ (t2:WG Value) (gb:List Deferred),(∀ s∈YA ao,zC fr.tm s=zC t2 s)->
   yU P ih ao ⟨t2,gb,fr.round⟩ h=some (val ao.dst ⟨t2,ds++gb,fr.round⟩ v,h'):=by
 unfold yU at hx;cases hw:zV fr.tm ao.guard with
 |false=>
  simp only[hw,QU,QA,QD]at hx;obtain⟨rfl,rfl⟩:=hx;refine⟨undef,[],rfl,fun t2 gb hn=> ?_⟩;unfold yU;have:=YK hn;rw[hw]at this;simp only[<-this,QU,GJ]
 |true=>
  simp only[hw,cond_true]at hx;cases hv:yP P ih fr.tm fr.round h ao.op with
  |none=>simp[hv]at hx
  |some q=>
   obtain⟨v,ds,h1⟩:=q;simp only[hv,QA,QD]at hx;obtain⟨rfl,rfl⟩:=hx;refine⟨v,ds,rfl,fun t2 gb hn=> ?_⟩;have:=YK hn;rw[hw]at this;rw[zHK (zEk hn)]at hv;unfold yU;simp only[<-this,cond_true,hv]
theorem Dr.n_eq(d:Dr P ih nt ops as l FR H G){i:Nat}:∀ {j},i<=j->j<=ops.size->(∀ (m:Nat) (ao:WF),i<=m->m<j->as[m]?=some ao->zI ao.op≠2)->(H j).n=(H i).n:=by
 intro j;induction j with
 |zero=>intro h _ _;have:i=0:=by omega
        subst this;rfl
 |succ j lV=>
  intro h hj hn;rcases GO i (j+1)with q|q
  ·rw[<-lV (by omega) (by omega) (fun m ao a b=>hn m ao a (by omega))];obtain⟨o,ao,un,_,h3,_⟩:=d.get (k:=j) (by omega);obtain⟨v,ds,_,_,k0,k3⟩:=ZS (d.step h3);have hle:=zEL ao.op;have aq:=hn j ao (by omega) (by omega) h3;rcases(by omega:zI ao.op=0\/zI ao.op=1\/zI ao.op=3)with hk|hk|hk
   ·rw[k0 (.inl hk)]
   ·rw[k0 (.inr hk)]
   ·rcases k3 hk with⟨_,ke⟩|⟨ob,f,_,_,ke,_⟩<;>rw[ke]<;>rfl
  ·have:i=j+1:=by omega
   subst this;rfl
theorem zLq(hex:yQ P ih)(aD:yO P ih)(d:Dr P ih nt ops as l FR H G)(iv:Inv P B nt ops as FR H G σ0 h0 w0 b S p tS HS σ w a){i:Nat}{o:Oper}{ao:WF}(ho:ops[i]?=some o)(ha:as[i]?=some ao)(hS:¬S i)
  (hk:zI ao.op=2) (pre:∀ j,Bf (Z4 ops.toList []) i j=true->S j) (fL:∀ j aj,as[j]?=some aj->S j->Bf (Z4 ops.toList []) j i=false):
  zJ1 P B nt ops as FR H G σ0 h0 w0 b S i w a:=by
 have hi:=d.lt ha;have hs:=d.step ha;have nM:p<=i:=by
  rcases GO i p with q|q
  ·exact absurd (iv.loud1 i ao q ha (by omega)) hS
  ·exact q
 have ahead:∀ (j:Nat) (aj:WF),j<i->as[j]?=some aj->2<=zI aj.op->S j:=fun j aj hj c9 h2=>by
  rcases d.pair j i aj ao hj c9 ha with q|⟨q,_⟩
  ·exact pre j q
  ·exact absurd ⟨hk,h2⟩ q
 have behind:∀ (j:Nat) (aj:WF),i<j->as[j]?=some aj->zI aj.op=2->¬S j:=fun j aj hj c9 h2 nK=>by
  rcases d.pair i j ao aj hj ha c9 with q|⟨q,_⟩
  ·rw[fL j aj c9 nK]at q;cases q
  ·exact q ⟨h2,by omega⟩
 have quiet:∀ (m:Nat) (am:WF),p<=m->m<i->as[m]?=some am->zI am.op≠2:=fun m am h1 h2 hm h3=>
  iv.loud2 m am h1 hm h3 (ahead m am h2 hm (by omega))
 have gO:∀ g ob,(H i).get g=some ob->HS.get g=some ob:=fun g ob qN=>by
  have hw:=d.walk (S:=S) (g:=g) nM (by omega) (fun m am h1 h2 hm=>⟨fun aS=>absurd aS (quiet m am h1 h2 hm),fun cg nJ _ _=>nJ (ahead m am h2 hm (by omega))⟩);rcases hw with⟨j,fK,hj,q1,q2⟩|⟨q1,q2⟩
  ·rcases iv.eV g with⟨j',pj,r1,r2⟩|⟨r1,_⟩
   ·obtain⟨_,e2⟩:=d.pd_fun q1 r1;rw[r2,<-e2,<-q2,qN]
   ·exact absurd q1 (r1 j fK)
  ·rcases iv.eV g with⟨j',pj,r1,r2⟩|⟨_,r2⟩
   ·rcases GO j' i with z|z
    ·exact absurd r1 (q1 j' pj z)
    ·obtain⟨_,_,am,f,z3,z4,_,_,z5⟩:=r1;have:=d.unlaid z3 z4 z;rw[z5,qN]at this;cases this
   ·rw[r2,<-q2,qN]
 have hn:HS.n=(H i).n:=iv.hn.trans (d.n_eq nM (by omega) quiet).symm;have Ey:(FR i).dfs=(FR p).dfs:=d.dfs nM (by omega) quiet;have fO:=d.round (j:=i) (by omega);have hb:Nat.beq (zI ao.op) 3=false:=by rw[hk];rfl
 unfold yT at hs;rw[hb]at hs;simp only[QU]at hs;obtain⟨v,ds,hf,hq⟩:=zPO hs;have aV:=hq tS (FR p).dfs (zCI d iv ha hS pre fL);rw[fO]at aV;have lM:Wg P B σ {H i with mark:=(H i).n,wr:=[]} w:=iv.kL.rel.sub gO hn.symm;obtain⟨σ',w',a',e1,F1,_,st⟩:=zAV hex aD ho (d.op i o ao ho ha) lM iv.rel aV;obtain⟨qL,x1,x2⟩:=zJH (fun j g ob=>Pd as FR G (fun j=>S j\/j=i) (i+1) j g ob)
  (fun j g ob g' fK h1 h2=>⟨by obtain⟨_,_,_,_,_,_,_,_,e⟩:=h1;obtain⟨_,_,_,_,_,_,_,_,e'⟩:=h2;exact e.symm.trans e',by
   obtain⟨y1,y2,ym,yf,y3,y4,y5,y6,y7⟩:=h1;obtain⟨z1,z2,zm,zf,z3,z4,z5,z6,z7⟩:=h2;rw[y3]at z3;cases z3;rw[y6]at z6;cases z6;rfl⟩) (H (i+1)) ops.size
 have iO:W0 P B σ HS w σ' qL w':=by
  refine zK2 (Hi:={H i with mark:=(H i).n,wr:=[]}) iv.kL.rel gO hn e1 (Yb d.grow hs) x1 fun g ob hg=> ?_;rcases x2 g with⟨j,fK,_,q1,q2⟩|⟨_,q2⟩
  ·right;rw[hg]at q2;cases q2;obtain⟨z1,z2,am,f,z3,z4,z5,z6,z7⟩:=q1;have z1:S j:=z1.resolve_right (by omega);have nL:Pd as FR G S p j g ob:=⟨z1,by omega,am,f,z3,z4,z5,z6,z7⟩;refine⟨?_,zFp z6,by rw[<-z7];exact d.unlaid z3 z4 (k:=i) (by omega)⟩;rcases iv.eV g with⟨j',pj,r1,r2⟩|⟨r1,_⟩
   ·obtain⟨_,e2⟩:=d.pd_fun nL r1;rw[r2,e2]
   ·exact absurd nL (r1 j ob)
  ·left;rw[<-q2];exact hg
 refine⟨i+1,_,qL,σ',w',a',⟨by omega,zA1 d iv ha hS fL hf (ds++(FR p).dfs) (FR 0).round,fun j am h1 h2 h3=> ?_,fun j am h1 h2 h3=> ?_,x1,fun g=> ?_,fun j am h1 h2 h3=> ?_,?_,iv.kL.trans iO⟩,st⟩
 ·rcases GO j i with q|q
  ·exact .inl (ahead j am q h2 h3)
  ·exact .inr (by omega)
 ·rintro(q|q)
  ·exact behind j am (by omega) h2 h3 q
  ·omega
 ·rcases x2 g with⟨j,ob,_,q1,q2⟩|⟨q1,q2⟩
  ·exact .inl ⟨j,ob,q1,q2⟩
  ·refine .inr ⟨fun j ob nL=> ?_,q2⟩;have Ez:=nL;obtain⟨_,_,am,f,z3,_⟩:=Ez;exact q1 j ob (d.lt z3) nL
 ·have aL:G j<HS.n:=by
   rw[iv.hn];have:=(d.below h1 h2).2;have:=d.n_le (i:=0) (j:=p) (by omega) iv.pn;omega
  rw[iO.fC.2 _ aL];exact iv.free j am h1 h2 fun q=>h3 (.inl q)
 ·have:(⟨(val ao.dst ⟨tS,ds++(FR p).dfs,(FR 0).round⟩ v).tm,(FR (i+1)).dfs,(FR 0).round⟩:WR)=val ao.dst ⟨tS,ds++(FR p).dfs,(FR 0).round⟩ v:=by
   rw[hf,zJ6,Ey];cases ao.dst<;>rfl
  rw[this];exact F1
end
section
variable {P:Program}{ih:Ex}{B:Nat}{nt:Nat}{ops:Array Oper}{as:List WF}{l:List (WF×List Nat)}{FR:Nat->WR}{H:Nat->WA}{G:Nat->Nat}{σ0:Nat->Option Pl}{h0:WA}{w0:World}{b:Frame}
def left(ops:Array Oper)(listed:Array Bool):List Nat:=(List.range ops.size).filter fun i=> !listed.getD i true
theorem Inv.congr{S S':Nat->Prop}{p:Nat}{tS:WG Value}{HS:WA}{σ:Nat->Option Pl}{w:World}{a:Act}(he:∀ j,S j↔S' j)(iv:Inv P B nt ops as FR H G σ0 h0 w0 b S p tS HS σ w a):Inv P B nt ops as FR H G σ0 h0 w0 b S' p tS HS σ w a:=by
 have:S=S':=funext fun j=>propext (he j);rw[<-this];exact iv
theorem zOY(hex:yQ P ih)(aD:yO P ih)(d:Dr P ih nt ops as l FR H G)(Kb:h0.n<=G 0)(EA:zEO ops=true):∀ (fuel t:Nat) (listed:Array Bool) {p:Nat} {tS:WG Value} {HS:WA} {σ:Nat->Option Pl} {w:World} {a:Act},
  listed.size=ops.size->(left ops listed).length<=fuel->
  (∀ (j:Nat) (o:Oper),listed.getD j false=true->ops[j]?=some o->∀ e∈o.after.toList,Region.binds .any e=true->listed.getD e.on false=true)->
  Inv P B nt ops as FR H G σ0 h0 w0 b (fun j=>listed.getD j false=true) p tS HS σ w a->
  ∃ p' CJ CK σ' w' a',Inv P B nt ops as FR H G σ0 h0 w0 b (fun j=>j<ops.size) p' CJ CK σ' w' a'/\
   ∀ (k:List Item) (cs:List Frame),zBM b cs->Steps P (lone (At b a (.inRegion ops (Region.linearise.go .any ops fuel t listed [])::k)) cs w) (lone (At b a' (.inRegion ops []::k)) cs w'):=by
 intro fuel;have fin:∀ (listed:Array Bool) {p:Nat} {tS:WG Value} {HS:WA} {σ:Nat->Option Pl} {w:World} {a:Act},listed.size=ops.size->left ops listed=[]->Inv P B nt ops as FR H G σ0 h0 w0 b (fun j=>listed.getD j false=true) p tS HS σ w a->
   Inv P B nt ops as FR H G σ0 h0 w0 b (fun j=>j<ops.size) p tS HS σ w a:=by
  intro listed p tS HS σ w a hsz hl iv;refine iv.congr fun j=>⟨fun hj=> ?_,fun hj=> ?_⟩
  ·rcases GO j ops.size with q|q
   ·exact q
   ·rw[GA,Array.getElem?_eq_none (by omega)]at hj;cases hj
  ·have hm:j∉left ops listed:=by rw[hl];simp
   have hq:listed.getD j true=true:=by
    cases hv:listed.getD j true with
    |true=>rfl
    |false=>exact absurd (Gs.2 ⟨GV.2 hj,by simp[hv]⟩) hm
   rw[GA,Q9 (by omega)]at hq |-;exact hq
 induction fuel with
 |zero=>
  intro t listed p tS HS σ w a hsz hlen a7 iv;exact⟨p,tS,HS,σ,w,a,fin listed hsz (Gm.1 (by omega)) iv,fun k cs aY=>Steps.refl P _⟩
 |succ fuel Nl=>
  intro t listed p tS HS σ w a hsz hlen a7 iv;simp only[Region.linearise.go];change ∃ p' CJ CK σ' w' a',_/\∀ (k:List Item) (cs:List Frame),zBM b cs->Steps P (lone (At b a (.inRegion ops (match(Region.ready .any ops listed)[t % (Region.ready .any ops listed).length]? with
   |some i=>Region.linearise.go .any ops fuel (t / (Region.ready .any ops listed).length) (listed.setIfInBounds i true) [i]
   |none=>[].reverse)::k)) cs w) _
  cases hi:(Region.ready .any ops listed)[t % (Region.ready .any ops listed).length]? with
  |none=>
   have ef:Region.ready .any ops listed=[]:=by
    cases hr:Region.ready .any ops listed with
    |nil=>rfl
    |cons x xs=>
     rw[hr]at hi;have aL:t % (x::xs).length<(x::xs).length:=Nat.mod_lt _ (by simp);simp at hi;simp at aL;omega
   refine⟨p,tS,HS,σ,w,a,fin listed hsz ?_ iv,fun k cs aY=>Steps.refl P _⟩;cases hL:left ops listed with
   |nil=>rfl
   |cons x xs=>
    exfalso;have key:∀ n j,j<n->j∈left ops listed->False:=by
     intro n;induction n with
     |zero=>intro j hj;omega
     |succ n nG=>
      intro j hj hm;obtain⟨cH,cS⟩:=Gs.1 hm;have sG:=GV.1 cH;have hr:j∈Region.ready .any ops listed:=by
       refine Gs.2 ⟨cH,?_⟩;rw[Q9 sG];simp only[QJ,GB,QN];refine⟨cS,?_⟩;rw[Array.all_eq_true'];intro e he;cases hb:Region.binds .any e with
       |false=>rfl
       |true=>
        have aL:=zLF EA (Q9 sG) (by simpa using he) hb;have bW:=nG e.on (by omega);have:listed.getD e.on true=true:=by
         cases hv:listed.getD e.on true with
         |true=>rfl
         |false=>exact absurd (Gs.2 ⟨GV.2 (by omega),by simp[hv]⟩) bW
        rw[GA,Q9 (by omega)]at this |-;simpa using this
      rw[ef]at hr;cases hr
    exact key (x+1) x (by omega) (by rw[hL];exact Qj ..)
  |some i=>
   simp only[];have CH:=Gl hi;obtain⟨cH,cS⟩:=Gs.1 CH;have CN:=GV.1 cH;obtain⟨o,ao,un,ho,ha,_⟩:=d.get CN;rw[ho]at cS;simp only[QJ,GB,QN]at cS;have vM:listed.getD i true=false:=by simpa using cS.1
   have hS:¬listed.getD i false=true:=by
    rw[GA,Q9 (by omega)]at vM |-;simp only[GB]at vM |-;rw[vM];simp
   have lX:∀ e∈o.after.toList,Region.binds .any e=true->listed.getD e.on false=true:=by
    intro e he hb;have:=Array.all_eq_true'.1 cS.2 e (by simpa using he);rw[hb]at this;simpa using this
   have pre:∀ j,Bf (Z4 ops.toList []) i j=true->listed.getD j false=true:=zFu (S:=fun j=>listed.getD j false=true) a7 (i+1) i o (by omega) ho lX;have fL:∀ j aj,as[j]?=some aj->listed.getD j false=true->Bf (Z4 ops.toList []) j i=false:=by
    intro j aj c9 nK;cases hb:Bf (Z4 ops.toList []) j i with
    |false=>rfl
    |true=>
     have sG:=d.lt c9;exact absurd (zFu (S:=fun j=>listed.getD j false=true) a7 (j+1) j ops[j] (by omega) (Q9 sG) (a7 j _ nK (Q9 sG)) i hb) hS
   have lY:zJ1 P B nt ops as FR H G σ0 h0 w0 b (fun j=>listed.getD j false=true) i w a:=by
    have hle:=zEL ao.op;rcases(by omega:(zI ao.op=0\/zI ao.op=1)\/zI ao.op=2\/zI ao.op=3)with hk|hk|hk
    ·exact zJd hex aD d iv ho ha hS hk pre fL
    ·exact zLq hex aD d iv ho ha hS hk pre fL
    ·exact zJW hex aD d iv Kb ho ha hS hk pre fL
   obtain⟨p1,tS1,qL,σ1,w1,a1,Nm,bL⟩:=lY;have cf:∀ j,(listed.setIfInBounds i true).getD j false=true↔listed.getD j false=true\/j=i:=by
    intro j;rw[GA,GA,Ga];by_cases hj:i=j
    ·subst hj;simp[hsz,CN]
    ·rw[QC hj];constructor
     ·exact .inl
     ·rintro(q|q)
      ·exact q
      ·exact absurd q.symm hj
   obtain⟨p2,Nn,No,σ2,w2,a2,Np,bC⟩:=Nl (t / (Region.ready .any ops listed).length) (listed.setIfInBounds i true) (by simpa using hsz) (by
     have:(left ops (listed.setIfInBounds i true)).length<(left ops listed).length:=by
      have e:left ops (listed.setIfInBounds i true)=(left ops listed).filter fun j=> !(listed.setIfInBounds i true).getD j true:=by
       unfold left;rw[List.filter_filter];refine List.filter_congr fun j hj=> ?_;have sG:=GV.1 hj;rw[GA,GA,Ga];by_cases hq:i=j
       ·subst hq;simp[hsz,CN]
       ·rw[QC hq];simp
      rw[e];refine List.length_filter_lt_length_iff_exists.2 ⟨i,Gs.2 ⟨cH,by simp[vM]⟩,?_⟩;rw[GA,Ga];simp[hsz,CN]
     omega)
    (fun j o' hj wT e he hb=>by
     rw[cf]at hj |-;rcases hj with hj|rfl
     ·exact .inl (a7 j o' hj wT e he hb)
     ·rw[ho]at wT;cases wT;exact .inl (lX e he hb)) (Nm.congr fun j=>(cf j).symm)
   refine⟨p2,Nn,No,σ2,w2,a2,Np,fun k cs aY=> ?_⟩;rw[linearise_go_acc,List.reverse_singleton,List.singleton_append];exact Steps.trans (bL _ k cs aY) (bC k cs aY)
end
section
variable {P:Program}{ih:Ex}
theorem zJy(gf:P.follows .mixedOrders=true)(kv:Zf ih)(hex:yQ P ih)(aD:yO P ih):zGN P ih:=by
 intro nt id ops as l hc hd B σ h w fr af a b h' hr hF hx;unfold zGH at hd;simp only[GI]at hd;split at hd;case isFalse=>cases hd
 case isTrue a8=>
 simp only[QA,WY.regionC.injEq]at hd;subst hd;rw[QN]at a8;obtain⟨EA,sI⟩:=a8;obtain⟨c1,c2⟩:=zJB hc;simp only[Array.length_toList]at c1;unfold Yo at hx;cases EB:yH P ih (zB8 (Z4 ops.toList []) [] 0 as) 0 h.n [] [] [] fr {h with n:=h.n+((zB8 (Z4 ops.toList []) [] 0 as).filter fun x=>Nat.beq (zI x.1.op) 3).length} with
 |none=>simp[EB]at hx
 |some q=>
 obtain⟨bB,h1,ws⟩:=q;simp only[EB,QA,QD]at hx;obtain⟨rfl,rfl⟩:=hx;obtain⟨FR,H,G,f0,f1,f2,f3,f4,tr,_,_,_,_⟩:=zP2 EB;obtain⟨u1,u2⟩:=zOr (b:=Z4 ops.toList []) (as:=as) (before:=[]) (j:=0);have bZ:∀ g,h.n<=g->h.get g=none:=fun g hg=>by
  cases hq:h.get g with
  |none=>rfl
  |some o=>obtain⟨pl,z,_⟩:=hr.live _ _ hq;have:=(hr.lt _ _ z).1;omega
 have d:Dr P ih nt ops as (zB8 (Z4 ops.toList []) [] 0 as) FR H G:=by
  refine⟨c1,u1,fun i o ao ho ha=>c2 i o ao (by simpa using ho) ha,fun k ao ha=> ?_,fun i j ai aj ly fR Nq=> ?_,tr,kv,by rw[f1,f2];exact QE _,fun g hg=> ?_⟩
  ·obtain⟨un,a1,_,a3⟩:=u2 k ao ha;exact⟨un,a1,fun k2 kK h1 h2 h3 h4=>by have:=a3 k2 kK h1 h2 (by simpa using h3) h4;simpa using this⟩
  ·exact zKk (zLg sI i j _ _ ly (zCA c1 fR) (zCA c1 Nq))
  ·rw[f1];exact bZ g (by rw[<-f2];exact hg)
 have CO:∀ g,(H 0).get g=h.get g:=fun g=>by rw[f1];rfl
 have hrel0:Wg P B σ (H 0) w:=by
  have hn:h.n<=(H 0).n:=by rw[f1];exact JB _ _
  refine⟨hr.globals,fun g pl hg=>⟨QI (hr.lt g pl hg).1 hn,(hr.lt g pl hg).2⟩,fun g o hg=>hr.live g o (by rw[<-CO];exact hg),
   fun g o g' o' pl cP a1 a2=>hr.apart g o g' o' pl cP (by rw[<-CO];exact a1) (by rw[<-CO];exact a2),hr.le⟩
 have EC:W0 P B σ h w σ (H 0) {w with drawn:=w.drawn+1}:=by
  refine⟨.refl _,hrel0.drew _,rfl,rfl,rfl,QE _,fun _ _ _=>rfl,fun b' ⟨g,o,pl,a1,a2⟩=> .inr ⟨g,o,pl,by rw[<-CO];exact a1,a2⟩,by rw[f1];exact JB _ _,fun _ _=>rfl⟩
 have ED:(⟨fr.tm,(FR 0).dfs,(FR 0).round⟩:WR)=fr:=by rw[f0]
 have CQ:∀ j,¬(Array.replicate ops.size false).getD j false=true:=fun j=>by
  rw[GA,Array.getElem?_replicate];split<;>simp
 have Nr:Inv P B nt ops as FR H G σ h w b (fun j=>(Array.replicate ops.size false).getD j false=true) 0 fr.tm (H 0) σ {w with drawn:=w.drawn+1} a:=by
  refine⟨QK _,fun s m hm k1 k2=> ?_,fun j ao hj=>by omega,fun j ao _ _ _ hj=>CQ j hj,rfl,fun g=> .inr ⟨fun j ob hp=>CQ j hp.1,rfl⟩,fun j ao c9 hk _=> ?_,?_,EC⟩
  ·have:=d.slot (s:=s) (i:=0) (j:=m) (by omega) hm fun j ao _ h2 c9 pk=>CQ j (k1 j ao h2 c9 pk);rw[this,f0]
  ·have:=(d.below c9 hk).1;rw[f2]at this;cases hq:σ (G j)with
   |none=>rfl
   |some pl=>have:=(hr.lt _ _ hq).1;omega
  ·rw[ED];exact hF
 obtain⟨p,tS,HS,σ',w',a',iv,st⟩:=zOY hex aD d (by rw[f2];exact QE _) EA ops.size (w.tape w.drawn (.order b.fn id)) (Array.replicate ops.size false) (by simp)
  (by have:=List.length_filter_le (fun i=> !(Array.replicate ops.size false).getD i true) (List.range ops.size);simpa [left]using this) (fun j o hj=>absurd hj (CQ j)) Nr
 have hlen:(zB8 (Z4 ops.toList []) [] 0 as).length=ops.size:=by rw[u1,c1]
 rw[hlen]at f3 f4;subst f3 f4;have iQ:∀ (m:Nat) (am:WF),p<=m->m<ops.size->as[m]?=some am->zI am.op≠2:=fun m am a1 a2 a3 a4=>iv.loud2 m am a1 a3 a4 a2;have bq:∀ g,HS.get g=(H ops.size).get g:=fun g=>by
  have hw:=d.walk (S:=fun j=>j<ops.size) (p:=p) (g:=g) iv.pn (QE _) (fun m am a1 a2 hm=>⟨fun aS=>absurd aS (iQ m am a1 a2 hm),fun _ nJ _ _=>nJ a2⟩);rcases hw with⟨j,fK,hj,q1,q2⟩|⟨q1,q2⟩
  ·rcases iv.eV g with⟨j',pj,r1,r2⟩|⟨r1,_⟩
   ·obtain⟨_,e2⟩:=d.pd_fun q1 r1;rw[r2,<-e2,q2]
   ·exact absurd q1 (r1 j fK)
  ·rcases iv.eV g with⟨j',pj,r1,r2⟩|⟨_,r2⟩
   ·exact absurd r1 (q1 j' pj r1.1)
   ·rw[r2,q2]
 have hn:HS.n=(H ops.size).n:=iv.hn.trans (d.n_eq iv.pn (QE _) iQ).symm;refine⟨σ',w',a',?_,?_,?_,fun k cs aY=> ?_⟩
 ·exact iv.kL.trans (W0.same (h2:={H ops.size with mark:=h.mark,wr:=((ws.map (·.2)).filter fun g=> !Nat.ble h.mark g)++h.wr}) iv.kL.rel (fun g o hg=>by rw[bq];exact hg) hn.symm)
 ·refine⟨iv.rel.size,fun k=> ?_,?_,?_⟩
  ·have:=iv.slots k ops.size (QE _) (fun j ao hj _ _=>hj) (fun j ao hj c9 _ sG=>by omega);rw[<-this];exact iv.rel.tm k
  ·rw[d.dfs iv.pn (QE _) iQ];exact iv.rel.dfs
  ·rw[d.round (QE _)];exact iv.rel.round
 ·rw[d.round (QE _),f0]
 ·refine Steps.trans (.one zEn) (.trans ?_ (.one (zB9 (ops:=ops))));have:=st k cs aY;unfold Region.schedule;rw[gf];simp only[Q3,Q6];exact this
structure Wy.Ok(P:Program)(tab:Wy):Prop where
 code:∀ f a,tab.code f=some a->zFn P f=some a
 stub:∀ f s,tab.stub f=some s->zF9 P f s
 grow:∀ f s,tab.stub f=some s->∀ args h v h',s args h=some (v,h')->Wk h.n h h'
theorem sound(gf:P.follows .mixedOrders=true){tab:Wy}(dQ:tab.Ok P)(n:Nat):yQ P (BI P tab n)/\yO P (BI P tab n):=by
 induction n with
 |zero=>exact⟨(fun nt c ac _ fr h e af h' hx=>by cases hx),(fun f args h v h' hx=>by cases hx)⟩
 |succ n ih=>exact⟨zH5 ih.1 ih.2 (zJy gf (zL8 dQ.grow n) ih.1 ih.2),zIU ih.1 ih.2 dQ.code dQ.stub⟩
end
section
variable {P:Program}{B:Nat}{σ:Nat->Option Pl}{h h':WA}{w:World}
theorem zMC(gf:P.follows .mixedOrders=true){tab:Wy}(dQ:tab.Ok P){n:Nat}{f:FuncId}{args:List Value}{as:Array Value}{v:Value}
  (hx:(BI P tab n).call f args h=some (v,h')) (hr:Wg P B σ h w) (hl:WW σ args as.toList):
  Calls P f as w fun e w'=>∃ σ' cv,e=.returned cv/\WI σ' v cv/\W0 P B σ h w σ' h' w':=by
 intro cs;obtain⟨_,h2⟩:=(sound gf dQ n).2 f args h v h' hx;obtain⟨σ',w',cv,e1,e2,e3⟩:=h2 B σ w hr as hl .normal (.inl rfl);obtain⟨af,e4,e5⟩:=e3 cs (.inl rfl);exact⟨.returned cv,w',af,⟨σ',cv,rfl,e2,e1⟩,e4,e5.fn,e5.mode,e5.defers,e5.kind,by
  obtain⟨fn,q1,q2⟩:=e5.results;exact⟨fn,by rw[e5.fn];exact q1,q2⟩⟩
theorem zLx(gf:P.follows .mixedOrders=true){tab:Wy}(dQ:tab.Ok P){n:Nat}{f:FuncId}{args:List Value}{as:Array Value}
  (hx:((BI P tab n).call f args h).map (·.1)=some (.bool true)) (hr:Wg P B σ h w) (hl:WW σ args as.toList):
  Calls P f as w fun e w'=>e=.returned (.bool true)/\Below B w w':=by
 cases hc:(BI P tab n).call f args h with
 |none=>simp[hc]at hx
 |some p=>
  obtain⟨v,h'⟩:=p;simp only[hc,QJ,QA]at hx;subst hx;exact Calls.mono (zMC gf dQ hc hr hl) fun e w' ⟨σ',cv,e1,e2,e3⟩=>by
   cases e2;exact⟨e1,e3.below hr⟩
end
section
variable {P:Program}{w:World}
def s0(P:Program)(w:World):Nat->Option Pl:=fun g=>if g<P.globals.size then some ⟨g,0,match w.heap[g]? with|some (.cells c _ _)=>c.size|_=>0⟩else none
def zPq(n:Nat):WA:={n:=n,tab:= .leaf,mark:=0,wr:=[]}
theorem hrel0(hg:P.globals.size<=w.heap.size):Wg P w.heap.size (s0 P w) (zPq P.globals.size) w:=by
 refine⟨fun g h=>⟨⟨g,0,match w.heap[g]? with|some (.cells c _ _)=>c.size|_=>0⟩,QF h,rfl,rfl⟩,fun g pl hp=> ?_,fun g o hg=> ?_,fun g o g' o' pl cP hg=> ?_,QE _⟩
 ·unfold s0 at hp;split at hp
  ·cases hp;exact⟨by assumption,by show g<w.heap.size;omega⟩
  ·cases hp
 ·cases hg
 ·cases hg
end
end Go.Am
