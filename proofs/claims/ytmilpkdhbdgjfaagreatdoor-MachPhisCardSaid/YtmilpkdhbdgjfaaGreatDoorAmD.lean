/- A part of the machine and of its soundness; proves no statement. -/
import Derived.Test.YtmilpkdhbdgjfaaGreatDoorAmC
import Derived.OpenShut
import Derived.ChangeOld
import Derived.LaidMore
import Derived.MakeChecks
import Derived.HandedShaped
set_option linter.all false
namespace Go.Am
open Go.RowKit
section
variable {P:Program}
def zCX:Value->Value->Bool
 | .int k a,.int k' b=>decide (k=k')&&a == b
 | .bool a,.bool b=>a == b
 |_,_=>false
def zAQ:List Value->List Value->Bool
 |[],[]=>true
 |a::l,b::m=>zCX a b&&zAQ l m
 |_,_=>false
theorem zNF:∀ {a b:Value},zCX a b=true->a=b
 | .int k a,.int k' b,h=>by
  simp only[zCX,QJ,QY,beq_iff_eq]at h;rw[h.1,h.2]
 | .bool a,.bool b,h=>by
  simp only[zCX,beq_iff_eq]at h;rw[h]
theorem zJe:∀ {l m:List Value},zAQ l m=true->l=m
 |[],[],_=>rfl
 |a::l,b::m,h=>by
  simp only[zAQ,QJ]at h;rw[zNF h.1,zJe h.2]
def YX(n:Nat):List (Nat×List Value)->WF
 |[]=>zPO n
 |(g,cells)::l=>{YX n l with tab:=(YX n l).tab.set g (.row cells false 0)}
def zCp(h:WF)(l:List (Nat×List Value)):Bool:=l.all fun(g,cells)=>match h.get g with
 |some (.row c _ _)=>zAQ c cells
 |_=>false
def zAw(l:List (Nat×List Value))(v:Value):List Value->WF->Option (Value×WF):=
 fun args h=>bif args.isEmpty&&zCp h l then some (v,h)else none
theorem Ze(n:Nat):∀ (l:List (Nat×List Value)) (g:Nat) (o:Wm),(YX n l).get g=some o->∃ cells,(g,cells)∈l/\o=.row cells false 0
 |[],g,o,h=>by
  have h:(WI.leaf:WI Wm).get g=some o:=h;cases h
 |(k,cells)::l,g,o,h=>by
  have h2:((YX n l).tab.set k (.row cells false 0)).get g=some o:=h;rw[zd]at h2;by_cases e:g=k
  ·rw[QG e]at h2;subst e;exact⟨cells,by simp,(Q5 h2).symm⟩
  ·rw[QC e]at h2;obtain⟨c,a,b⟩:=Ze n l g o h2;exact⟨c,by simp[a],b⟩
theorem zDW(n:Nat):∀ (l:List (Nat×List Value)),(YX n l).n=n
 |[]=>rfl
 |_::l=>zDW n l
theorem zQQ{B:Nat}{σ:Nat->Option Pl}{h:WF}{w:World}(hg:P.globals.size<=w.heap.size)(hr:Wg P B σ h w)(l:List (Nat×List Value))(hl:∀ x∈l,x.1<P.globals.size/\y8 x.2=true)
  (hh:zCp h l=true):Wg P w.heap.size (s0 P w) (YX P.globals.size l) w:=by
 refine⟨fun g h=>⟨⟨g,0,match w.heap[g]? with|some (.cells c _ _)=>c.size|_=>0⟩,QG h,rfl,rfl⟩,fun g pl hp=> ?_,fun g o hg=> ?_,fun g o g' o' pl pl' hg hg' hne hp hp' hb=> ?_,QE _⟩
 ·unfold s0 at hp;split at hp
  ·cases hp;exact⟨by rw[zDW];assumption,by show g<w.heap.size;omega⟩
  ·cases hp
 ·obtain⟨cells,a,rfl⟩:=Ze _ l g o hg;obtain⟨b1,b2⟩:=hl _ a;refine⟨⟨g,0,match w.heap[g]? with|some (.cells c _ _)=>c.size|_=>0⟩,QG b1,?_,fun e=>by cases e⟩;have:=QV.1 hh _ a;simp only at this;cases hq:h.get g with
  |none=>simp[hq]at this
  |some o=>
   cases o with
   |row c own lo=>
    simp only[hq]at this;have e:=zJe this;subst e;obtain⟨pl,c1,c2,c3⟩:=hr.live _ _ hq;obtain⟨pl',d1,d2,d3⟩:=hr.globals g b1;rw[c1]at d1;cases d1;obtain⟨cs,elem,fr,e1,e2,e3,e4,e5⟩:=c2;rw[d2]at e1;refine⟨cs,elem,fr,e1,by simp[e1],by simp only[e1];omega,fun i x hx=> ?_,fun e=>by cases e⟩;obtain⟨y,y1,y2⟩:=e4 i x hx;have hc:yS x=true:=QV.1 b2 x (Ga hx);have:=y2.closed_eq hc;subst this;exact⟨y,by simpa [d3]using y1,VM _ hc⟩
   |map es k=>simp[hq]at this
   |loop r=>simp[hq]at this
   |deferred ds=>simp[hq]at this
   |iter s p=>simp[hq]at this
 ·obtain⟨c,a,rfl⟩:=Ze _ l g o hg;obtain⟨c',a',rfl⟩:=Ze _ l g' o' hg';exact⟨fun⟨x,_⟩=>Bool.noConfusion x,fun x=>Bool.noConfusion x,fun x=>Bool.noConfusion x⟩
theorem zGs{tab:Wv}(hmix:P.follows .mixedOrders=true)(htab:tab.Ok P){f n:Nat}{v:Value}{l:List (Nat×List Value)}(hv:yS v=true)(hl:∀ x∈l,x.1<P.globals.size/\y8 x.2=true)
  (hx:((BI P tab n).call f [] (YX P.globals.size l)).map (·.1)=some v):zCn P f (zAw l v):=by
 intro e g args h v' h' hk;have hk:(if g=f then zAw l v args h else none)=some (v',h'):=hk;split at hk;case isFalse=>cases hk
 rename_i hgf;subst hgf;unfold zAw at hk;cases hc:(args.isEmpty&&zCp h l)with
 |false=>simp[hc]at hk
 |true=>
 simp only[hc,cond_true,QA,QD]at hk;obtain⟨rfl,rfl⟩:=hk;rw[QJ]at hc;obtain⟨hargs,hlaid⟩:=hc;cases hq:(BI P tab n).call g [] (YX P.globals.size l)with
 |none=>simp[hq]at hx
 |some q=>
 obtain⟨v1,h1⟩:=q;simp only[hq,QH,QA]at hx;subst hx;obtain⟨s1,s2⟩:=(sound hmix htab n).2 g [] _ _ _ hq;have hnil:args=[]:=List.isEmpty_iff.1 hargs;subst hnil;refine⟨fun as w=>s1 as w,fun B σ w hr as hl' kind hk'=> ?_⟩;have has:as=#[]:=by
  have:=hl'.1;simp at this;exact Array.eq_empty_of_size_eq_zero this.symm
 subst has;have hgs:P.globals.size<=w.heap.size:=by
  by_cases h0:P.globals.size=0
  ·omega
  ·obtain⟨pl,a,b,_⟩:=hr.globals (P.globals.size-1) (by omega);have:=(hr.lt _ _ a).2;omega
 have hr0:=zQQ hgs hr l hl hlaid;obtain⟨σ',w',cv,ev,c2,c3⟩:=s2 w.heap.size (s0 P w) w hr0 #[] (WW.nil _) kind hk';have hcv:cv=v1:=c2.closed_eq hv;subst hcv;have bel:=ev.below hr0;have keep:∀ b,b<w.heap.size->w'.heap[b]?=w.heap[b]?:=bel.block;refine⟨σ,w',cv,⟨.refl _,⟨hr.globals,fun g pl hg=>⟨(hr.lt g pl hg).1,QK (hr.lt g pl hg).2 bel.size⟩,fun g o hg=> ?_,hr.apart,QN hr.le bel.size⟩,ev.os,ev.tape,ev.output,ev.size,fun b hb _=>keep b hb,fun b hb=> .inr hb,QE _,fun _ _=>rfl⟩,VM _ hv,c3⟩;obtain⟨pl,a1,a2,a3⟩:=hr.live g o hg;exact⟨pl,a1,a2.keep (.refl _) (keep _ (hr.lt _ _ a1).2),a3⟩
theorem zI5{l:List (Nat×List Value)}{v:Value}(args:List Value)(h:WF)(v':Value)(h':WF)(hk:zAw l v args h=some (v',h')):Wk h.n h h':=by
 unfold zAw at hk;cases hc:(args.isEmpty&&zCp h l)with
 |false=>simp[hc]at hk
 |true=>
 simp only[hc,cond_true,QA,QD]at hk;obtain⟨_,rfl⟩:=hk;exact⟨QE _,fun _ _ h=>h,rfl,fun _ h=>h,fun _ _ _ _=>rfl,fun _ _ h _=>h,fun h=>h⟩
end
def Ev(p:Nat->Prop):Prop:=∃ N,∀ n,N<=n->p n
theorem Ev.mono{p q:Nat->Prop}(h:Ev p)(k:∀ n,p n->q n):Ev q:=let⟨N,a⟩:=h;⟨N,fun n hn=>k n (a n hn)⟩
theorem Ev.and{p q:Nat->Prop}(h:Ev p)(k:Ev q):Ev fun n=>p n/\q n:=
 let⟨N,a⟩:=h;let⟨M,b⟩:=k;⟨max N M,fun n hn=>⟨a n (by omega),b n (by omega)⟩⟩
theorem Ev.all{p:Nat->Prop}(h:∀ n,p n):Ev p:=⟨0,fun n _=>h n⟩
theorem Ev.up{p:Nat->Prop}(h:Ev fun n=>p (n+1)):Ev p:=
 let⟨N,a⟩:=h;⟨N+1,fun n hn=>by obtain⟨m,rfl⟩:∃ m,n=m+1:=⟨n-1,by omega⟩;exact a m (by omega)⟩
theorem Ev.get{p:Nat->Prop}(h:Ev p):∃ n,p n:=let⟨N,a⟩:=h;⟨N,a N (QE _)⟩
section
variable {P:Program}{tab:Wv}
def WX(P:Program)(tab:Wv)(c:WU)(fr:WR)(h:WF)(K:WP->WR->WF->Prop):Prop:=
 ∃ e fr' h',K e fr' h'/\Ev fun n=>(BI P tab n).exec c fr h=some (e,fr',h')
def WC(P:Program)(tab:Wv)(f:FuncId)(args:List Value)(h:WF)(Q:Value->WF->Prop):Prop:=
 ∃ v h',Q v h'/\Ev fun n=>(BI P tab n).call f args h=some (v,h')
def WV(P:Program)(tab:Wv)(f:Value)(args:List Value)(h:WF)(Q:Value->WF->Prop):Prop:=
 ∃ v h',Q v h'/\Ev fun n=>zAK (BI P tab n) f args h=some (v,h')
def WO(P:Program)(tab:Wv)(ops:List WG)(fr:WR)(h:WF)(Q:WR->WF->Prop):Prop:=
 ∃ fr' h',Q fr' h'/\Ev fun n=>yT P (BI P tab n) ops fr h=some (fr',h')
theorem WX.mono{c fr h K K'}(hx:WX P tab c fr h K)(hk:∀ e fr h,K e fr h->K' e fr h):WX P tab c fr h K':=
 let⟨e,fr',h',a,b⟩:=hx;⟨e,fr',h',hk _ _ _ a,b⟩
theorem WC.mono{f args h Q Q'}(hx:WC P tab f args h Q)(hk:∀ v h,Q v h->Q' v h):WC P tab f args h Q':=
 let⟨v,h',a,b⟩:=hx;⟨v,h',hk _ _ a,b⟩
theorem WV.mono{f args h Q Q'}(hx:WV P tab f args h Q)(hk:∀ v h,Q v h->Q' v h):WV P tab f args h Q':=
 let⟨v,h',a,b⟩:=hx;⟨v,h',hk _ _ a,b⟩
def zEC(P:Program)(tab:Wv)(b:WU)(K:WP->WR->WF->Prop):WP->WR->WF->Prop
 | .normal,fr,h=>WX P tab b fr h K
 | .exit i,fr,h=>K (.exit i) fr h
 | .goto l,fr,h=>K (.goto l) fr h
 | .ret,fr,h=>K .ret fr h
def Y9(id:Nat)(K:WP->WR->WF->Prop):WP->WR->WF->Prop
 | .normal,fr,h=>K .normal fr h
 | .exit i,fr,h=>if i=id then K .normal fr h else K (.exit i) fr h
 | .goto l,fr,h=>K (.goto l) fr h
 | .ret,fr,h=>K .ret fr h
def zCS{α:Type}(μ:α->Nat)(I:α->WI Value->WF->Prop)(x:α)(ds:List Deferred)(rd:Option Nat)(K:WP->WR->WF->Prop):WP->WR->WF->Prop
 | .normal,fr,h=>fr.dfs=ds/\fr.round=rd/\∃ y,μ y<μ x/\I y fr.tm h
 | .exit i,fr,h=>K (.exit i) fr h
 | .goto l,fr,h=>K (.goto l) fr h
 | .ret,fr,h=>K .ret fr h
theorem Zz{b fr h K}(hx:WX P tab b fr h K):zEC P tab b K .normal fr h:=hx
theorem zDv{b i fr h K}(hx:K (.exit i) fr h):zEC P tab b K (.exit i) fr h:=hx
theorem zEk{b i fr h K}(hx:K (.goto i) fr h):zEC P tab b K (.goto i) fr h:=hx
theorem zE7{b fr h K}(hx:K .ret fr h):zEC P tab b K .ret fr h:=hx
theorem zBW{id fr h}{K:WP->WR->WF->Prop}(hx:K .normal fr h):Y9 id K .normal fr h:=hx
theorem zCu{id fr h}{K:WP->WR->WF->Prop}(hx:K .normal fr h):Y9 id K (.exit id) fr h:=by simp only[Y9,Q9];exact hx
theorem zAv{i id fr h}{K:WP->WR->WF->Prop}(hi:Nat.beq i id=false)(hx:K (.exit i) fr h):Y9 id K (.exit i) fr h:=by
 have:¬i=id:=fun e=>by subst e;simp at hi
 simp only[Y9,QC this];exact hx
theorem zC2{id l fr h}{K:WP->WR->WF->Prop}(hx:K (.goto l) fr h):Y9 id K (.goto l) fr h:=hx
theorem zD2{id fr h}{K:WP->WR->WF->Prop}(hx:K .ret fr h):Y9 id K .ret fr h:=hx
section
variable {α:Type}{μ:α->Nat}{I:α->WI Value->WF->Prop}{x:α}{ds:List Deferred}{rd:Option Nat}{K:WP->WR->WF->Prop}
theorem zA{t h}(y:α)(hm:μ y<μ x)(hx:I y t h):zCS μ I x ds rd K .normal ⟨t,ds,rd⟩ h:=⟨rfl,rfl,y,hm,hx⟩
theorem zD7{i fr h}(hx:K (.exit i) fr h):zCS μ I x ds rd K (.exit i) fr h:=hx
theorem zEF{i fr h}(hx:K (.goto i) fr h):zCS μ I x ds rd K (.goto i) fr h:=hx
theorem zE2{fr h}(hx:K .ret fr h):zCS μ I x ds rd K .ret fr h:=hx
end
theorem zo(n:Nat)(c fr h):(BI P tab (n+1)).exec c fr h=zh P (BI P tab n) c fr h:=rfl
theorem zCr(n:Nat)(f args h):(BI P tab (n+1)).call f args h=zAo P tab (BI P tab n) f args h:=rfl
theorem WX.skip{fr h K}(hx:K .normal fr h):WX P tab .skip fr h K:=⟨_,_,_,hx,Ev.up (Ev.all fun _=>rfl)⟩
theorem WX.label{l fr h K}(hx:K .normal fr h):WX P tab (.label l) fr h K:=⟨_,_,_,hx,Ev.up (Ev.all fun _=>rfl)⟩
theorem WX.exit{i fr h K}(hx:K (.exit i) fr h):WX P tab (.exit i) fr h K:=⟨_,_,_,hx,Ev.up (Ev.all fun _=>rfl)⟩
theorem WX.goto{i fr h K}(hx:K (.goto i) fr h):WX P tab (.goto i) fr h K:=⟨_,_,_,hx,Ev.up (Ev.all fun _=>rfl)⟩
theorem WX.ret{fr h K}(hx:K .ret fr h):WX P tab .ret fr h K:=⟨_,_,_,hx,Ev.up (Ev.all fun _=>rfl)⟩
theorem WX.region{ops fr h K}(hx:WO P tab ops fr h fun fr h=>K .normal fr h):WX P tab (.region ops) fr h K:=
 let⟨fr',h',a,b⟩:=hx
 ⟨_,_,_,a,Ev.up (b.mono fun n e=>by rw[zo];simp only[zh,e,QH])⟩
theorem WX.seq{a b fr h K}(hx:WX P tab a fr h (zEC P tab b K)):WX P tab (.seq a b) fr h K:=by
 obtain⟨e,fr',h',k,ev⟩:=hx;cases e with
 |normal=>
  obtain⟨e2,fr2,h2,k2,ev2⟩:=k;exact⟨e2,fr2,h2,k2,Ev.up ((ev.and ev2).mono fun n ⟨e1,e2⟩=>by rw[zo];simp only[zh,e1,e2])⟩
 |exit i=>exact⟨_,_,_,k,Ev.up (ev.mono fun n e=>by rw[zo];simp only[zh,e])⟩
 |goto i=>exact⟨_,_,_,k,Ev.up (ev.mono fun n e=>by rw[zo];simp only[zh,e])⟩
 |ret=>exact⟨_,_,_,k,Ev.up (ev.mono fun n e=>by rw[zo];simp only[zh,e])⟩
theorem WX.cond{c x y fr h K}(b:Bool)(hb:ev fr.tm c=.bool b)(h1:b=true->WX P tab x fr h K)(h2:b=false->WX P tab y fr h K):WX P tab (.cond c x y) fr h K:=by
 cases b with
 |true=>obtain⟨e,fr',h',k,ev⟩:=h1 rfl;exact⟨_,_,_,k,Ev.up (ev.mono fun n e=>by rw[zo];simp only[zh,hb,e])⟩
 |false=>obtain⟨e,fr',h',k,ev⟩:=h2 rfl;exact⟨_,_,_,k,Ev.up (ev.mono fun n e=>by rw[zo];simp only[zh,hb,e])⟩
theorem Xq{c x y fr h K}(hb:ev fr.tm c=.bool true)(h1:WX P tab x fr h K):WX P tab (.cond c x y) fr h K:=WX.cond true hb (fun _=>h1) (fun h=>by cases h)
theorem Xt{c x y fr h K}(hb:ev fr.tm c=.bool false)(h1:WX P tab y fr h K):WX P tab (.cond c x y) fr h K:=WX.cond false hb (fun h=>by cases h) (fun _=>h1)
theorem WX.block{id b fr h K}(hx:WX P tab b fr h (Y9 id K)):WX P tab (.block id b) fr h K:=by
 obtain⟨e,fr',h',k,ev⟩:=hx;cases e with
 |normal=>exact⟨_,_,_,k,Ev.up (ev.mono fun n e=>by rw[zo];simp only[zh,e])⟩
 |goto i=>exact⟨_,_,_,k,Ev.up (ev.mono fun n e=>by rw[zo];simp only[zh,e])⟩
 |ret=>exact⟨_,_,_,k,Ev.up (ev.mono fun n e=>by rw[zo];simp only[zh,e])⟩
 |exit i=>
  simp only[Y9]at k;by_cases hi:i=id
  ·rw[QG hi]at k;exact⟨_,_,_,k,Ev.up (ev.mono fun n e=>by rw[zo];simp only[zh,e,QG hi])⟩
  ·rw[QC hi]at k;exact⟨_,_,_,k,Ev.up (ev.mono fun n e=>by rw[zo];simp only[zh,e,QC hi])⟩
theorem WX.loop{α:Type}(μ:α->Nat)(I:α->WI Value->WF->Prop)(x:α){b t ds rd h K}(h0:I x t h)
  (hb:∀ x t h,I x t h->WX P tab b ⟨t,ds,rd⟩ h (zCS μ I x ds rd K)):WX P tab (.loop b) ⟨t,ds,rd⟩ h K:=by
 generalize hm:μ x=m;induction m using Nat.strongRecOn generalizing x t h with
 |_ m ih=>
  obtain⟨e,fr',h',k,ev⟩:=hb x t h h0;cases e with
  |normal=>
   obtain⟨k1,k2,y,k3,k4⟩:=k;obtain⟨t',ds',rd'⟩:=fr';simp only at k1 k2 k4;subst k1 k2;obtain⟨e2,fr2,h2,kk,ev2⟩:=ih (μ y) (by omega) y k4 rfl;exact⟨e2,fr2,h2,kk,Ev.up ((ev.and ev2).mono fun n ⟨e1,e2⟩=>by rw[zo];simp only[zh,e1,e2])⟩
  |exit i=>exact⟨_,_,_,k,Ev.up (ev.mono fun n e=>by rw[zo];simp only[zh,e])⟩
  |goto i=>exact⟨_,_,_,k,Ev.up (ev.mono fun n e=>by rw[zo];simp only[zh,e])⟩
  |ret=>exact⟨_,_,_,k,Ev.up (ev.mono fun n e=>by rw[zo];simp only[zh,e])⟩
def zQi{α:Type}(l:Nat)(μ:α->Nat)(I:α->WI Value->WF->Prop)(x:α)(ds:List Deferred)(rd:Option Nat)(K:WP->WR->WF->Prop):WP->WR->WF->Prop
 | .normal,fr,h=>K .normal fr h
 | .exit i,fr,h=>K (.exit i) fr h
 | .goto m,fr,h=>m=l/\fr.dfs=ds/\fr.round=rd/\∃ y,μ y<μ x/\I y fr.tm h
 | .ret,fr,h=>K .ret fr h
section
variable {α:Type}{l:Nat}{μ:α->Nat}{I:α->WI Value->WF->Prop}{x:α}{ds:List Deferred}{rd:Option Nat}{K:WP->WR->WF->Prop}
end
def zM9(M:WI Value->WF->Prop)(ds:List Deferred)(rd:Option Nat)(K:WP->WR->WF->Prop):WP->WR->WF->Prop
 | .normal,fr,h=>fr.dfs=ds/\fr.round=rd/\M fr.tm h
 | .exit i,fr,h=>K (.exit i) fr h
 | .goto l,fr,h=>K (.goto l) fr h
 | .ret,fr,h=>K .ret fr h
section
variable {M:WI Value->WF->Prop}{ds:List Deferred}{rd:Option Nat}{K:WP->WR->WF->Prop}
theorem zD{t h}(hx:M t h):zM9 M ds rd K .normal ⟨t,ds,rd⟩ h:=⟨rfl,rfl,hx⟩
theorem zB0{fr h}(hx:K .ret fr h):zM9 M ds rd K .ret fr h:=hx
end
def WD(P:Program)(tab:Wv)(ds:List Deferred)(h:WF)(Q:WF->Prop):Prop:=
 ∃ h',Q h'/\Ev fun n=>yX (BI P tab n) ds h=some h'
theorem WD.nil{h}{Q:WF->Prop}(hx:Q h):WD P tab [] h Q:=⟨h,hx,Ev.all fun _=>rfl⟩
theorem WD.collected{g ds h}{Q:WF->Prop}(hg:h.get g=some (.deferred (some [])))(hx:WD P tab ds (h.set g (.deferred none)) Q):
  WD P tab ({target:= .collected g,args:=#[]}::ds) h Q:=by
 obtain⟨h',a,b⟩:=hx;exact⟨h',a,b.mono fun n e=>by simp only[yX,hg,e]⟩
def zEB(P:Program)(tab:Wv)(rs:List (Nat×Option (Bool×Nat)))(Q:Value->WF->Prop):WP->WR->WF->Prop
 | .normal,fr,h=>WD P tab fr.dfs h fun h=>∃ vs,z0 h fr.tm rs=some vs/\Q (one vs) h
 | .ret,fr,h=>WD P tab fr.dfs h fun h=>∃ vs,z0 h fr.tm rs=some vs/\Q (one vs) h
 |_,_,_=>False
theorem zMn{rs Q t rd h}{vs:List Value}(hr:z0 h t rs=some vs)(hx:Q (one vs) h):zEB P tab rs Q .ret ⟨t,[],rd⟩ h:=WD.nil ⟨vs,hr,hx⟩
theorem zG1{rs Q t rd h}{vs:List Value}(hr:z0 h t rs=some vs)(hx:Q (one vs) h):zEB P tab rs Q .normal ⟨t,[],rd⟩ h:=WD.nil ⟨vs,hr,hx⟩
theorem WC.of{f args h Q nt rs body}(hs:tab.stub f=none)(hf:tab.code f=some ⟨nt,rs,body⟩)(hx:WX P tab body ⟨zDL args 0 .leaf,[],none⟩ h (zEB P tab rs Q)):WC P tab f args h Q:=by
 obtain⟨e,fr',h',k,ev⟩:=hx;cases e with
 |normal=>
  obtain⟨h2,⟨vs,k3,k4⟩,ev2⟩:=k;exact⟨_,_,k4,Ev.up ((ev.and ev2).mono fun n ⟨e1,e2⟩=>by rw[zCr];simp only[zAo,zCV,hs,hf,e1,cond_true,e2,k3])⟩
 |ret=>
  obtain⟨h2,⟨vs,k3,k4⟩,ev2⟩:=k;exact⟨_,_,k4,Ev.up ((ev.and ev2).mono fun n ⟨e1,e2⟩=>by rw[zCr];simp only[zAo,zCV,hs,hf,e1,cond_true,e2,k3])⟩
 |exit i=>exact k.elim
 |goto i=>exact k.elim
theorem WC.stub{f args h Q s v h'}(hs:tab.stub f=some s)(hx:s args h=some (v,h'))(hq:Q v h'):WC P tab f args h Q:=
 ⟨v,h',hq,Ev.up (Ev.all fun n=>by rw[zCr];simp only[zAo,hs,hx])⟩
theorem WV.func{f first cap args h Q}(hx:WC P tab f (first.toList++args++cap.toList) h Q):WV P tab (.func (.func f) first cap) args h Q:=hx
theorem WO.nil{fr h Q}(hx:Q fr h):WO P tab [] fr h Q:=⟨_,_,hx,Ev.all fun _=>rfl⟩
theorem WO.cons{o l fr h Q}{fr1:WR}{h1:WF}(e:Ev fun n=>yD P (BI P tab n) o fr h=some (fr1,h1))(hx:WO P tab l fr1 h1 Q):WO P tab (o::l) fr h Q:=by
 obtain⟨fr',h',a,b⟩:=hx;exact⟨_,_,a,(e.and b).mono fun n ⟨e1,e2⟩=>by simp only[yT,e1,e2]⟩
def Y0:W4->Bool
 | .call .. | .dfr .. | .dfrClear .. | .invoke .. | .recover=>false
 |_=>true
theorem zKM(ih:Ex){t h op}(hp:Y0 op=true):WN P ih t h op=WN P Ex.bot t h op:=by
 cases op<;>first|rfl|cases hp
theorem zCG(ih:Ex){t rd h op v h'}(hp:Y0 op=true)(e:WN P Ex.bot t h op=some (v,h')):zk P ih t rd h op=some (v,[],h'):=by
 rw[<-zKM ih hp]at e;cases op<;>first|(cases hp;done)|(simp only[zk,e])
theorem WO.op{d op l t ds rd h Q}(v:Value)(h':WF)(hp:Y0 op=true)(e:WN P Ex.bot t h op=some (v,h'))(hx:WO P tab l ⟨t.set d v,ds,rd⟩ h' Q):
  WO P tab (⟨some d,none,op⟩::l) ⟨t,ds,rd⟩ h Q:=
 WO.cons (Ev.all fun n=>by simp only[yD,zW,cond_true,zCG _ hp e,val,GF]) hx
theorem Xl{d op l t ds rd h Q}{v:Value}{h':WF}(e:WN P Ex.bot t h op=some (v,h'))(hx:WO P tab l ⟨t.set d v,ds,rd⟩ h' Q)(hp:Y0 op=true:=by rfl):
  WO P tab (⟨some d,none,op⟩::l) ⟨t,ds,rd⟩ h Q:=WO.op v h' hp e hx
theorem VS{op l t ds rd h Q}(v:Value)(h':WF)(hp:Y0 op=true)(e:WN P Ex.bot t h op=some (v,h'))(hx:WO P tab l ⟨t,ds,rd⟩ h' Q):
  WO P tab (⟨none,none,op⟩::l) ⟨t,ds,rd⟩ h Q:=
 WO.cons (Ev.all fun n=>by simp only[yD,zW,cond_true,zCG _ hp e,val,GF]) hx
theorem WO.call{d f args l t ds rd h Q}{as:List Value}(ha:args.map (ev t)=as)(hx:WC P tab f as h fun v h'=>WO P tab l ⟨t.set d v,ds,rd⟩ h' Q):
  WO P tab (⟨some d,none,.call (.func f) args⟩::l) ⟨t,ds,rd⟩ h Q:=by
 subst ha;obtain⟨v,h',a,b⟩:=hx;refine WO.cons (fr1:=⟨t.set d v,ds,rd⟩) (h1:=h') (b.mono fun n e=> ?_) a;simp only[yD,zW,cond_true,zk,WN,ev,zAK,G5,GF];rw[e];rfl
theorem UF{d f args l t ds rd h Q}{as:List Value}{fv:Value}(hf:ev t f=fv)(ha:args.map (ev t)=as)(hx:WV P tab fv as h fun v h'=>WO P tab l ⟨t.set d v,ds,rd⟩ h' Q):
  WO P tab (⟨some d,none,.call f args⟩::l) ⟨t,ds,rd⟩ h Q:=by
 subst ha;subst hf;obtain⟨v,h',a,b⟩:=hx;refine WO.cons (fr1:=⟨t.set d v,ds,rd⟩) (h1:=h') (b.mono fun n e=> ?_) a;simp only[yD,zW,cond_true,zk,WN,e,val,GF]
theorem XS{d j want op l t ds rd h Q}(hg:zC t j=.bool want)(hx:WO P tab (⟨d,none,op⟩::l) ⟨t,ds,rd⟩ h Q):WO P tab (⟨d,some (j,want),op⟩::l) ⟨t,ds,rd⟩ h Q:=by
 obtain⟨fr',h',a,b⟩:=hx;refine⟨_,_,a,b.mono fun n e=> ?_⟩;rw[<-e];simp only[yT,yD,zW,hg,beq_self_eq_true,cond_true]
theorem Vx{d j want op l t ds rd h Q}(hg:zC t j=.bool (!want))(hx:WO P tab l ⟨t.set d undef,ds,rd⟩ h Q):WO P tab (⟨some d,some (j,want),op⟩::l) ⟨t,ds,rd⟩ h Q:=by
 refine WO.cons (Ev.all fun n=> ?_) hx;simp only[yD,zW,hg];cases want<;>rfl
theorem XQ{d j want op l t ds rd h Q}(hg:zC t j=undef)(hx:WO P tab l ⟨t.set d undef,ds,rd⟩ h Q):WO P tab (⟨some d,some (j,want),op⟩::l) ⟨t,ds,rd⟩ h Q:=by
 refine WO.cons (Ev.all fun n=> ?_) hx;simp only[yD,zW,hg];rfl
theorem WO.invoke{d f name x args l t ds rd h Q}{ty:TypeId}{u:Value}{as:List Value}(hv:ev t x=.iface ty u)(hm:Ya P ty name=some f)(ha:args.map (ev t)=as)(hx:WC P tab f (u::as) h fun v h'=>WO P tab l ⟨t.set d v,ds,rd⟩ h' Q):
  WO P tab (⟨some d,none,.invoke x name args⟩::l) ⟨t,ds,rd⟩ h Q:=by
 subst ha;obtain⟨v,h',a,b⟩:=hx;refine WO.cons (fr1:=⟨t.set d v,ds,rd⟩) (h1:=h') (b.mono fun n e=> ?_) a;simp only[yD,zW,cond_true,zk,WN,Y2,hv,hm,e,val,GF]
theorem XF{d x l t ds rd h Q}{G rt ty:Nat}{b:Bool}(hv:ev t x=zGX G rt ty)(hb:YT P G rt ty=some b)(hx:WO P tab l ⟨t.set d (.bool b),ds,rd⟩ h Q):
  WO P tab (⟨some d,none,.invoke x "Comparable" []⟩::l) ⟨t,ds,rd⟩ h Q:=
 WO.cons (Ev.all fun n=>by
  have:Y2 P (BI P tab n) "Comparable" (zGX G rt ty) [] h=some (.bool b,h):=by
   simp only[Y2,zGQ,List.isEmpty_nil,beq_self_eq_true,Qn,cond_true,hb,QH]
  simp only[yD,zW,cond_true,zk,WN,hv,Gl,this,val,GF]) hx
end
attribute [irreducible] WX WC WV WO WD zEC Y9 zCS zQi zM9 zEB Ev
abbrev I(n:Int):Value:= .int .i64 n
def Wf(h:WF):Prop:=∀ g,h.n<=g->h.get g=none
structure WK(h h':WF):Prop where
 n:h.n<=h'.n
 get:∀ g,g<h.n->h'.get g=h.get g
 wf:Wf h->Wf h'
 mark:h'.mark=h.mark
 wr:h.mark<=h.n->h'.wr=h.wr
theorem WK.refl(h:WF):WK h h:=⟨QE _,fun _ _=>rfl,id,rfl,fun _=>rfl⟩
theorem WK.trans{a b c:WF}(h:WK a b)(k:WK b c):WK a c:=
 ⟨QN h.n k.n,fun g hg=>(k.get g (QK hg h.n)).trans (h.get g hg),fun w=>k.wf (h.wf w),k.mark.trans h.mark,fun hm=>(k.wr (by rw[h.mark];exact QN hm h.n)).trans (h.wr hm)⟩
theorem WK.push{a b:WF}(h:WK a b)(o:Wm):WK a (b.push o):=
 h.trans ⟨GO _,fun g hg=>by rw[zY,QC (Nat.ne_of_lt hg)],fun w g hg=>by
  rw[zY,QC (by simp[WF.push]at hg;omega)];exact w g (by simp[WF.push]at hg;omega),rfl,fun _=>rfl⟩
theorem YR{h:WF}{g:Nat}(hg:h.mark<=g):h.log g=h.wr:=by
 have:Nat.ble h.mark g=true:=QF hg;simp[WF.log,this]
theorem WK.set{a b:WF}(h:WK a b){g:Nat}(hg:a.n<=g)(hb:g<b.n)(o:Wm):WK a (b.set g o):=
 ⟨h.n,fun k hk=>by rw[zT,QC (by omega)];exact h.get k hk,fun w k hk=>by
  rw[zT,QC (by simp[WF.set]at hk;omega)];exact h.wf w k hk,h.mark,fun hm=>(YR (by rw[h.mark];omega)).trans (h.wr hm)⟩
theorem WK.kill{a b:WF}(h:WK a b){g:Nat}(hg:a.n<=g):WK a (b.kill g):=
 ⟨h.n,fun k hk=>by rw[yh,QC (by omega)];exact h.get k hk,fun w k hk=>by
  rw[yh];split
  ·rfl
  ·exact h.wf w k hk,h.mark,fun hm=>(YR (by rw[h.mark];omega)).trans (h.wr hm)⟩
theorem Wf.lt{h:WF}(w:Wf h){g:Nat}{o:Wm}(hg:h.get g=some o):g<h.n:=by
 by_cases hn:h.n<=g
 ·rw[w g hn]at hg;cases hg
 ·omega
theorem ZO{h:WF}{g:Nat}{cells own lo}(hg:h.get g=some (.row cells own lo)):zv h g=some cells:=by simp only[zv,hg]
theorem zI1{h:WF}{g:Nat}{cells}(hg:zv h g=some cells):∃ own lo,h.get g=some (.row cells own lo):=by
 unfold zv at hg;split at hg
 ·cases hg;exact⟨_,_,by assumption⟩
 ·cases hg
theorem WK.row{h h':WF}(e:WK h h'){g:Nat}(w:g<h.n){cells}(hg:zv h g=some cells):zv h' g=some cells:=by
 obtain⟨own,lo,a⟩:=zI1 hg;exact ZO ((e.get g w).trans a)
theorem yt{cells:List Value}{off n:Nat}(h:off+n<=cells.length):cut cells off n=some ((cells.drop off).take n):=by
 have:Nat.ble (off+n) cells.length=true:=QF h;simp only[cut,this,cond_true]
theorem zEP{cells l:List Value}{off n:Nat}(h:cut cells off n=some l):off+n<=cells.length/\l=(cells.drop off).take n:=by
 unfold cut at h;cases hb:Nat.ble (off+n) cells.length with
 |true=>simp only[hb,cond_true,QA]at h;exact⟨QO hb,h.symm⟩
 |false=>simp only[hb,QR]at h;cases h
def Wt(c:Nat)(h:WF)(v:Value)(n:Nat)(cells:List Value):Prop:=
 cells.length=n*c/\((n=0/\(v=.slice none 0 0\/∃ a k,v=.slice (some a) 0 k))\/
  ∃ g off row,v=.slice (some ⟨g,off,none⟩) n c/\zv h g=some row/\cut row off (n*c)=some cells/\g<h.n)
def zR(v:Value)(j:Nat):Value:=match v with
 | .slice (some a) _ _=> .pointer (some ⟨a.block,a.off+j,none⟩)
 |_=>undef
section
variable {P:Program}{ih:Ex}{t:WI Value}{h h':WF}{v:Value}{c n:Nat}{cells:List Value}
theorem Wt.len(s:Wt c h v n cells):zMf v=some n:=by
 obtain⟨_,(⟨rfl,rfl|⟨a,k,rfl⟩⟩|⟨g,off,row,rfl,_,_,_⟩)⟩:=s<;>rfl
theorem Wt.ext(s:Wt c h v n cells)(e:WK h h'):Wt c h' v n cells:=by
 obtain⟨a,b⟩:=s;refine⟨a,b.imp id ?_⟩;rintro⟨g,off,row,e1,e2,e3,e4⟩;exact⟨g,off,row,e1,e.row e4 e2,e3,QK e4 e.n⟩
theorem Wt.nil(c:Nat)(h:WF):Wt c h (.slice none 0 0) 0 []:=⟨by simp,.inl ⟨rfl,.inl rfl⟩⟩
theorem Wt.own{g:Nat}{lo:Nat}{own:Bool}(hlt:g<h.n)(hg:h.get g=some (.row cells own lo))(hn:cells.length=n*c):Wt c h (.slice (some ⟨g,0,none⟩) n c) n cells:=
 ⟨hn,.inr ⟨g,0,cells,rfl,ZO hg,by rw[yt (by omega)];simp[<-hn],hlt⟩⟩
theorem zDa{x:Operand}(s:Wt c h v n cells)(hx:ev t x=v):WN P ih t h (.len x)=some (I n,h):=by
 subst hx;simp[WN,s.len]
theorem zJf{x y:Operand}{i:Nat}(s:Wt c h v n cells)(hx:ev t x=v)(hy:BH (ev t y)=some i)(hi:i<n):WN P ih t h (.idx c x y)=some (zR v (i*c),h):=by
 obtain⟨_,(⟨rfl,_⟩|⟨g,off,row,rfl,_,_,_⟩)⟩:=s
 ·omega
 ·have:Nat.ble (i+1) n=true:=QF hi;simp[WN,hx,hy,this,zR]
theorem zDq{cells l row:List Value}{off n j m:Nat}(hc:cut row off n=some cells)(hl:cut cells j m=some l):cut row (off+j) m=some l:=by
 obtain⟨a,rfl⟩:=zEP hc;obtain⟨b,rfl⟩:=zEP hl;have hl:((row.drop off).take n).length=n:=by simp;omega
 rw[yt (by omega)];congr 1;rw[List.drop_take,Gb,G3,GD (by omega)]
theorem zD9{x:Operand}{agg:Bool}{m j:Nat}{l:List Value}{r:Value}(s:Wt c h v n cells)(hx:ev t x=zR v j)(hl:cut cells j m=some l)(hm:0<m)(hr:zI agg l=some r):
  WN P ih t h (.load agg m x)=some (r,h):=by
 obtain⟨hn,(⟨rfl,_⟩|⟨g,off,row,rfl,h1,h2,_⟩)⟩:=s
 ·have:=(zEP hl).1;simp at hn;subst hn;simp at this;omega
 ·simp[WN,hx,zR,h1,zDq h2 hl,hr]
theorem zOR{cells:List Value}{j:Nat}{r:Value}(hj:cells[j]?=some r):cut cells j 1=some [r]:=by
 have hlt:j<cells.length:=(QM.1 hj).1;rw[yt (by omega),GK hlt];simp only[Qz,GA];rw[(QM.1 hj).2]
theorem zLh{x:Operand}{j:Nat}{r:Value}(s:Wt c h v n cells)(hx:ev t x=zR v j)(hj:cells[j]?=some r):WN P ih t h (.load false 1 x)=some (r,h):=
 zD9 s hx (zOR hj) Nat.one_pos rfl
theorem zOk{x:Operand}{off j:Nat}(hx:ev t x=zR v j)(hv:∃ a k m,v=.slice (some a) k m):WN P ih t h (.fld off x)=some (zR v (j+off),h):=by
 obtain⟨a,k,m,rfl⟩:=hv;simp[WN,hx,zR,Nat.add_assoc]
theorem Wt.some{i:Nat}(s:Wt c h v n cells)(hi:i<n):∃ a k m,v=.slice (some a) k m:=by
 obtain⟨hn,(⟨rfl,_⟩|⟨g,off,row,rfl,h1,h2,_⟩)⟩:=s
 ·omega
 ·exact⟨_,_,_,rfl⟩
theorem ZI(s:Wt c h v n cells):yM c h v=some cells:=by
 obtain⟨hn,(⟨rfl,rfl|⟨a,k,rfl⟩⟩|⟨g,off,row,rfl,h1,h2,_⟩)⟩:=s
 ·simp at hn;subst hn;rfl
 ·simp at hn;subst hn;simp[yM]
 ·unfold yM;cases hb:Nat.beq n 0 with
  |true=>have:=QI hb;subst this;simp at hn;subst hn;rfl
  |false=>simp[h1,h2,hb]
end
def Wd(h:WF)(v:Value)(l:List Int):Prop:=Wt 1 h v l.length (l.map I)
section
variable {P:Program}{ih:Ex}{t:WI Value}{h h':WF}{v:Value}{l:List Int}
theorem Wd.ext(s:Wd h v l)(e:WK h h'):Wd h' v l:=Wt.ext s e
theorem Wd.nil(h:WF):Wd h (.slice none 0 0) []:=Wt.nil 1 h
theorem Wd.own{g lo own}(hlt:g<h.n)(hg:h.get g=some (.row (l.map I) own lo)):Wd h (.slice (some ⟨g,0,none⟩) l.length 1) l:=Wt.own hlt hg (by simp)
theorem Wd.len{x:Operand}(s:Wd h v l)(hx:ev t x=v):WN P ih t h (.len x)=some (I l.length,h):=zDa s hx
theorem Wd.idx{x y:Operand}{i:Nat}(s:Wd h v l)(hx:ev t x=v)(hy:BH (ev t y)=some i)(hi:i<l.length):WN P ih t h (.idx 1 x y)=some (zR v i,h):=by
 have:=zJf (P:=P) (ih:=ih) s hx hy hi;rwa [Nat.mul_one]at this
theorem Wd.load{x:Operand}{i:Nat}{a:Int}(s:Wd h v l)(hx:ev t x=zR v i)(hi:l[i]?=some a):WN P ih t h (.load false 1 x)=some (I a,h):=
 zLh s hx (by simp[hi])
end
def Wn(h0 h:WF)(v:Value)(l:List Int):Prop:=∃ g,h0.n<=g/\g<h.n/\v=.slice (some ⟨g,0,none⟩) l.length 1/\h.get g=some (.row (l.map I) true 0)
theorem Wn.sl{h0 h v l}(o:Wn h0 h v l):Wd h v l:=by obtain⟨g,_,hl,rfl,hg⟩:=o;exact Wd.own hl hg
theorem Wn.ext{h0 h h' v l}(o:Wn h0 h v l)(e:WK h h'):Wn h0 h' v l:=by
 obtain⟨g,a,b,c,d⟩:=o;exact⟨g,a,QK b e.n,c,(e.get g b).trans d⟩
theorem zNQ(k:IntKind)(a b:Int):yC .add (.int k a) (.int k b)=some (.int k (k.wrap (a+b))):=by simp[yC]
theorem zMt(k:IntKind)(a b:Int):yC .sub (.int k a) (.int k b)=some (.int k (k.wrap (a-b))):=by simp[yC]
theorem zNn(k:IntKind)(a b:Int):yC .mul (.int k a) (.int k b)=some (.int k (k.wrap (a*b))):=by simp[yC]
theorem zNU(k:IntKind)(a b:Int):yC .lss (.int k a) (.int k b)=some (.bool (decide (a<b))):=by simp[yC]
theorem zNc(k:IntKind)(a b:Int):yC .leq (.int k a) (.int k b)=some (.bool (decide (a<=b))):=by simp[yC]
theorem zMq(k:IntKind)(a b:Int):yC .gtr (.int k a) (.int k b)=some (.bool (decide (b<a))):=by simp[yC]
theorem zLw(k:IntKind)(a b:Int):yC .geq (.int k a) (.int k b)=some (.bool (decide (b<=a))):=by simp[yC]
theorem zMH(k:IntKind)(a b:Int):yC .eql (.int k a) (.int k b)=some (.bool (decide (a=b))):=by
 simp[yC];rw[GN];simp
theorem zMM(k:IntKind)(a b:Int):yC .neq (.int k a) (.int k b)=some (.bool (!decide (a=b))):=by
 simp[yC];rw[GN];simp
theorem zEb{n:Int}(h1: -9223372036854775808<=n)(h2:n<=9223372036854775807):IntKind.wrap .i64 n=n:=by
 simp[IntKind.wrap,IntKind.signed,IntKind.bits];omega
section
variable {P:Program}{ih:Ex}{t:WI Value}{h:WF}{v:Value}{l:List Int}
theorem XX{x:Operand}{i:Nat}(hx:ev t x=zR v i)(s:Wd h v l)(hi:i<l.length):WN P ih t h (.load false 1 x)=some (I (l.getD i 0),h):=
 s.load hx (by simp[List.getD,QB hi])
theorem XY{x y:Operand}{i:Nat}(hx:ev t x=v)(hy:BH (ev t y)=some i)(s:Wd h v l)(hi:i<l.length):WN P ih t h (.idx 1 x y)=some (zR v i,h):=s.idx hx hy hi
theorem Xz{x:Operand}(hx:ev t x=v)(s:Wd h v l):WN P ih t h (.len x)=some (I l.length,h):=s.len hx
end
section
variable {P:Program}{tab:Wv}
def zNx(ops:List (WG×List Nat)):Bool:=ops.all fun x=>x.2.isEmpty&&Nat.ble (zG x.1.op) 1
theorem zBd{op:W4}(h:Nat.ble (zG op) 1=true):(zG op=0\/zG op=1)/\Y0 op=true:=by
 cases op<;>first|exact⟨.inl rfl,rfl⟩|exact⟨.inr rfl,rfl⟩|cases h
theorem zJR{ih:Ex}{o:WG}{fr fr':WR}{h h':WF}(hk:Nat.ble (zG o.op) 1=true)(hx:yD P ih o fr h=some (fr',h'))(m:Nat)(wr:List Nat):
  h'=h/\yD P ih o fr {h with mark:=m,wr:=wr}=some (fr',{h with mark:=m,wr:=wr}):=by
 obtain⟨k,hp⟩:=zBd hk;unfold yD at hx |-;cases hw:zW fr.tm o.guard with
 |false=>simp only[hw,QR,QA,QD]at hx |-;obtain⟨rfl,rfl⟩:=hx;refine⟨rfl,?_⟩;first|trivial|exact⟨rfl,rfl⟩
 |true=>
  simp only[hw,cond_true]at hx |-;cases ha:WN P ih fr.tm h o.op with
  |none=>
   have:zk P ih fr.tm fr.round h o.op=none:=by cases hop:o.op<;>simp_all [zk,Y0]
   simp[this]at hx
  |some q=>
   obtain⟨v,h2⟩:=q;have e1:=zEa k ha;obtain⟨rfl,_,e2⟩:=e1;have e3:WN P ih fr.tm {h2 with mark:=m,wr:=wr} o.op=some (v,{h2 with mark:=m,wr:=wr}):=e2 _ (fun _ _=> .inl rfl);have v1:∀ {h h':WF},WN P ih fr.tm h o.op=some (v,h')->zk P ih fr.tm fr.round h o.op=some (v,[],h'):=fun {h h'} e=>by
    cases hop:o.op<;>first|(rw[hop]at hp;cases hp;done)|(rw[hop]at e;simp only[zk,e])
   rw[v1 ha]at hx;rw[v1 e3];simp only[QA,QD]at hx |-;obtain⟨rfl,rfl⟩:=hx;refine⟨rfl,?_⟩;first|trivial|exact⟨rfl,rfl⟩
theorem zCE{ih:Ex}:∀ {ops:List (WG×List Nat)} {i g:Nat} {rs:List (Nat×Nat×Option (Nat×Nat×List Value))} {bs:List (Nat×Nat)} {fr fr':WR} {h h':WF} (m:Nat) (wr:List Nat),zNx ops=true->yT P ih (ops.map (·.1)) fr h=some (fr',h')->
  h'=h/\∃ m' wr',yF P ih ops i g [] rs bs fr {h with mark:=m,wr:=wr}=some (fr',{h with mark:=m',wr:=wr'},[]):=by
 intro ops;induction ops with
 |nil=>
  intro i g rs bs fr fr' h h' m wr _ hx;simp only[Gl,yT,QA,QD]at hx;obtain⟨rfl,rfl⟩:=hx;exact⟨rfl,m,wr,rfl⟩
 |cons x ops ihl=>
  obtain⟨o,un⟩:=x;intro i g rs bs fr fr' h h' m wr hc hx;simp only[zNx,List.all_cons,QJ]at hc;obtain⟨⟨hun,hk⟩,hc⟩:=hc;have hun:un=[]:=List.isEmpty_iff.1 hun;subst hun;simp only[Q6,yT]at hx;cases ha:yD P ih o fr h with
  |none=>simp[ha]at hx
  |some q=>
   obtain⟨fr1,h1⟩:=q;simp only[ha]at hx;obtain⟨rfl,e⟩:=zJR hk ha h1.n [];have hk3:Nat.beq (zG o.op) 3=false:=by
    rcases(zBd hk).1 with k|k<;>rw[k]<;>rfl
   obtain⟨e1,m',wr',e2⟩:=ihl (i:=i+1) (g:=g) (rs:=match zi fr.tm o with|some g=>(i,g,Yw fr.tm {h1 with mark:=h1.n,wr:=[]} o.op)::rs|none=>rs) (bs:=(i,h1.n)::bs) h1.n [] hc hx;refine⟨e1,m',wr',?_⟩;simp only[yF,yB,hk3,QR];have e':yD P ih o fr {h1 with mark:=h1.n,wr:=[]}=some (fr1,{h1 with mark:=h1.n,wr:=[]}):=e;rw[e'];simp only[List.all_nil,List.contains_nil,Qa,Qq,Qg,Qn,Qd,Gl,G5];have hb:(bs.all fun _=>true)=true:=by simp
   have hr:(rs.all fun _=>true)=true:=by simp
   cases hra:zi fr.tm o with
   |none=>
    simp only[hra]at e2;simp only[hr,Qn,cond_true];exact e2
   |some g'=>
    simp only[hra]at e2;simp only[hb,hr,Qn,cond_true];exact e2
theorem Ve{ops fr h K}(hc:zNx ops=true)(hx:WO P tab (ops.map (·.1)) fr h fun fr h=>K .normal fr h):WX P tab (.regionC ops) fr h K:=by
 unfold WO at hx;obtain⟨fr',h',a,b⟩:=hx;have hno:(ops.filter fun x=>Nat.beq (zG x.1.op) 3).length=0:=by
  rw[GS,List.filter_eq_nil_iff];intro x hx;have:=QV.1 hc x hx;simp only[QJ]at this;rcases(zBd this.2).1 with k|k<;>rw[k]<;>simp
 have hh:h'=h:=by
  unfold Ev at b;obtain⟨N,b⟩:=b;exact(zCE (i:=0) (g:=0) (rs:=[]) (bs:=[]) 0 [] hc (b N (QE _))).1
 subst hh;unfold WX;refine⟨_,fr',_,a,Ev.up (b.mono fun n e=> ?_)⟩;obtain⟨_,m',wr',e2⟩:=zCE (i:=0) (g:=h'.n) (rs:=[]) (bs:=[]) h'.mark h'.wr hc e;rw[zo];simp only[zh,YN,hno,G9];rw[e2];simp
end
def Wb(h0 h:WF)(v:Value)(l:List Int):Prop:=(v=.slice none 0 0/\l=[])\/Wn h0 h v l
theorem Wb.sl{h0 h v l}(o:Wb h0 h v l):Wd h v l:=by
 rcases o with⟨rfl,rfl⟩|o
 ·exact Wd.nil h
 ·exact o.sl
theorem Wb.ext{h0 h h' v l}(o:Wb h0 h v l)(e:WK h h'):Wb h0 h' v l:=o.imp id fun o=>o.ext e
theorem Wn.since{h0 h1 h v l}(o:Wn h1 h v l)(e:WK h0 h1):Wn h0 h v l:=by
 obtain⟨g,a,b⟩:=o;exact⟨g,QN e.n a,b⟩
theorem Wb.since{h0 h1 h v l}(o:Wb h1 h v l)(e:WK h0 h1):Wb h0 h v l:=o.imp id fun o=>o.since e
def Bh(v:Value)(h h':WF):Prop:=h.n<=h'.n/\∀ g,g<h.n->(∀ a n c,v=.slice (some a) n c->a.block≠g)->h'.get g=h.get g
theorem zB9(l:List Int):zH (l.map I)=true:=by simp[zH]
section
variable {P:Program}{tab:Wv}{t:WI Value}{h h0:WF}{ds:List Deferred}{rd:Option Nat}{l:List WG}{Q:WR->WF->Prop}{d:Nat}
theorem Zl(h:WF)(o:Wm):WK h (h.push o):=(WK.refl h).push o
theorem zZ(h:WF)(o:Wm):(h.push o).get h.n=some o:=by rw[zY,QG rfl]
theorem XO{n:Nat}{zero:List Value}{parts:List (Nat×Nat×Operand)}(xs:List Int)(hn:xs.length=n)(hf:y9 (zS zero n) (zr t parts)=some (xs.map I))
  (k:∀ v h',WK h h'->Wn h h' v xs->WO P tab l ⟨t.set d v,ds,rd⟩ h' Q):WO P tab (⟨some d,none,.buildSlice n 1 zero parts⟩::l) ⟨t,ds,rd⟩ h Q:=by
 refine WO.op _ _ rfl (by simp only[WN,hf,QH];rfl) (k _ _ (Zl _ _) ⟨h.n,QE _,by simp[WF.push],by rw[hn],zZ _ _⟩)
theorem zAT(l:List Int)(i:Nat)(a:Int)(hi:i<l.length):zO (l.map I) i [I a]=(l.set i a).map I:=by
 unfold zO;rw[<-List.map_take,QZ,<-List.map_drop,List.set_eq_take_append_cons_drop,QG hi];simp
theorem XU{x y:Operand}{v:Value}{xs:List Int}{i:Nat}{a:Int}(hx:ev t x=zR v i)(hy:ev t y=I a)(o:Wn h0 h v xs)(e0:WK h0 h)(hi:i<xs.length)
  (k:∀ h',WK h0 h'->Wn h0 h' v (xs.set i a)->Bh v h h'->WO P tab l ⟨t,ds,rd⟩ h' Q):WO P tab (⟨none,none,.store 1 x y⟩::l) ⟨t,ds,rd⟩ h Q:=by
 obtain⟨g,g1,g2,rfl,g3⟩:=o;have hst:ze h ⟨g,i,none⟩ [I a]=some (h.set g (.row (zO (xs.map I) i [I a]) true 0)):=by
  have h1:Nat.ble (i+1) (xs.map I).length=true:=QF (by simp;omega);have h0:Nat.ble 0 i=true:=QF (QU _);simp only[ze,g3,QZ,h1,h0,Qn];rfl
 rw[zAT _ _ _ hi]at hst;refine VS undef (h.set g (.row ((xs.set i a).map I) true 0)) rfl ?_ (k _ (e0.set g1 g2 _) ⟨g,g1,g2,by simp,by rw[zT,QG rfl]⟩ ⟨QE _,fun k _ hk=> ?_⟩)
 ·have hc:(I a).cells=#[I a]:=rfl;simp only[WN,hx,zR,hy,Qk,hc,hst,QH];rfl
 ·rw[zT,QC (fun e=>hk _ _ _ rfl e.symm)]
theorem XE{x y:Operand}{v w:Value}{xs ys:List Int}(hx:ev t x=v)(hy:ev t y=w)(o:Wb h0 h v xs)(s:Wd h w ys)(e0:WK h0 h)(hne:ys≠[])(hr:xs.length+ys.length<=4294967296)
  (k:∀ v' h',WK h0 h'->Wn h0 h' v' (xs++ys)->Bh v h h'->WO P tab l ⟨t.set d v',ds,rd⟩ h' Q):WO P tab (⟨some d,none,.append 1 x y⟩::l) ⟨t,ds,rd⟩ h Q:=by
 have hsrc:=ZI s;have hroom:room=4294967296:=rfl;obtain⟨z,zs,rfl⟩:∃ z zs,ys=z::zs:=by
  cases ys with
  |nil=>exact absurd rfl hne
  |cons z zs=>exact⟨z,zs,rfl⟩
 have hone:zH (I z::zs.map I)=true:=zB9 (z::zs);have hlen:(I z::zs.map I).length / 1=(z::zs).length:=by simp
 rcases o with⟨rfl,rfl⟩|⟨g,g1,g2,rfl,g3⟩
 ·have h1:Nat.ble (z::zs).length room=true:=QF (by rw[hroom];simpa using hr);refine WO.op (.slice (some ⟨h.n,0,none⟩) (z::zs).length 1) (h.push (.row ((z::zs).map I) true 0)) rfl ?_ (k _ _ (e0.push _) ⟨h.n,e0.n,by simp[WF.push],rfl,zZ _ _⟩ ⟨GO _,fun k hk _=> ?_⟩)
  ·simp only[WN,hx,hy,z8,hsrc,Q6,hone,hlen,h1,QS,cond_true,QR];rfl
  ·rw[zY,QC (by omega)]
 ·have h1:Nat.ble (xs.length+(z::zs).length) room=true:=QF (by rw[hroom];exact hr);have h2:cut (xs.map I) 0 (xs.length*1)=some (xs.map I):=by rw[yt (by simp)];simp[Qo]
  have hn:(h.kill g).n=h.n:=rfl;have h3:Nat.ble 0 (0+xs.length*1)=true:=QF (QU _);refine WO.op (.slice (some ⟨h.n,0,none⟩) (xs.length+(z::zs).length) 1) ((h.kill g).push (.row (xs.map I++(z::zs).map I) true (0-0))) rfl ?_
   (k _ _ ((e0.kill g1).push _) ⟨h.n,e0.n,by simp[WF.push,WF.kill],by simp,?_⟩ ⟨GO _,fun k hk hv=> ?_⟩)
  ·simp only[WN,hx,hy,z8,hsrc,Q6,hone,hlen,h1,g3,h2,h3,QS,cond_true,QR];rfl
  ·have:=zZ (h.kill g) (.row (xs.map I++(z::zs).map I) true (0-0));rw[hn]at this;rw[this];simp
  ·rw[zY,QC (by rw[hn];omega),yh,QC (fun e=>hv _ _ _ rfl e.symm)]
section
variable {P:Program}{tab:Wv}{t:WI Value}{h h0:WF}{ds:List Deferred}{rd:Option Nat}{l:List WG}{Q:WR->WF->Prop}{d:Nat}
end
def zw(p:Value)(j:Nat):Value:=match p with
 | .pointer (some a)=> .pointer (some ⟨a.block,a.off+j,none⟩)
 |_=>undef
def WH(h0 h:WF)(p:Value)(cells:List Value):Prop:=∃ g,h0.n<=g/\g<h.n/\p=.pointer (some ⟨g,0,none⟩)/\h.get g=some (.row cells true 0)
theorem WH.ext{h0 h h' p cells}(o:WH h0 h p cells)(e:WK h h'):WH h0 h' p cells:=by
 obtain⟨g,a,b,c,d⟩:=o;exact⟨g,a,QK b e.n,c,(e.get g b).trans d⟩
theorem WH.since{h0 h1 h p cells}(o:WH h1 h p cells)(e:WK h0 h1):WH h0 h p cells:=by
 obtain⟨g,a,b⟩:=o;exact⟨g,QN e.n a,b⟩
theorem WH.at0{h0 h p cells}(o:WH h0 h p cells):p=zw p 0:=by obtain⟨g,_,_,rfl,_⟩:=o;rfl
section
variable {P:Program}{tab:Wv}{ih:Ex}{t:WI Value}{h h0:WF}{ds:List Deferred}{rd:Option Nat}{l:List WG}{Q:WR->WF->Prop}{d:Nat}{p:Value}{cells:List Value}
theorem Uc{x:Operand}(cells:List Value)(hv:(ev t x).cells.toList=cells)(k:∀ p h',WK h h'->WH h h' p cells->WO P tab l ⟨t.set d p,ds,rd⟩ h' Q):
  WO P tab (⟨some d,none,.box x⟩::l) ⟨t,ds,rd⟩ h Q:=by
 subst hv;exact WO.op _ _ rfl (by simp only[WN]) (k _ _ (Zl _ _) ⟨h.n,QE _,by simp[WF.push],rfl,zZ _ _⟩)
theorem XP{zero:List Value}(k:∀ p h',WK h h'->WH h h' p zero->WO P tab l ⟨t.set d p,ds,rd⟩ h' Q):
  WO P tab (⟨some d,none,.alloc zero⟩::l) ⟨t,ds,rd⟩ h Q:=
 WO.op _ _ rfl (by simp only[WN]) (k _ _ (Zl _ _) ⟨h.n,QE _,by simp[WF.push],rfl,zZ _ _⟩)
theorem WH.idxArr{x y:Operand}{n c j i:Nat}(hx:ev t x=zw p j)(hy:BH (ev t y)=some i)(o:WH h0 h p cells)(hi:i<n):WN P ih t h (.idxArr n c x y)=some (zw p (j+i*c),h):=by
 obtain⟨g,_,_,rfl,_⟩:=o;have h1:Nat.ble (i+1) n=true:=QF hi;simp[WN,hx,hy,zw,h1]
theorem Vf{x y:Operand}{n c i:Nat}(hx:ev t x=p)(hy:BH (ev t y)=some i)(o:WH h0 h p cells)(hi:i<n):WN P ih t h (.idxArr n c x y)=some (zw p (i*c),h):=by
 have:=WH.idxArr (P:=P) (ih:=ih) (c:=c) (hx.trans o.at0) hy o hi;rwa [Qk]at this
theorem WH.fld{x:Operand}{off j:Nat}(hx:ev t x=zw p j)(o:WH h0 h p cells):WN P ih t h (.fld off x)=some (zw p (j+off),h):=by
 obtain⟨g,_,_,rfl,_⟩:=o;simp[WN,hx,zw]
theorem XR{x:Operand}{off:Nat}(hx:ev t x=p)(o:WH h0 h p cells):WN P ih t h (.fld off x)=some (zw p off,h):=by
 have:=WH.fld (P:=P) (ih:=ih) (off:=off) (hx.trans o.at0) o;rwa [Qk]at this
theorem WH.load{x:Operand}{agg:Bool}{n j:Nat}{r:Value}(hx:ev t x=zw p j)(o:WH h0 h p cells)(hr:(cut cells j n).bind (zI agg)=some r):WN P ih t h (.load agg n x)=some (r,h):=by
 obtain⟨g,_,_,rfl,hg⟩:=o;simp[WN,hx,zw,zv,hg,hr]
theorem Vn{x:Operand}{agg:Bool}{n:Nat}{r:Value}(hx:ev t x=p)(o:WH h0 h p cells)(hr:(cut cells 0 n).bind (zI agg)=some r):WN P ih t h (.load agg n x)=some (r,h):=
 WH.load (hx.trans o.at0) o hr
end
def BJ(h0 h:WF)(m:Value)(es:List (Int×Int)):Prop:=
 ∃ g clock es',h0.n<=g/\g<h.n/\m=.map (some g)/\h.get g=some (.map es' clock)/\es'.map (fun e=>(e.key,e.val))=es.map fun e=>(I e.1,I e.2)
theorem BJ.ext{h0 h h' m es}(o:BJ h0 h m es)(e:WK h h'):BJ h0 h' m es:=by
 obtain⟨g,c,es',a,b,x,y,z⟩:=o;exact⟨g,c,es',a,QK b e.n,x,(e.get g b).trans y,z⟩
theorem BJ.upd{h0 h h' m es v xs}(o:BJ h0 h m es)(s:Wb h0 h v xs)(u:Bh v h h'):BJ h0 h' m es:=by
 obtain⟨g,c,es',a,b,x,y,z⟩:=o;refine⟨g,c,es',a,QK b u.1,x,(u.2 g b fun q n k hv e=> ?_).trans y,z⟩;rcases s with⟨rfl,_⟩|⟨g2,_,_,rfl,w⟩
 ·cases hv
 ·cases hv;simp only at e;subst e;rw[y]at w;cases w
theorem zCh{n:Int}:∀ {es':List MapEntry} {es:List (Int×Int)} (i:Nat),es'.map (fun e=>(e.key,e.val))=es.map (fun e=>(I e.1,I e.2))->es.lookup n=none->Z9 (I n) es' i=some none
 |[],[],_,_,_=>rfl
 |[],_::_,_,h,_=>by cases h
 |_::_,[],_,h,_=>by cases h
 |e::es',(k,v)::es,i,h,hl=>by
  simp only[Q6,JB,QD]at h;rw[List.lookup_cons]at hl;split at hl
  ·cases hl
  ·rename_i hk;have:zCW (I n) e.key=some false:=by rw[h.1.1];simp only[zCW,Q9];rw[hk]
   simp only[Z9,this];exact zCh (i+1) h.2 hl
theorem zE8{n v:Int}:∀ {es':List MapEntry} {es:List (Int×Int)} (i:Nat),es'.map (fun e=>(e.key,e.val))=es.map (fun e=>(I e.1,I e.2))->es.lookup n=some v->∃ j,Z9 (I n) es' i=some (some (j,I v))
 |[],[],_,_,hl=>by cases hl
 |[],_::_,_,h,_=>by cases h
 |_::_,[],_,h,_=>by cases h
 |e::es',(k,w)::es,i,h,hl=>by
  simp only[Q6,JB,QD]at h;rw[List.lookup_cons]at hl;split at hl
  ·rename_i hk;cases hl;have:zCW (I n) e.key=some true:=by rw[h.1.1];simp only[zCW,Q9];rw[hk]
   exact⟨i,by simp only[Z9,this,h.1.2]⟩
  ·rename_i hk;have:zCW (I n) e.key=some false:=by rw[h.1.1];simp only[zCW,Q9];rw[hk]
   obtain⟨j,hj⟩:=zE8 (i+1) h.2 hl;exact⟨j,by simp only[Z9,this,hj]⟩
section
variable {P:Program}{tab:Wv}{t:WI Value}{h h0:WF}{ds:List Deferred}{rd:Option Nat}{l:List WG}{Q:WR->WF->Prop}{d:Nat}
theorem WO.mkMap(k:∀ m h',WK h h'->BJ h h' m []->WO P tab l ⟨t.set d m,ds,rd⟩ h' Q):WO P tab (⟨some d,none,.mkMap⟩::l) ⟨t,ds,rd⟩ h Q:=
 WO.op _ _ rfl (by simp only[WN]) (k _ _ (Zl _ _) ⟨h.n,0,[],QE _,by simp[WF.push],rfl,zZ _ _,rfl⟩)
def zMo(m:Value)(h h':WF):Prop:=h.n<=h'.n/\∀ g,g<h.n->m≠ .map (some g)->h'.get g=h.get g
theorem Wn.updM{h0 h h' m es v xs}(s:Wn h0 h v xs)(o:BJ h0 h m es)(u:zMo m h h'):Wn h0 h' v xs:=by
 obtain⟨g,a,b,rfl,c⟩:=s;refine⟨g,a,QK b u.1,rfl,(u.2 g b fun e=> ?_).trans c⟩;obtain⟨g2,_,_,_,_,x,y,_⟩:=o;rw[x]at e;cases e;rw[c]at y;cases y
theorem Wb.updM{h0 h h' m es v xs}(s:Wb h0 h v xs)(o:BJ h0 h m es)(u:zMo m h h'):Wb h0 h' v xs:=s.imp id fun s=>s.updM o u
end
end
inductive Rd{H:Type}(P:Program)(h:WF):TypeId->List Value->DataW H->Prop
 |bool {t} (b:Bool) (ht:P.underlying t=some .bool):Rd P h t [.bool b] (.lit (.bool b))
 |int {t k} (n:Int) (ht:P.underlying t=some (.int k)) (wf:(Lit.int k n).wf=true):Rd P h t [.int k n] (.lit (.int k n))
 |string {t} (s:ByteArray) (ht:P.underlying t=some .string) (hs:s.size<=maxLen):Rd P h t [.string s] (.lit (.string s.data.toList))
 |snil {t e} (ht:P.underlying t=some (.slice e)):Rd P h t [.slice none 0 0] .nil
 |szero {t e} (a:Addr) (spare:List (DataW H)) (ht:P.underlying t=some (.slice e)):Rd P h t [.slice (some a) 0 (P.cellsOf e)] (.slice [] spare)
 |slice {t e} (g:Nat) (cells:List Value) (elems spare:List (DataW H)) (ht:P.underlying t=some (.slice e)) (hg:h.get g=some (.row cells false 0)) (hn:g<h.n) (hl:cells.length=elems.length*P.cellsOf e)
   (hm:elems.length<=maxLen) (hr:∀ (i:Nat) (d:DataW H),elems[i]?=some d->Rd P h e ((cells.drop (i*P.cellsOf e)).take (P.cellsOf e)) d):
   Rd P h t [.slice (some ⟨g,0,none⟩) elems.length (P.cellsOf e)] (.slice elems spare)
 |struct {t fs} (cells:List Value) (parts:List (DataW H)) (ht:P.underlying t=some (.struct fs)) (hl:cells.length=P.cellsOf t) (hp:parts.length=fs.size)
   (hr:∀ (i:Nat) (f:Field) (d:DataW H),fs[i]?=some f->parts[i]?=some d->Rd P h f.type ((cells.drop f.offset).take (P.cellsOf f.type)) d):Rd P h t cells (.agg parts)
 |array {t n e} (cells:List Value) (parts:List (DataW H)) (ht:P.underlying t=some (.array n e)) (hl:cells.length=P.cellsOf t) (hp:parts.length=n)
   (hr:∀ (i:Nat) (d:DataW H),parts[i]?=some d->Rd P h e ((cells.drop (i*P.cellsOf e)).take (P.cellsOf e)) d):Rd P h t cells (.agg parts)
theorem Rd.ext{H:Type}{P:Program}{h h':WF}{t:TypeId}{cells:List Value}{d:DataW H}(r:Rd P h t cells d)(e:WK h h'):Rd P h' t cells d:=by
 induction r with
 |bool b ht=>exact .bool b ht
 |int n ht wf=>exact .int n ht wf
 |string s ht hs=>exact .string s ht hs
 |snil ht=>exact .snil ht
 |szero a sp ht=>exact .szero a sp ht
 |slice g cells elems sp ht hg hn hl hm _ ih=>exact .slice g cells elems sp ht ((e.get g hn).trans hg) (QK hn e.n) hl hm ih
 |struct cells parts ht hl hp _ ih=>exact .struct cells parts ht hl hp ih
 |array cells parts ht hl hp _ ih=>exact .array cells parts ht hl hp ih
def zA2(P:Program):List Field->Nat->Option Nat
 |[],n=>some n
 |f::l,n=>bif Nat.beq f.offset n then zA2 P l (n+P.cellsOf f.type)else none
def Yp(P:Program):Nat->TypeId->Bool
 |0,_=>false
 |n+1,t=>match P.underlying t with
  |some .bool|some (.int _)|some .string=>true
  |some (.slice e)=>Nat.ble 1 (P.cellsOf e)&&Yp P n e
  |some (.struct fs)=>(match zA2 P fs.toList 0 with|some m=>Nat.beq m (P.cellsOf t)|none=>false)&&fs.toList.all fun f=>Yp P n f.type
  |some (.array m e)=>Nat.beq (m*P.cellsOf e) (P.cellsOf t)&&Yp P n e
  |_=>false
def zMU(h:WF):Prop:=∀ g o,h.get g=some o->zBc o=false
section
variable {P:Program}{H:Type}{enc:TypeId×Value->H}{w:World}{B:Nat}
theorem zIc{σ:Nat->Option Pl}{h:WF}(hr:Wg P B σ h w)(hno:zMU h)(hrow:∀ g o,h.get g=some o->∃ c l,o=.row c false l){cells:List Value}{pl:Pl}(hb:pl.b<w.heap.size)
  (ho:Ba P σ pl (.row cells false 0) w):
  Wg P B (ZY σ h.n pl) (h.push (.row cells false 0)) w/\zMU (h.push (.row cells false 0))/\(∀ g o,(h.push (.row cells false 0)).get g=some o->∃ c l,o=.row c false l)/\Le σ (ZY σ h.n pl):=by
 have hle:Le σ (ZY σ h.n pl):=zBO hr pl;have hnone:h.get h.n=none:=by
  cases hg:h.get h.n with
  |none=>rfl
  |some o=>obtain⟨pl,h1,_⟩:=hr.live _ _ hg;have:=(hr.lt _ _ h1).1;omega
 have hrows:∀ g o,(h.push (.row cells false 0)).get g=some o->∃ c l,o=.row c false l:=fun g o hg=>by
  rw[zY]at hg;split at hg
  ·cases hg;exact⟨_,_,rfl⟩
  ·exact hrow g o hg
 refine⟨⟨fun g hg=> ?_,fun g p hg=> ?_,fun g o hg=> ?_,fun g o g' o' p p' hg hg' _ _ _ _=> ?_,hr.le⟩,fun g o hg=> ?_,hrows,hle⟩
 ·obtain⟨p,h1,h2⟩:=hr.globals g hg;exact⟨p,hle _ _ h1,h2⟩
 ·unfold ZY at hg;split at hg
  ·cases hg;rename_i e;subst e;exact⟨by simp[WF.push],hb⟩
  ·have:=hr.lt g p hg;exact⟨by simp[WF.push];omega,this.2⟩
 ·rw[zY]at hg;split at hg
  ·rename_i e;subst e;cases hg;exact⟨pl,yG _ _ _,ho.keep hle rfl,fun x=>by cases x⟩
  ·obtain⟨p,h1,h2,h3⟩:=hr.live g o hg;exact⟨p,hle _ _ h1,h2.keep hle rfl,h3⟩
 ·obtain⟨c,l,rfl⟩:=hrows g o hg;obtain⟨c',l',rfl⟩:=hrows g' o' hg';exact⟨fun⟨x,_⟩=>Bool.noConfusion x,fun x=>Bool.noConfusion x,fun x=>Bool.noConfusion x⟩
 ·obtain⟨c,l,rfl⟩:=hrows g o hg;rfl
structure Bl(P:Program)(B:Nat)(σ:Nat->Option Pl)(h:WF)(w:World):Prop where
 rel:Wg P B σ h w
 rows:∀ g o,h.get g=some o->∃ c l,o=.row c false l
 wf:Wf h
theorem Bl.no{σ:Nat->Option Pl}{h:WF}(c:Bl P B σ h w):zMU h:=fun g o hg=>by obtain⟨c,l,rfl⟩:=c.rows g o hg;rfl
theorem zD1:∀ {as:List (List Value)} {i:Nat} {a:List Value},as[i]?=some a->(as.flatten.drop ((as.take i).flatten.length)).take a.length=a
 |[],i,a,h=>by simp at h
 |x::as,0,a,h=>by simp at h;subst h;simp
 |x::as,i+1,a,h=>by
  simp at h;have:=zD1 h;simp only[Qz,Gn,QT];rw[List.drop_append,List.drop_of_length_le (by omega),GF];have e:x.length+(as.take i).flatten.length-x.length=(as.take i).flatten.length:=by omega
  rw[e];exact this
theorem zDr{c:Nat}:∀ {as:List (List Value)},(∀ a∈as,a.length=c)->as.flatten.length=as.length*c
 |[],_=>by simp
 |x::as,h=>by
  have:=zDr (as:=as) (fun a ha=>h a (by simp[ha]));simp only[Gn,QT,JA,this,h x (by simp)];rw[Gf];omega
theorem zA4(R:TypeId->List Value->DataW H->Prop)
  (one:∀ t cs d,R t cs d->∀ σ h,Bl P B σ h w->∃ σ' h' acs,Bl P B σ' h' w/\WK h h'/\Le σ σ'/\WW σ' acs cs/\Rd P h' t acs d):
  ∀ (l:List (TypeId×List Value×DataW H)),(∀ p∈l,R p.1 p.2.1 p.2.2)->∀ σ h,Bl P B σ h w->
   ∃ (σ':Nat->Option Pl) (h':WF) (as:List (List Value)),Bl P B σ' h' w/\WK h h'/\Le σ σ'/\as.length=l.length/\∀ (i:Nat) (a:List Value) (p:TypeId×List Value×DataW H),as[i]?=some a->l[i]?=some p->WW σ' a p.2.1/\Rd P h' p.1 a p.2.2:=by
 intro l;induction l with
 |nil=>intro _ σ h hc;exact⟨σ,h,[],hc,WK.refl h,.refl _,rfl,fun i a p ha=>by simp at ha⟩
 |cons p l ih=>
  intro hl σ h hc;obtain⟨σ1,h1,a1,c1,e1,l1,r1,d1⟩:=one _ _ _ (hl p (by simp)) σ h hc;obtain⟨σ2,h2,as,c2,e2,l2,n2,r2⟩:=ih (fun q hq=>hl q (by simp[hq])) σ1 h1 c1;refine⟨σ2,h2,a1::as,c2,e1.trans e2,l1.trans l2,by simp[n2],fun i a q ha hq=> ?_⟩;cases i with
  |zero=>simp at ha hq;subst ha hq;exact⟨r1.mono l2,d1.ext e2⟩
  |succ i=>simp at ha hq;exact r2 i a q ha hq
theorem zFV{σ:Nat->Option Pl}:∀ {as cs:List (List Value)},as.length=cs.length->(∀ (i:Nat) a c,as[i]?=some a->cs[i]?=some c->WW σ a c)->WW σ as.flatten cs.flatten
 |[],[],_,_=>WW.nil _
 |a::as,c::cs,hl,h=>by
  simp only[Gn];exact(h 0 a c rfl rfl).append (zFV (by simpa using hl) fun i x y hx hy=>h (i+1) x y (by simpa using hx) (by simpa using hy))
 |[],_::_,hl,_=>by simp at hl
 |_::_,[],hl,_=>by simp at hl
theorem zJl(a:Addr)(ha:a.spot=none)(i:Nat):a.add i=⟨a.block,a.off+i,none⟩:=by
 unfold Addr.add;split
 ·rename_i e;subst e;obtain⟨b,o,s⟩:=a;simp only at ha;subst ha;rfl
 ·rfl
theorem zIv{σ:Nat->Option Pl}:∀ (sz:List Nat) (as:List (List Value)) (cs:List Value),sz.sum=cs.length->as.length=sz.length->
  (∀ (i:Nat) a s,as[i]?=some a->sz[i]?=some s->WW σ a ((cs.drop (sz.take i).sum).take s))->
  WW σ as.flatten cs/\∀ (i:Nat) a s,as[i]?=some a->sz[i]?=some s->a.length=s/\(as.flatten.drop (sz.take i).sum).take s=a
 |[],[],cs,hs,_,_=>by
  have:cs=[]:=GS.1 (by simpa using hs.symm);subst this;exact⟨WW.nil _,fun i a s ha=>by simp at ha⟩
 |[],_::_,_,_,hl,_=>by simp at hl
 |_::_,[],_,_,hl,_=>by simp at hl
 |s::sz,a::as,cs,hs,hl,h=>by
  have h0:=h 0 a s rfl rfl;simp only[GA,List.sum_nil,Qx]at h0;have hs':sz.sum+s=cs.length:=by simp at hs;omega
  have al:a.length=s:=by rw[h0.1];simp;omega
  obtain⟨i1,i2⟩:=zIv sz as (cs.drop s) (by simp;omega) (by simpa using hl) (fun i x y hx hy=>by
   have:=h (i+1) x y (by simpa using hx) (by simpa using hy);simpa [Gb]using this)
  refine⟨?_,fun i x y hx hy=> ?_⟩
  ·have:=h0.append i1;simpa using this
  ·cases i with
   |zero=>
    simp at hx hy;subst hx hy;refine⟨al,?_⟩;simp only[GA,List.sum_nil,Qx,Gn];rw[<-al];simp
   |succ i=>
    simp at hx hy;obtain⟨j1,j2⟩:=i2 i x y hx hy;refine⟨j1,?_⟩;simp only[Qz,List.sum_cons,Gn];rw[List.drop_append,List.drop_of_length_le (by omega),GF];have e:s+(sz.take i).sum-a.length=(sz.take i).sum:=by omega
    rw[e];exact j2
theorem zAx:∀ {l:List Field} {n m:Nat},zA2 P l n=some m->m=n+(l.map fun f=>P.cellsOf f.type).sum/\
  ∀ (i:Nat) (f:Field),l[i]?=some f->f.offset=n+((l.map fun f=>P.cellsOf f.type).take i).sum
 |[],n,m,h=>by simp[zA2]at h;subst h;exact⟨by simp,fun i f hf=>by simp at hf⟩
 |f::l,n,m,h=>by
  unfold zA2 at h;cases hb:Nat.beq f.offset n with
  |false=>simp[hb]at h
  |true=>
   have hb':=QI hb;simp only[hb,cond_true]at h;obtain⟨h1,h2⟩:=zAx h;refine⟨by rw[h1];simp;omega,fun i g hg=> ?_⟩;cases i with
   |zero=>simp at hg;subst hg;simpa using hb'
   |succ i=>simp at hg;rw[h2 i g hg];simp;omega
theorem zPW(L:List Value)(off c:Nat)(f:Nat->List Value):∀ len,(∀ i,i<len->f i=(L.drop (off+i*c)).take c)->((List.range len).map f).flatten=(L.drop off).take (len*c):=by
 intro len;induction len with
 |zero=>intro _;simp
 |succ n ih=>
  intro h;rw[List.range_succ,GU,List.flatten_append,ih (fun i hi=>h i (by omega))];simp only[Q6,Gl,Gn,List.flatten_nil,G5];rw[h n (by omega),GX,List.take_add,Gb]
theorem zI0:∀ (n:Nat) (t:TypeId) (cs:List Value) (x:DataW H×List MemPlace),DataW.trod enc P w 0 (fun _=>true) true n t cs=some x->∀ (m:Nat),Yp P m t=true->
  ∀ (σ:Nat->Option Pl) (h:WF),Bl P B σ h w->∃ (σ':Nat->Option Pl) (h':WF) (acs:List Value),Bl P B σ' h' w/\WK h h'/\Le σ σ'/\WW σ' acs cs/\Rd P h' t acs x.1:=by
 intro n;induction n with
 |zero=>intro t cs x hx;simp[DataW.trod]at hx
 |succ n ih=>
  intro t cs x hx m hm σ h hc;have one:∀ t cs (d:DataW H),(∃ x,DataW.trod enc P w 0 (fun _=>true) true n t cs=some x/\x.1=d/\∃ m,Yp P m t=true)->∀ σ h,Bl P B σ h w->
    ∃ (σ':Nat->Option Pl) (h':WF) (acs:List Value),Bl P B σ' h' w/\WK h h'/\Le σ σ'/\WW σ' acs cs/\Rd P h' t acs d:=fun t cs d ⟨x,h1,h2,m,h3⟩ σ h hc=>by
   subst h2;exact ih t cs x h1 m h3 σ h hc
  cases m with
  |zero=>cases hm
  |succ m=>
  cases hu:P.underlying t with
  |none=>simp[Yp,hu]at hm
  |some u=>
  cases u with
  |bool=>
   obtain⟨b,rfl,rfl⟩:=DataW.trod_bool hu hx;exact⟨σ,h,_,hc,WK.refl h,.refl _,.cons (.bool b) (.nil _),.bool b hu⟩
  |int k=>
   obtain⟨b,rfl,rfl,wf⟩:=DataW.trod_int hu hx;exact⟨σ,h,_,hc,WK.refl h,.refl _,.cons (.int k b) (.nil _),.int b hu wf⟩
  |string=>
   obtain⟨b,rfl,rfl,wf⟩:=DataW.trod_string hu hx;exact⟨σ,h,_,hc,WK.refl h,.refl _,.cons (.string b) (.nil _),.string b hu wf⟩
  |struct fs=>
   obtain⟨xs,n',e,rfl,hl,hxs,hf⟩:=DataW.trod_struct hu hx;cases e;simp only[Yp,hu,QJ,QV]at hm;obtain⟨hm1,hm2⟩:=hm;cases hcon:zA2 P fs.toList 0 with
   |none=>simp[hcon]at hm1
   |some q=>
   simp only[hcon]at hm1;have hq:=QI hm1;obtain⟨c1,c2⟩:=zAx hcon;let l:List (TypeId×List Value×DataW H):=(fs.toList.zip xs).map fun p=>(p.1.type,(cs.drop p.1.offset).take (P.cellsOf p.1.type),p.2.1)
   have hlen:l.length=fs.size:=by simp[l,hxs]
   have hget:∀ (i:Nat) p,l[i]?=some p->∃ f y,fs[i]?=some f/\xs[i]?=some y/\p=(f.type,(cs.drop f.offset).take (P.cellsOf f.type),y.1):=fun i p hp=>by
    simp only[l,GY,QP]at hp;obtain⟨⟨f,y⟩,h1,h2⟩:=hp;rw[List.getElem?_zip_eq_some]at h1;exact⟨f,y,by simpa using h1.1,h1.2,h2.symm⟩
   obtain⟨σ',h',as,k1,k2,k3,k4,k5⟩:=zA4 _ one l (fun p hp=>by
    obtain⟨i,hi⟩:=Gi.1 hp;obtain⟨f,y,h1,h2,rfl⟩:=hget i p hi;exact⟨y,by rw[hf i f h1,h2],rfl,m,hm2 f (Ga (by simpa using h1))⟩) σ h hc
   have hsz:∀ (i:Nat) s,(fs.toList.map fun f=>P.cellsOf f.type)[i]?=some s->∃ f y,fs[i]?=some f/\xs[i]?=some y/\s=P.cellsOf f.type/\l[i]?=some (f.type,(cs.drop f.offset).take (P.cellsOf f.type),y.1):=fun i s hs=>by
    simp only[GY,QP]at hs;obtain⟨f,h1,h2⟩:=hs;have hi:i<fs.size:=by simpa using(QM.1 h1).1
    have hy:xs[i]?=some (xs[i]'(by omega)):=QB _;refine⟨f,_,by simpa using h1,hy,h2.symm,?_⟩;simp only[l,GY];have hz:(fs.toList.zip xs)[i]?=some (f,xs[i]'(by omega)):=List.getElem?_zip_eq_some.2 ⟨h1,hy⟩;rw[hz];rfl
   obtain⟨p1,p2⟩:=zIv (σ:=σ') (fs.toList.map fun f=>P.cellsOf f.type) as cs (by omega) (by rw[k4,hlen];simp) (fun i a s ha hs=>by
    obtain⟨f,y,h1,h2,rfl,h3⟩:=hsz i s hs;have:=(k5 i a _ ha h3).1;rw[c2 i f (by simpa using h1),Qk]at this;exact this)
   refine⟨σ',h',as.flatten,k1,k2,k3,p1,.struct _ _ hu (by rw[p1.1];exact hl) (by simpa using hxs) fun i f d hfi hd=> ?_⟩;simp only[GY,QP]at hd;obtain⟨y,hy,rfl⟩:=hd;have hs:(fs.toList.map fun f=>P.cellsOf f.type)[i]?=some (P.cellsOf f.type):=by simp[hfi]
   obtain⟨f',y',h1,h2,h4,h3⟩:=hsz i _ hs;rw[hfi]at h1;cases h1;rw[hy]at h2;cases h2;have hi:i<as.length:=by rw[k4];exact(QM.1 h3).1
   have ha:as[i]?=some as[i]:=QB _;have e1:=(p2 i _ _ ha hs).2;rw[c2 i f (by simpa using hfi),Qk,e1];exact(k5 i _ _ ha h3).2
  |array k e=>
   obtain⟨xs,n',e',rfl,hl,hxs,hf⟩:=DataW.trod_array hu hx;cases e';simp only[Yp,hu,QJ]at hm;obtain⟨hm1,hm2⟩:=hm;have hq:=QI hm1;let l:List (TypeId×List Value×DataW H):=(List.range k).map fun i=>(e,(cs.drop (i*P.cellsOf e)).take (P.cellsOf e),((xs[i]?).map (·.1)).getD .nil)
   have hget:∀ (i:Nat),i<k->∃ y,xs[i]?=some y/\l[i]?=some (e,(cs.drop (i*P.cellsOf e)).take (P.cellsOf e),y.1):=fun i hi=>by
    have hy:xs[i]?=some (xs[i]'(by omega)):=QB _;exact⟨_,hy,by simp[l,hi,hy]⟩
   obtain⟨σ',h',as,k1,k2,k3,k4,k5⟩:=zA4 _ one l (fun p hp=>by
    obtain⟨i,hi⟩:=Gi.1 hp;have hik:i<k:=by have:=(QM.1 hi).1;simpa [l]using this
    obtain⟨y,h1,h2⟩:=hget i hik;rw[h2]at hi;cases hi;exact⟨y,by rw[hf i hik,h1],rfl,m,hm2⟩) σ h hc
   have hsum:∀ i,i<=k->((List.replicate k (P.cellsOf e)).take i).sum=i*P.cellsOf e:=fun i hi=>by
    rw[List.take_replicate,List.sum_replicate_nat,GD hi]
   obtain⟨p1,p2⟩:=zIv (σ:=σ') (List.replicate k (P.cellsOf e)) as cs (by rw[List.sum_replicate_nat];omega) (by rw[k4];simp[l]) (fun i a s ha hs=>by
    have hik:i<k:=by have:=(QM.1 hs).1;simpa using this
    obtain⟨y,h1,h2⟩:=hget i hik;have hs':s=P.cellsOf e:=by rw[List.getElem?_replicate,QG hik]at hs;exact(Q5 hs).symm
    subst hs';rw[hsum i (by omega)];exact(k5 i a _ ha h2).1)
   refine⟨σ',h',as.flatten,k1,k2,k3,p1,.array _ _ hu (by rw[p1.1];exact hl) (by simpa using hxs) fun i d hd=> ?_⟩;simp only[GY,QP]at hd;obtain⟨y,hy,rfl⟩:=hd;have hik:i<k:=by have:=(QM.1 hy).1;omega
   obtain⟨y',h1,h2⟩:=hget i hik;rw[hy]at h1;cases h1;have hi:i<as.length:=by rw[k4];exact(QM.1 h2).1
   have ha:as[i]?=some as[i]:=QB _;have e1:=(p2 i _ (P.cellsOf e) ha (by simp[hik])).2;rw[hsum i (by omega)]at e1;rw[e1];exact(k5 i _ _ ha h2).2
  |slice e=>
   simp only[Yp,hu,QJ]at hm;obtain⟨hm1,hm2⟩:=hm;have hc1:1<=P.cellsOf e:=QO hm1;rcases DataW.trod_slice hu hx with⟨rfl,rfl⟩|⟨a,len,cap,elems,rest,n',e',rfl,rfl,_,hlc,hcm,hel,hrd,hsp,_⟩
   ·exact⟨σ,h,_,hc,WK.refl h,.refl _,.cons .snil (.nil _),.snil hu⟩
   cases e';obtain⟨hrl,hrr⟩:=hsp rfl;by_cases hcap:cap=0
   ·subst hcap;have:len=0:=by omega
    subst this;have:elems=[]:=GS.1 hel;subst this;exact⟨σ,h,_,hc,WK.refl h,.refl _,.cons (.szero a a _) (.nil _),.szero a _ hu⟩
   ·generalize hcd:P.cellsOf e=c at *;have hall:∀ i,i<cap->∃ cs,w.cells? 0 (a.add (i*c)) c=some cs:=fun i hi=>by
     by_cases hil:i<len
     ·have:=hrd i hil;rw[QB (by omega)]at this;obtain⟨cs,h1,_⟩:=Option.bind_eq_some_iff.1 this;exact⟨cs,h1⟩
     ·have:=hrr (i-len) (by omega);rw[QB (by omega),show len+(i-len)=i by omega]at this;obtain⟨cs,h1,_⟩:=Option.bind_eq_some_iff.1 this;exact⟨cs,h1⟩
    have hspot:a.spot=none:=by
     obtain⟨cs,h1⟩:=hall 0 (by omega);obtain⟨_,h2,h3⟩:=World.cells?_some h1;have h4:=h3 0 (by omega);rw[G7]at h4;have h5:(a.add 0).add 0=a:=by simp[Addr.add]
     rw[h5,QB (by omega)]at h4;exact World.cell?_spot h4
    have hadd:∀ i j,(a.add i).add j=⟨a.block,a.off+i+j,none⟩:=fun i j=>by
     rw[zJl a hspot,zJl _ rfl]
    obtain⟨carr,elem,fr,hblk⟩:∃ carr elem fr,w.heap[a.block]?=some (.cells carr elem fr):=by
     obtain⟨cs,h1⟩:=hall 0 (by omega);obtain⟨_,h2,h3⟩:=World.cells?_some h1;have h4:=h3 0 (by omega);rw[hadd,QB (by omega)]at h4;unfold World.cell? at h4;split at h4
     ·exact⟨_,_,_,by assumption⟩
     ·cases h4
    have hcell:∀ k,w.cell? ⟨a.block,k,none⟩=carr[k]?:=fun k=>by simp[World.cell?,hblk]
    have hpiece:∀ i,i<cap->w.cells? 0 (a.add (i*c)) c=some ((carr.toList.drop (a.off+i*c)).take c)/\a.off+i*c+c<=carr.size:=fun i hi=>by
     obtain⟨cs,h1⟩:=hall i hi;obtain⟨_,h2,h3⟩:=World.cells?_some h1;have hb:a.off+i*c+c<=carr.size:=by
      have h4:=h3 (c-1) (by omega);rw[hadd,hcell,QB (by omega)]at h4;have:=(Gs.1 h4).1;omega
     refine⟨?_,hb⟩;rw[h1];congr 1;apply Gx;intro j;by_cases hj:j<c
     ·rw[<-h3 j hj,hadd,hcell,Q4,QG hj,Q8];simp
     ·rw[GW (by omega),GW (by simp;omega)]
    have hbound:a.off+cap*c<=carr.size:=by
     have:=(hpiece (cap-1) (by omega)).2;have e2:(cap-1)*c+c=cap*c:=by
      rw[<-GX];congr 1;omega
     omega
    let l:List (TypeId×List Value×DataW H):=(List.range len).map fun i=>(e,(carr.toList.drop (a.off+i*c)).take c,((elems[i]?).map (·.1)).getD .nil)
    have hget:∀ (i:Nat),i<len->∃ y,elems[i]?=some y/\l[i]?=some (e,(carr.toList.drop (a.off+i*c)).take c,y.1):=fun i hi=>by
     have hy:elems[i]?=some (elems[i]'(by omega)):=QB _;exact⟨_,hy,by simp[l,hi,hy]⟩
    obtain⟨σ',h',as,k1,k2,k3,k4,k5⟩:=zA4 _ one l (fun p hp=>by
     obtain⟨i,hi⟩:=Gi.1 hp;have hik:i<len:=by have:=(QM.1 hi).1;simpa [l]using this
     obtain⟨y,h1,h2⟩:=hget i hik;rw[h2]at hi;cases hi;have:=hrd i hik;rw[(hpiece i (by omega)).1,h1]at this;exact⟨y,this,rfl,m,hm2⟩) σ h hc
    have hlen:as.length=len:=by rw[k4];simp[l]
    have hal:∀ (i:Nat) x,as[i]?=some x->i<len/\x.length=c:=fun i x hx=>by
     have hi:i<len:=by have:=(QM.1 hx).1;omega
     obtain⟨y,_,h2⟩:=hget i hi;have:=(k5 i x _ hx h2).1.1;refine⟨hi,?_⟩;rw[this];have:=(hpiece i (by omega)).2;simp;omega
    have hfl:as.flatten.length=len*c:=by
     rw[zDr (c:=c) (fun x hx=>by obtain⟨i,hi⟩:=Gi.1 hx;exact(hal i x hi).2),hlen]
    have hrel:WW σ' as.flatten ((carr.toList.drop a.off).take (len*c)):=by
     rw[<-zPW carr.toList a.off c (fun i=>(carr.toList.drop (a.off+i*c)).take c) len (fun i _=>rfl)];refine zFV (by simp[hlen]) fun i x y hx hy=> ?_;obtain⟨hi,_⟩:=hal i x hx;obtain⟨z,_,h2⟩:=hget i hi;have hy':y=(carr.toList.drop (a.off+i*c)).take c:=by
      rw[GY,List.getElem?_range hi]at hy;exact(Q5 hy).symm
     rw[hy'];exact(k5 i x _ hx h2).1
    let pl:Pl:=⟨a.block,a.off,carr.size⟩
    have hlc':len*c<=cap*c:=Qr c hlc;have hor:Ba P σ' pl (.row as.flatten false 0) w:=by
     refine⟨carr,elem,fr,hblk,rfl,by show a.off+as.flatten.length<=carr.size;omega,fun i v hv=> ?_,fun x=>by cases x⟩;have hi:i<len*c:=by have:=(QM.1 hv).1;omega
     obtain⟨y,hy,hvy⟩:=hrel.get hv;rw[Q4,QG hi,Q8]at hy;exact⟨y,by simpa using hy,hvy⟩
    obtain⟨r1,_,r3,r4⟩:=zIc k1.rel k1.no k1.rows (cells:=as.flatten) (pl:=pl) (Gs.1 hblk).1 hor;refine⟨ZY σ' h'.n pl,h'.push (.row as.flatten false 0),[.slice (some ⟨h'.n,0,none⟩) (elems.map (·.1)).length c],⟨r1,r3,(Zl h' _).wf k1.wf⟩,k2.trans (Zl h' _),k3.trans r4,?_,?_⟩
    ·refine .cons ?_ (.nil _);obtain⟨b,o,sp⟩:=a;simp only at hspot;subst hspot;have:=WL.slice (σ:=ZY σ' h'.n pl) (g:=h'.n) (off:=0) (len:=len) (c:=c) (cap:=cap) (pl:=pl) (yG _ _ _) (by omega) hlc hbound;simpa [pl,hel]using this
    ·subst hcd;refine .slice h'.n as.flatten _ _ hu (zZ _ _) (by simp[WF.push]) (by rw[hfl];simp[hel]) (by simp[hel];omega) fun i d hd=> ?_;simp only[GY,QP]at hd;obtain⟨y,hy,rfl⟩:=hd;have hi:i<len:=by have:=(QM.1 hy).1;omega
     obtain⟨y',h1,h2⟩:=hget i hi;rw[hy]at h1;cases h1;have ha:as[i]?=some (as[i]'(by omega)):=QB _;have hp:=zD1 ha;have hpre:(as.take i).flatten.length=i*P.cellsOf e:=by
      rw[zDr (c:=P.cellsOf e) (fun x hx=>by
       obtain⟨j,hj⟩:=Gi.1 (JH hx);exact(hal j x hj).2)]
      simp[GD (by omega:i<=as.length)]
     rw[hpre,(hal i _ ha).2]at hp;rw[hp];exact(k5 i _ _ ha h2).2.ext (Zl h' _)
  |_=>simp[Yp,hu]at hm
end
section
variable {P:Program}{H:Type}{enc:TypeId×Value->H}{w:World}{B:Nat}{σ:Nat->Option Pl}{h:WF}
theorem zLb{tab:Wv}(hmix:P.follows .mixedOrders=true)(htab:tab.Ok P)(hc:Bl P B σ h w){f:FuncId}{args:List Value}{as:Array Value}(hl:WW σ args as.toList)
  (hx:WC P tab f args h fun r _=>r=.bool true):Calls P f as w fun e w'=>e=.returned (.bool true)/\Below B w w':=by
 unfold WC at hx;obtain⟨v,h',rfl,ev⟩:=hx;obtain⟨n,hn⟩:=ev.get;exact zLT hmix htab (n:=n) (by rw[hn];rfl) hc.rel hl
theorem zCe{t:TypeId}{v:Value}{d:DataW H}{p:List MemPlace}(hd:DataW.Trod enc P w 0 (fun _=>true) true t v d p)(m:Nat)(hm:Yp P m t=true)(hc:Bl P B σ h w):
  ∃ (σ':Nat->Option Pl) (h':WF) (acs:List Value),Bl P B σ' h' w/\WK h h'/\Le σ σ'/\WW σ' acs v.cells.toList/\Rd P h' t acs d:=by
 obtain⟨n,hn⟩:=hd;exact zI0 n t _ _ hn m hm σ h hc
theorem zHd{σ:Nat->Option Pl}{av v:Value}(hl:WW σ [av] v.cells.toList)(hv:v.cells.toList=[v]):WL σ av v:=by
 rw[hv]at hl;exact hl.2 0 _ _ rfl rfl
theorem yq{t:TypeId}{k:IntKind}{acs:List Value}{d:DataW H}(r:Rd P h t acs d)(ht:P.underlying t=some (.int k)):∃ n,acs=[.int k n]/\(Lit.int k n).wf=true:=by
 cases r with
 |int n ht' wf=>rw[ht]at ht';cases ht';exact⟨n,rfl,wf⟩
 |bool _ ht'=>rw[ht]at ht';cases ht'
 |string _ ht'=>rw[ht]at ht';cases ht'
 |snil ht'=>rw[ht]at ht';cases ht'
 |szero _ _ ht'=>rw[ht]at ht';cases ht'
 |slice _ _ _ _ ht'=>rw[ht]at ht';cases ht'
 |struct _ _ ht'=>rw[ht]at ht';cases ht'
 |array _ _ ht'=>rw[ht]at ht';cases ht'
theorem zEH{t e:TypeId}{acs:List Value}{d:DataW H}(r:Rd P h t acs d)(ht:P.underlying t=some (.slice e)):
  (acs=[.slice none 0 0]/\d=.nil)\/(∃ a sp,acs=[.slice (some a) 0 (P.cellsOf e)]/\d=.slice [] sp)\/
  ∃ g cells elems sp,acs=[.slice (some ⟨g,0,none⟩) elems.length (P.cellsOf e)]/\d=.slice elems sp/\h.get g=some (.row cells false 0)/\g<h.n/\cells.length=elems.length*P.cellsOf e/\elems.length<=maxLen/\
   ∀ (i:Nat) (d:DataW H),elems[i]?=some d->Rd P h e ((cells.drop (i*P.cellsOf e)).take (P.cellsOf e)) d:=by
 cases r with
 |int n ht' wf=>rw[ht]at ht';cases ht'
 |bool _ ht'=>rw[ht]at ht';cases ht'
 |string _ ht'=>rw[ht]at ht';cases ht'
 |snil ht'=>exact .inl ⟨rfl,rfl⟩
 |szero a sp ht'=>rw[ht]at ht';cases ht';exact .inr (.inl ⟨a,sp,rfl,rfl⟩)
 |slice g cells elems sp ht' hg hn hl hm hr=>rw[ht]at ht';cases ht';exact .inr (.inr ⟨g,cells,elems,sp,rfl,rfl,hg,hn,hl,hm,hr⟩)
 |struct _ _ ht'=>rw[ht]at ht';cases ht'
 |array _ _ ht'=>rw[ht]at ht';cases ht'
theorem zPB{t e:TypeId}{acs:List Value}{d:DataW H}(r:Rd P h t acs d)(ht:P.underlying t=some (.slice e))(he:P.underlying e=some (.int .i64))(hc:P.cellsOf e=1):
  ∃ av l,acs=[av]/\Wd h av l/\(l.length:Int)<=9223372036854775807/\∀ a∈l,(Lit.int .i64 a).wf=true:=by
 rcases zEH r ht with⟨rfl,_⟩|⟨a,sp,rfl,_⟩|⟨g,cells,elems,sp,rfl,rfl,hg,hn,hl,hm,hr⟩
 ·exact⟨_,[],rfl,Wd.nil h,by simp,fun a ha=>by cases ha⟩
 ·refine⟨_,[],rfl,?_,by simp,fun a ha=>by cases ha⟩;exact⟨by simp,.inl ⟨rfl,.inr ⟨_,_,rfl⟩⟩⟩
 ·rw[hc]at hl hr |-;simp only[Nat.mul_one]at hl hr;have key:∀ i,i<cells.length->∃ n,cells[i]?=some (I n)/\(Lit.int .i64 n).wf=true:=fun i hi=>by
   have hd:elems[i]?=some (elems[i]'(by omega)):=QB _;obtain⟨n,e1,e2⟩:=yq (hr i _ hd) he;rw[GK hi,Qz,GA]at e1;exact⟨n,by rw[QB hi];simpa using e1,e2⟩
  obtain⟨l,rfl,hw⟩:∃ l:List Int,cells=l.map I/\∀ a∈l,(Lit.int .i64 a).wf=true:=by
   clear hg hl hr;induction cells with
   |nil=>exact⟨[],rfl,fun a ha=>by cases ha⟩
   |cons x xs ih=>
    obtain⟨n,e1,e2⟩:=key 0 (by simp);obtain⟨l,rfl,e3⟩:=ih fun i hi=>by
     have:=key (i+1) (by simpa using hi);simpa using this
    simp at e1;subst e1;exact⟨n::l,rfl,fun a ha=>by
     rcases GI.1 ha with rfl|ha
     ·exact e2
     ·exact e3 a ha⟩
  have hle:elems.length=l.length:=by simpa using hl.symm
  rw[hle];refine⟨_,l,rfl,Wd.own hn hg,?_,hw⟩;unfold maxLen at hm;omega
theorem zIN{t:TypeId}{v:Value}{r:Reach}{base:Nat}(ht:(∃ n e,P.underlying t=some (.array n e))\/∃ fs,P.underlying t=some (.struct fs))(hv:Value.okWide P w r base t v):∃ cs,v=.agg cs:=by
 unfold Value.okWide at hv;rcases ht with⟨n,e,ht⟩|⟨fs,ht⟩
 ·rw[ht]at hv;obtain⟨cs,h1,_⟩:=hv;exact⟨cs,h1⟩
 ·rw[ht]at hv;obtain⟨cs,h1,_⟩:=hv;exact⟨cs,h1⟩
theorem zOr{σ:Nat->Option Pl}{l:List Value}{cs:Array Value}(hl:WW σ l (Value.agg cs).cells.toList):WL σ (.agg l.toArray) (.agg cs):=by
 have:=Vd hl;simpa [Value.cells]using this
end
def zEQ{H:Type}:Nat->DataW H->List Value
 |_,.lit (.bool b)=>[.bool b]
 |_,.lit (.int k n)=>[.int k n]
 |n+1,.agg parts=>(parts.map (zEQ n)).flatten
 |_,_=>[]
def zCa(P:Program):Nat->TypeId->Bool
 |0,_=>false
 |n+1,t=>match P.underlying t with
  |some .bool|some (.int _)=>true
  |some (.struct fs)=>(match zA2 P fs.toList 0 with|some m=>Nat.beq m (P.cellsOf t)|none=>false)&&fs.toList.all fun f=>zCa P n f.type
  |some (.array m e)=>Nat.beq (m*P.cellsOf e) (P.cellsOf t)&&zCa P n e
  |_=>false
theorem zDx:∀ (sz:List Nat) (as:List (List Value)) (cs:List Value),sz.sum=cs.length->as.length=sz.length->
  (∀ (i:Nat) a s,as[i]?=some a->sz[i]?=some s->a=(cs.drop (sz.take i).sum).take s)->as.flatten=cs
 |[],[],cs,hs,_,_=>by
  have:cs=[]:=GS.1 (by simpa using hs.symm);subst this;rfl
 |[],_::_,_,_,hl,_=>by simp at hl
 |_::_,[],_,_,hl,_=>by simp at hl
 |s::sz,a::as,cs,hs,hl,h=>by
  have h0:=h 0 a s rfl rfl;simp only[GA,List.sum_nil,Qx]at h0;have ih:=zDx sz as (cs.drop s) (by simp at hs;simp;omega) (by simpa using hl) (fun i x y hx hy=>by
   have:=h (i+1) x y (by simpa using hx) (by simpa using hy);simpa [Gb]using this)
  rw[Gn,ih,h0,GG]
section
variable {P:Program}{H:Type}{enc:TypeId×Value->H}{w:World}{B base:Nat}{spare:Nat->Bool}{held:Bool}
theorem zMZ:∀ (n:Nat) (t:TypeId) (cs:List Value) (x:DataW H×List MemPlace),DataW.trod enc P w base spare held n t cs=some x->∀ m,zCa P m t=true->cs=zEQ m x.1:=by
 intro n;induction n with
 |zero=>intro t cs x hx;simp[DataW.trod]at hx
 |succ n ih=>
  intro t cs x hx m hm;cases m with
  |zero=>cases hm
  |succ m=>
  cases hu:P.underlying t with
  |none=>simp[zCa,hu]at hm
  |some u=>
  cases u with
  |bool=>obtain⟨b,rfl,rfl⟩:=DataW.trod_bool hu hx;rfl
  |int k=>obtain⟨b,rfl,rfl,_⟩:=DataW.trod_int hu hx;rfl
  |struct fs=>
   obtain⟨xs,n',e,rfl,hl,hxs,hf⟩:=DataW.trod_struct hu hx;cases e;simp only[zCa,hu,QJ,QV]at hm;obtain⟨hm1,hm2⟩:=hm;cases hcon:zA2 P fs.toList 0 with
   |none=>simp[hcon]at hm1
   |some q=>
   simp only[hcon]at hm1;have hq:=QI hm1;obtain⟨c1,c2⟩:=zAx hcon;simp only[zEQ];refine(zDx (fs.toList.map fun f=>P.cellsOf f.type) _ cs (by omega) (by simp[hxs]) fun i a s ha hs=> ?_).symm;simp only[GY,QP]at ha hs;obtain⟨d,⟨y,hy,rfl⟩,rfl⟩:=ha;obtain⟨f,hfi,rfl⟩:=hs;have h1:=hf i f (by simpa using hfi);rw[hy]at h1;have:=c2 i f hfi;rw[Qk]at this;rw[<-this];exact(ih _ _ _ h1 m (hm2 f (Ga hfi))).symm
  |array k e=>
   obtain⟨xs,n',e',rfl,hl,hxs,hf⟩:=DataW.trod_array hu hx;cases e';simp only[zCa,hu,QJ]at hm;obtain⟨hm1,hm2⟩:=hm;have hq:=QI hm1;simp only[zEQ];have hsum:∀ i,i<=k->((List.replicate k (P.cellsOf e)).take i).sum=i*P.cellsOf e:=fun i hi=>by
    rw[List.take_replicate,List.sum_replicate_nat,GD hi]
   refine(zDx (List.replicate k (P.cellsOf e)) _ cs (by rw[List.sum_replicate_nat];omega) (by simp[hxs]) fun i a s ha hs=> ?_).symm;simp only[GY,QP]at ha;obtain⟨d,⟨y,hy,rfl⟩,rfl⟩:=ha;have hik:i<k:=by have:=(QM.1 hy).1;omega
   have hs':s=P.cellsOf e:=by rw[List.getElem?_replicate,QG hik]at hs;exact(Q5 hs).symm
   subst hs';have h1:=hf i hik;rw[hy]at h1;rw[hsum i (by omega)];exact(ih _ _ _ h1 m hm2).symm
  |_=>simp[zCa,hu]at hm
theorem zIT{nm:String}{g:Nat}{t:TypeId}{cs:Array Value}{n m:Nat}{d:DataW H}{p:List MemPlace}(hg:P.globalNamed nm=some g)(hv:w.var? P nm=some cs)
  (hd:DataW.trod enc P w base spare held n t cs.toList=some (d,p)) (hm:zCa P m t=true):∃ elem fr,w.heap[g]?=some (.cells (zEQ m d).toArray elem fr):=by
 have h1:=zMZ n t _ _ hd m hm;simp only at h1;have h2:cs=(zEQ m d).toArray:=by rw[<-h1]
 unfold World.var? at hv;rw[hg,QQ]at hv;split at hv
 ·rename_i c elem fr hh;cases hv;exact⟨elem,fr,by rw[hh,h2]⟩
 ·cases hv
theorem zQW(hg:P.globals.size<=w.heap.size)(l:List (Nat×List Value))(hl:∀ x∈l,x.1<P.globals.size/\y8 x.2=true/\∃ elem fr,w.heap[x.1]?=some (.cells x.2.toArray elem fr)):
  Bl P w.heap.size (s0 P w) (YX P.globals.size l) w:=by
 refine⟨⟨fun g h=>⟨⟨g,0,match w.heap[g]? with|some (.cells c _ _)=>c.size|_=>0⟩,QG h,rfl,rfl⟩,fun g pl hp=> ?_,fun g o hg=> ?_,fun g o g' o' pl pl' hg hg' hne hp hp' hb=> ?_,QE _⟩,fun g o hg=> ?_,fun g hn=> ?_⟩
 ·unfold s0 at hp;split at hp
  ·cases hp;exact⟨by rw[zDW];assumption,by show g<w.heap.size;omega⟩
  ·cases hp
 ·obtain⟨cells,a,rfl⟩:=Ze _ l g o hg;obtain⟨b1,b2,elem,fr,b3⟩:=hl _ a;refine⟨⟨g,0,match w.heap[g]? with|some (.cells c _ _)=>c.size|_=>0⟩,QG b1,?_,fun e=>by cases e⟩;refine⟨_,elem,fr,b3,by simp[b3],by simp only[b3];simp,fun i x hx=> ?_,fun e=>by cases e⟩;exact⟨x,by simpa using hx,VM _ (QV.1 b2 x (Ga hx))⟩
 ·obtain⟨c,a,rfl⟩:=Ze _ l g o hg;obtain⟨c',a',rfl⟩:=Ze _ l g' o' hg';exact⟨fun⟨x,_⟩=>Bool.noConfusion x,fun x=>Bool.noConfusion x,fun x=>Bool.noConfusion x⟩
 ·obtain⟨c,a,rfl⟩:=Ze _ l g o hg;exact⟨_,_,rfl⟩
 ·cases hq:(YX P.globals.size l).get g with
  |none=>rfl
  |some o=>
   obtain⟨c,a,rfl⟩:=Ze _ l g o hq;rw[zDW]at hn;have:=(hl _ a).1;simp only at this;omega
end
end Go.Am
