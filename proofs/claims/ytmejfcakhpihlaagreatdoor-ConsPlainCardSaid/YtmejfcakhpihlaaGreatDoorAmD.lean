/- A part of the machine and of its soundness; proves no statement. -/
import Derived.Test.YtmejfcakhpihlaaGreatDoorAmC
import Derived.OpenShut
import Derived.ChangeOld
import Derived.LaidMore
import Derived.MakeChecks
import Derived.HandedShaped
set_option linter.unusedVariables false
set_option linter.unusedSimpArgs false
namespace Go.Am
open Go.RowKit
section
variable {P:Program}
def zCl:Value->Value->Bool
 | .int k a,.int k' b=>decide (k=k')&&a == b
 | .bool a,.bool b=>a == b
 |_,_=>false
def zAj:List Value->List Value->Bool
 |[],[]=>true
 |a::l,b::m=>zCl a b&&zAj l m
 |_,_=>false
theorem zNX:∀ {a b:Value},zCl a b=true->a=b
 | .int k a,.int k' b,h=>by
  simp only[zCl,QF,QV,G3]at h;rw[h.1,h.2]
 | .bool a,.bool b,h=>by
  simp only[zCl,G3]at h;rw[h]
theorem zKY:∀ {l m:List Value},zAj l m=true->l=m
 |[],[],_=>rfl
 |a::l,b::m,h=>by
  simp only[zAj,QF]at h;rw[zNX h.1,zKY h.2]
def Z6(n:Nat):List (Nat×List Value)->U2
 |[]=>zSp n
 |(g,cells)::l=>{Z6 n l with tab:=(Z6 n l).tab.set g (.row cells false 0)}
def zAV(h:U2)(l:List (Nat×List Value)):Bool:=l.all fun(g,cells)=>match h.get g with
 |some (.row c _ _)=>zAj c cells
 |_=>false
def zBT(l:List (Nat×List Value))(v:Value):List Value->U2->Option (Value×U2):=
 fun args h=>bif args.isEmpty&&zAV h l then some (v,h)else none
theorem ZJ(n:Nat):∀ (l:List (Nat×List Value)) (g:Nat) (o:Wd),(Z6 n l).get g=some o->∃ cells,(g,cells)∈l/\o=.row cells false 0
 |[],g,o,h=>by
  have h:(U7.leaf:U7 Wd).get g=some o:=h;cases h
 |(k,cells)::l,g,o,h=>by
  have h2:((Z6 n l).tab.set k (.row cells false 0)).get g=some o:=h;rw[zQ]at h2;by_cases e:g=k
  ·rw[QI e]at h2;subst e;exact⟨cells,by simp,(Q3 h2).symm⟩
  ·rw[QC e]at h2;obtain⟨c,a,b⟩:=ZJ n l g o h2;exact⟨c,by simp[a],b⟩
theorem zCs(n:Nat):∀ (l:List (Nat×List Value)),(Z6 n l).n=n
 |[]=>rfl
 |_::l=>zCs n l
theorem zSn{B:Nat}{σ:Nat->Option Pl}{h:U2}{w:World}(hg:P.globals.size<=w.heap.size)(hr:WN P B σ h w)(l:List (Nat×List Value))(hl:∀ x∈l,x.1<P.globals.size/\yb x.2=true)
  (hh:zAV h l=true):WN P w.heap.size (s0 P w) (Z6 P.globals.size l) w:=by
 refine⟨fun g h=>⟨⟨g,0,match w.heap[g]? with|some (.cells c _ _)=>c.size|_=>0⟩,QI h,rfl,rfl⟩,fun g pl hp=> ?_,fun g o hg=> ?_,fun g o g' o' pl pl' hg hg' hne hp hp' hb=> ?_,QE _⟩
 ·unfold s0 at hp;split at hp
  ·cases hp;exact⟨by rw[zCs];assumption,by show g<w.heap.size;omega⟩
  ·cases hp
 ·obtain⟨cells,a,rfl⟩:=ZJ _ l g o hg;obtain⟨b1,b2⟩:=hl _ a;refine⟨⟨g,0,match w.heap[g]? with|some (.cells c _ _)=>c.size|_=>0⟩,QI b1,?_,fun e=>by cases e⟩;have:=QX.1 hh _ a;simp only at this;cases hq:h.get g with
  |none=>simp[hq]at this
  |some o=>
   cases o with
   |row c own lo=>
    simp only[hq]at this;have e:=zKY this;subst e;obtain⟨pl,c1,c2,c3⟩:=hr.live _ _ hq;obtain⟨pl',d1,d2,d3⟩:=hr.globals g b1;rw[c1]at d1;cases d1;obtain⟨cs,elem,fr,e1,e2,e3,e4,e5⟩:=c2;rw[d2]at e1;refine⟨cs,elem,fr,e1,by simp[e1],by simp only[e1];omega,fun i x hx=> ?_,fun e=>by cases e⟩;obtain⟨y,y1,y2⟩:=e4 i x hx;have hc:yT x=true:=QX.1 b2 x (Gd hx);have:=y2.closed_eq hc;subst this;exact⟨y,by simpa [d3]using y1,VK _ hc⟩
   |map es k=>simp[hq]at this
   |loop r=>simp[hq]at this
   |deferred ds=>simp[hq]at this
   |iter s p=>simp[hq]at this
 ·obtain⟨c,a,rfl⟩:=ZJ _ l g o hg;obtain⟨c',a',rfl⟩:=ZJ _ l g' o' hg';exact⟨fun⟨x,_⟩=>Bool.noConfusion x,fun x=>Bool.noConfusion x,fun x=>Bool.noConfusion x⟩
theorem zIJ{tab:Wi}(hmix:P.follows .mixedOrders=true)(htab:tab.Ok P){f n:Nat}{v:Value}{l:List (Nat×List Value)}(hv:yT v=true)(hl:∀ x∈l,x.1<P.globals.size/\yb x.2=true)
  (hx:((Wy P tab n).call f [] (Z6 P.globals.size l)).map (·.1)=some v):zBb P f (zBT l v):=by
 intro e g args h v' h' hk;have hk:(if g=f then zBT l v args h else none)=some (v',h'):=hk;split at hk;case isFalse=>cases hk
 rename_i hgf;subst hgf;unfold zBT at hk;cases hc:(args.isEmpty&&zAV h l)with
 |false=>simp[hc]at hk
 |true=>
 simp only[hc,cond_true,QA,QD]at hk;obtain⟨rfl,rfl⟩:=hk;rw[QF]at hc;obtain⟨hargs,hlaid⟩:=hc;cases hq:(Wy P tab n).call g [] (Z6 P.globals.size l)with
 |none=>simp[hq]at hx
 |some q=>
 obtain⟨v1,h1⟩:=q;simp only[hq,QL,QA]at hx;subst hx;obtain⟨s1,s2⟩:=(sound hmix htab n).2 g [] _ _ _ hq;have hnil:args=[]:=List.isEmpty_iff.1 hargs;subst hnil;refine⟨fun as w=>s1 as w,fun B σ w hr as hl' kind hk'=> ?_⟩;have has:as=#[]:=by
  have:=hl'.1;simp at this;exact Array.eq_empty_of_size_eq_zero this.symm
 subst has;have hgs:P.globals.size<=w.heap.size:=by
  by_cases h0:P.globals.size=0
  ·omega
  ·obtain⟨pl,a,b,_⟩:=hr.globals (P.globals.size-1) (by omega);have:=(hr.lt _ _ a).2;omega
 have hr0:=zSn hgs hr l hl hlaid;obtain⟨σ',w',cv,ev,c2,c3⟩:=s2 w.heap.size (s0 P w) w hr0 #[] (WG.nil _) kind hk';have hcv:cv=v1:=c2.closed_eq hv;subst hcv;have bel:=ev.below hr0;have keep:∀ b,b<w.heap.size->w'.heap[b]?=w.heap[b]?:=bel.block;refine⟨σ,w',cv,⟨.refl _,⟨hr.globals,fun g pl hg=>⟨(hr.lt g pl hg).1,QG (hr.lt g pl hg).2 bel.size⟩,fun g o hg=> ?_,hr.apart,QO hr.le bel.size⟩,ev.os,ev.tape,ev.output,ev.size,fun b hb _=>keep b hb,fun b hb=> .inr hb,QE _,fun _ _=>rfl⟩,VK _ hv,c3⟩;obtain⟨pl,a1,a2,a3⟩:=hr.live g o hg;exact⟨pl,a1,a2.keep (.refl _) (keep _ (hr.lt _ _ a1).2),a3⟩
theorem zJn{l:List (Nat×List Value)}{v:Value}(args:List Value)(h:U2)(v':Value)(h':U2)(hk:zBT l v args h=some (v',h')):WY h.n h h':=by
 unfold zBT at hk;cases hc:(args.isEmpty&&zAV h l)with
 |false=>simp[hc]at hk
 |true=>
 simp only[hc,cond_true,QA,QD]at hk;obtain⟨_,rfl⟩:=hk;exact⟨QE _,fun _ _ h=>h,rfl,fun _ h=>h,fun _ _ _ _=>rfl,fun _ _ h _=>h,fun h=>h⟩
end
def Ev(p:Nat->Prop):Prop:=∃ N,∀ n,N<=n->p n
theorem Ev.mono{p q:Nat->Prop}(h:Ev p)(k:∀ n,p n->q n):Ev q:=let⟨N,a⟩:=h;⟨N,fun n hn=>k n (a n hn)⟩
theorem Ev.and{p q:Nat->Prop}(h:Ev p)(k:Ev q):Ev fun n=>p n/\q n:=
 let⟨N,a⟩:=h;let⟨M,b⟩:=k;⟨max N M,fun n hn=>⟨a n (by omega),b n (by omega)⟩⟩
theorem Ev.all{p:Nat->Prop}(h:∀ n,p n):Ev p:=⟨0,fun n _=>h n⟩
theorem Ev.up{p:Nat->Prop}(h:Ev fun n=>p (n+1)):Ev p:=
 let⟨N,a⟩:=h;⟨N+1,fun n hn=>by obtain⟨m,rfl⟩:∃ m,n=m+1:=⟨n-1,by omega⟩;exact a m (by omega)⟩
theorem Ev.get{p:Nat->Prop}(h:Ev p):∃ n,p n:=let⟨N,a⟩:=h;⟨N,a N (QE _)⟩
section
variable {P:Program}{tab:Wi}
def WX(P:Program)(tab:Wi)(c:U3)(fr:WF)(h:U2)(K:WB->WF->U2->Prop):Prop:=
 ∃ e fr' h',K e fr' h'/\Ev fun n=>(Wy P tab n).exec c fr h=some (e,fr',h')
def WC(P:Program)(tab:Wi)(f:FuncId)(args:List Value)(h:U2)(Q:Value->U2->Prop):Prop:=
 ∃ v h',Q v h'/\Ev fun n=>(Wy P tab n).call f args h=some (v,h')
def WV(P:Program)(tab:Wi)(f:Value)(args:List Value)(h:U2)(Q:Value->U2->Prop):Prop:=
 ∃ v h',Q v h'/\Ev fun n=>zAh (Wy P tab n) f args h=some (v,h')
def WO(P:Program)(tab:Wi)(ops:List U4)(fr:WF)(h:U2)(Q:WF->U2->Prop):Prop:=
 ∃ fr' h',Q fr' h'/\Ev fun n=>yV P (Wy P tab n) ops fr h=some (fr',h')
theorem WX.mono{c fr h K K'}(hx:WX P tab c fr h K)(hk:∀ e fr h,K e fr h->K' e fr h):WX P tab c fr h K':=
 let⟨e,fr',h',a,b⟩:=hx;⟨e,fr',h',hk _ _ _ a,b⟩
theorem WC.mono{f args h Q Q'}(hx:WC P tab f args h Q)(hk:∀ v h,Q v h->Q' v h):WC P tab f args h Q':=
 let⟨v,h',a,b⟩:=hx;⟨v,h',hk _ _ a,b⟩
theorem WV.mono{f args h Q Q'}(hx:WV P tab f args h Q)(hk:∀ v h,Q v h->Q' v h):WV P tab f args h Q':=
 let⟨v,h',a,b⟩:=hx;⟨v,h',hk _ _ a,b⟩
theorem WO.mono{ops fr h Q Q'}(hx:WO P tab ops fr h Q)(hk:∀ fr h,Q fr h->Q' fr h):WO P tab ops fr h Q':=
 let⟨v,h',a,b⟩:=hx;⟨v,h',hk _ _ a,b⟩
def zFC(P:Program)(tab:Wi)(b:U3)(K:WB->WF->U2->Prop):WB->WF->U2->Prop
 | .normal,fr,h=>WX P tab b fr h K
 | .exit i,fr,h=>K (.exit i) fr h
 | .goto l,fr,h=>K (.goto l) fr h
 | .ret,fr,h=>K .ret fr h
def Zy(id:Nat)(K:WB->WF->U2->Prop):WB->WF->U2->Prop
 | .normal,fr,h=>K .normal fr h
 | .exit i,fr,h=>if i=id then K .normal fr h else K (.exit i) fr h
 | .goto l,fr,h=>K (.goto l) fr h
 | .ret,fr,h=>K .ret fr h
def zCS{α:Type}(μ:α->Nat)(I:α->U7 Value->U2->Prop)(x:α)(ds:List Deferred)(rd:Option Nat)(K:WB->WF->U2->Prop):WB->WF->U2->Prop
 | .normal,fr,h=>fr.dfs=ds/\fr.round=rd/\∃ y,μ y<μ x/\I y fr.tm h
 | .exit i,fr,h=>K (.exit i) fr h
 | .goto l,fr,h=>K (.goto l) fr h
 | .ret,fr,h=>K .ret fr h
theorem YJ{b fr h K}(hx:WX P tab b fr h K):zFC P tab b K .normal fr h:=hx
theorem zEv{b i fr h K}(hx:K (.exit i) fr h):zFC P tab b K (.exit i) fr h:=hx
theorem zEQ{b i fr h K}(hx:K (.goto i) fr h):zFC P tab b K (.goto i) fr h:=hx
theorem zF2{b fr h K}(hx:K .ret fr h):zFC P tab b K .ret fr h:=hx
theorem zBn{id fr h}{K:WB->WF->U2->Prop}(hx:K .normal fr h):Zy id K .normal fr h:=hx
theorem zDV{id fr h}{K:WB->WF->U2->Prop}(hx:K .normal fr h):Zy id K (.exit id) fr h:=by simp only[Zy,Q2];exact hx
theorem zBU{i id fr h}{K:WB->WF->U2->Prop}(hi:Nat.beq i id=false)(hx:K (.exit i) fr h):Zy id K (.exit i) fr h:=by
 have:¬i=id:=fun e=>by subst e;simp at hi
 simp only[Zy,QC this];exact hx
theorem zDb{id l fr h}{K:WB->WF->U2->Prop}(hx:K (.goto l) fr h):Zy id K (.goto l) fr h:=hx
theorem zE6{id fr h}{K:WB->WF->U2->Prop}(hx:K .ret fr h):Zy id K .ret fr h:=hx
section
variable {α:Type}{μ:α->Nat}{I:α->U7 Value->U2->Prop}{x:α}{ds:List Deferred}{rd:Option Nat}{K:WB->WF->U2->Prop}
theorem zA{t h}(y:α)(hm:μ y<μ x)(hx:I y t h):zCS μ I x ds rd K .normal ⟨t,ds,rd⟩ h:=⟨rfl,rfl,y,hm,hx⟩
theorem zEs{i fr h}(hx:K (.exit i) fr h):zCS μ I x ds rd K (.exit i) fr h:=hx
theorem zE9{i fr h}(hx:K (.goto i) fr h):zCS μ I x ds rd K (.goto i) fr h:=hx
theorem zGN{fr h}(hx:K .ret fr h):zCS μ I x ds rd K .ret fr h:=hx
end
theorem zq(n:Nat)(c fr h):(Wy P tab (n+1)).exec c fr h=ze P (Wy P tab n) c fr h:=rfl
theorem zDE(n:Nat)(f args h):(Wy P tab (n+1)).call f args h=zBB P tab (Wy P tab n) f args h:=rfl
theorem WX.skip{fr h K}(hx:K .normal fr h):WX P tab .skip fr h K:=⟨_,_,_,hx,Ev.up (Ev.all fun _=>rfl)⟩
theorem WX.label{l fr h K}(hx:K .normal fr h):WX P tab (.label l) fr h K:=⟨_,_,_,hx,Ev.up (Ev.all fun _=>rfl)⟩
theorem WX.exit{i fr h K}(hx:K (.exit i) fr h):WX P tab (.exit i) fr h K:=⟨_,_,_,hx,Ev.up (Ev.all fun _=>rfl)⟩
theorem WX.goto{i fr h K}(hx:K (.goto i) fr h):WX P tab (.goto i) fr h K:=⟨_,_,_,hx,Ev.up (Ev.all fun _=>rfl)⟩
theorem WX.ret{fr h K}(hx:K .ret fr h):WX P tab .ret fr h K:=⟨_,_,_,hx,Ev.up (Ev.all fun _=>rfl)⟩
theorem WX.region{ops fr h K}(hx:WO P tab ops fr h fun fr h=>K .normal fr h):WX P tab (.region ops) fr h K:=
 let⟨fr',h',a,b⟩:=hx
 ⟨_,_,_,a,Ev.up (b.mono fun n e=>by rw[zq];simp only[ze,e,QL])⟩
theorem WX.seq{a b fr h K}(hx:WX P tab a fr h (zFC P tab b K)):WX P tab (.seq a b) fr h K:=by
 obtain⟨e,fr',h',k,ev⟩:=hx;cases e with
 |normal=>
  obtain⟨e2,fr2,h2,k2,ev2⟩:=k;exact⟨e2,fr2,h2,k2,Ev.up ((ev.and ev2).mono fun n ⟨e1,e2⟩=>by rw[zq];simp only[ze,e1,e2])⟩
 |exit i=>exact⟨_,_,_,k,Ev.up (ev.mono fun n e=>by rw[zq];simp only[ze,e])⟩
 |goto i=>exact⟨_,_,_,k,Ev.up (ev.mono fun n e=>by rw[zq];simp only[ze,e])⟩
 |ret=>exact⟨_,_,_,k,Ev.up (ev.mono fun n e=>by rw[zq];simp only[ze,e])⟩
theorem WX.cond{c x y fr h K}(b:Bool)(hb:ev fr.tm c=.bool b)(h1:b=true->WX P tab x fr h K)(h2:b=false->WX P tab y fr h K):WX P tab (.cond c x y) fr h K:=by
 cases b with
 |true=>obtain⟨e,fr',h',k,ev⟩:=h1 rfl;exact⟨_,_,_,k,Ev.up (ev.mono fun n e=>by rw[zq];simp only[ze,hb,e])⟩
 |false=>obtain⟨e,fr',h',k,ev⟩:=h2 rfl;exact⟨_,_,_,k,Ev.up (ev.mono fun n e=>by rw[zq];simp only[ze,hb,e])⟩
theorem Xm{c x y fr h K}(hb:ev fr.tm c=.bool true)(h1:WX P tab x fr h K):WX P tab (.cond c x y) fr h K:=WX.cond true hb (fun _=>h1) (fun h=>by cases h)
theorem XT{c x y fr h K}(hb:ev fr.tm c=.bool false)(h1:WX P tab y fr h K):WX P tab (.cond c x y) fr h K:=WX.cond false hb (fun h=>by cases h) (fun _=>h1)
theorem WX.block{id b fr h K}(hx:WX P tab b fr h (Zy id K)):WX P tab (.block id b) fr h K:=by
 obtain⟨e,fr',h',k,ev⟩:=hx;cases e with
 |normal=>exact⟨_,_,_,k,Ev.up (ev.mono fun n e=>by rw[zq];simp only[ze,e])⟩
 |goto i=>exact⟨_,_,_,k,Ev.up (ev.mono fun n e=>by rw[zq];simp only[ze,e])⟩
 |ret=>exact⟨_,_,_,k,Ev.up (ev.mono fun n e=>by rw[zq];simp only[ze,e])⟩
 |exit i=>
  simp only[Zy]at k;by_cases hi:i=id
  ·rw[QI hi]at k;exact⟨_,_,_,k,Ev.up (ev.mono fun n e=>by rw[zq];simp only[ze,e,QI hi])⟩
  ·rw[QC hi]at k;exact⟨_,_,_,k,Ev.up (ev.mono fun n e=>by rw[zq];simp only[ze,e,QC hi])⟩
theorem WX.loop{α:Type}(μ:α->Nat)(I:α->U7 Value->U2->Prop)(x:α){b t ds rd h K}(h0:I x t h)
  (hb:∀ x t h,I x t h->WX P tab b ⟨t,ds,rd⟩ h (zCS μ I x ds rd K)):WX P tab (.loop b) ⟨t,ds,rd⟩ h K:=by
 generalize hm:μ x=m;induction m using Nat.strongRecOn generalizing x t h with
 |_ m ih=>
  obtain⟨e,fr',h',k,ev⟩:=hb x t h h0;cases e with
  |normal=>
   obtain⟨k1,k2,y,k3,k4⟩:=k;obtain⟨t',ds',rd'⟩:=fr';simp only at k1 k2 k4;subst k1 k2;obtain⟨e2,fr2,h2,kk,ev2⟩:=ih (μ y) (by omega) y k4 rfl;exact⟨e2,fr2,h2,kk,Ev.up ((ev.and ev2).mono fun n ⟨e1,e2⟩=>by rw[zq];simp only[ze,e1,e2])⟩
  |exit i=>exact⟨_,_,_,k,Ev.up (ev.mono fun n e=>by rw[zq];simp only[ze,e])⟩
  |goto i=>exact⟨_,_,_,k,Ev.up (ev.mono fun n e=>by rw[zq];simp only[ze,e])⟩
  |ret=>exact⟨_,_,_,k,Ev.up (ev.mono fun n e=>by rw[zq];simp only[ze,e])⟩
def zVf{α:Type}(l:Nat)(μ:α->Nat)(I:α->U7 Value->U2->Prop)(x:α)(ds:List Deferred)(rd:Option Nat)(K:WB->WF->U2->Prop):WB->WF->U2->Prop
 | .normal,fr,h=>K .normal fr h
 | .exit i,fr,h=>K (.exit i) fr h
 | .goto m,fr,h=>m=l/\fr.dfs=ds/\fr.round=rd/\∃ y,μ y<μ x/\I y fr.tm h
 | .ret,fr,h=>K .ret fr h
section
variable {α:Type}{l:Nat}{μ:α->Nat}{I:α->U7 Value->U2->Prop}{x:α}{ds:List Deferred}{rd:Option Nat}{K:WB->WF->U2->Prop}
end
def zOe(M:U7 Value->U2->Prop)(ds:List Deferred)(rd:Option Nat)(K:WB->WF->U2->Prop):WB->WF->U2->Prop
 | .normal,fr,h=>fr.dfs=ds/\fr.round=rd/\M fr.tm h
 | .exit i,fr,h=>K (.exit i) fr h
 | .goto l,fr,h=>K (.goto l) fr h
 | .ret,fr,h=>K .ret fr h
section
variable {M:U7 Value->U2->Prop}{ds:List Deferred}{rd:Option Nat}{K:WB->WF->U2->Prop}
theorem zG{t h}(hx:M t h):zOe M ds rd K .normal ⟨t,ds,rd⟩ h:=⟨rfl,rfl,hx⟩
theorem zCn{fr h}(hx:K .ret fr h):zOe M ds rd K .ret fr h:=hx
end
def WD(P:Program)(tab:Wi)(ds:List Deferred)(h:U2)(Q:U2->Prop):Prop:=
 ∃ h',Q h'/\Ev fun n=>yc (Wy P tab n) ds h=some h'
theorem WD.nil{h}{Q:U2->Prop}(hx:Q h):WD P tab [] h Q:=⟨h,hx,Ev.all fun _=>rfl⟩
theorem WD.collected{g ds h}{Q:U2->Prop}(hg:h.get g=some (.deferred (some [])))(hx:WD P tab ds (h.set g (.deferred none)) Q):
  WD P tab ({target:= .collected g,args:=#[]}::ds) h Q:=by
 obtain⟨h',a,b⟩:=hx;exact⟨h',a,b.mono fun n e=>by simp only[yc,hg,e]⟩
def zEm(P:Program)(tab:Wi)(rs:List (Nat×Option (Bool×Nat)))(Q:Value->U2->Prop):WB->WF->U2->Prop
 | .normal,fr,h=>WD P tab fr.dfs h fun h=>∃ vs,yD h fr.tm rs=some vs/\Q (one vs) h
 | .ret,fr,h=>WD P tab fr.dfs h fun h=>∃ vs,yD h fr.tm rs=some vs/\Q (one vs) h
 |_,_,_=>False
theorem zNb{rs Q t rd h}{vs:List Value}(hr:yD h t rs=some vs)(hx:Q (one vs) h):zEm P tab rs Q .ret ⟨t,[],rd⟩ h:=WD.nil ⟨vs,hr,hx⟩
theorem zHn{rs Q t rd h}{vs:List Value}(hr:yD h t rs=some vs)(hx:Q (one vs) h):zEm P tab rs Q .normal ⟨t,[],rd⟩ h:=WD.nil ⟨vs,hr,hx⟩
theorem WC.of{f args h Q nt rs body}(hs:tab.stub f=none)(hf:tab.code f=some ⟨nt,rs,body⟩)(hx:WX P tab body ⟨zDn args 0 .leaf,[],none⟩ h (zEm P tab rs Q)):WC P tab f args h Q:=by
 obtain⟨e,fr',h',k,ev⟩:=hx;cases e with
 |normal=>
  obtain⟨h2,⟨vs,k3,k4⟩,ev2⟩:=k;exact⟨_,_,k4,Ev.up ((ev.and ev2).mono fun n ⟨e1,e2⟩=>by rw[zDE];simp only[zBB,zC2,hs,hf,e1,cond_true,e2,k3])⟩
 |ret=>
  obtain⟨h2,⟨vs,k3,k4⟩,ev2⟩:=k;exact⟨_,_,k4,Ev.up ((ev.and ev2).mono fun n ⟨e1,e2⟩=>by rw[zDE];simp only[zBB,zC2,hs,hf,e1,cond_true,e2,k3])⟩
 |exit i=>exact k.elim
 |goto i=>exact k.elim
theorem WC.stub{f args h Q s v h'}(hs:tab.stub f=some s)(hx:s args h=some (v,h'))(hq:Q v h'):WC P tab f args h Q:=
 ⟨v,h',hq,Ev.up (Ev.all fun n=>by rw[zDE];simp only[zBB,hs,hx])⟩
theorem WV.func{f first cap args h Q}(hx:WC P tab f (first.toList++args++cap.toList) h Q):WV P tab (.func (.func f) first cap) args h Q:=hx
theorem WO.nil{fr h Q}(hx:Q fr h):WO P tab [] fr h Q:=⟨_,_,hx,Ev.all fun _=>rfl⟩
theorem WO.cons{o l fr h Q}{fr1:WF}{h1:U2}(e:Ev fun n=>yI P (Wy P tab n) o fr h=some (fr1,h1))(hx:WO P tab l fr1 h1 Q):WO P tab (o::l) fr h Q:=by
 obtain⟨fr',h',a,b⟩:=hx;exact⟨_,_,a,(e.and b).mono fun n ⟨e1,e2⟩=>by simp only[yV,e1,e2]⟩
def zAL:Wn->Bool
 | .call .. | .dfr .. | .dfrClear .. | .invoke .. | .recover=>false
 |_=>true
theorem zKi(ih:Ex){t h op}(hp:zAL op=true):WE P ih t h op=WE P Ex.bot t h op:=by
 cases op<;>first|rfl|cases hp
theorem zCg(ih:Ex){t rd h op v h'}(hp:zAL op=true)(e:WE P Ex.bot t h op=some (v,h')):zt P ih t rd h op=some (v,[],h'):=by
 rw[<-zKi ih hp]at e;cases op<;>first|(cases hp;done)|(simp only[zt,e])
theorem WO.op{d op l t ds rd h Q}(v:Value)(h':U2)(hp:zAL op=true)(e:WE P Ex.bot t h op=some (v,h'))(hx:WO P tab l ⟨t.set d v,ds,rd⟩ h' Q):
  WO P tab (⟨some d,none,op⟩::l) ⟨t,ds,rd⟩ h Q:=
 WO.cons (Ev.all fun n=>by simp only[yI,zP,cond_true,zCg _ hp e,val,GS]) hx
theorem Xb{d op l t ds rd h Q}{v:Value}{h':U2}(e:WE P Ex.bot t h op=some (v,h'))(hx:WO P tab l ⟨t.set d v,ds,rd⟩ h' Q)(hp:zAL op=true:=by rfl):
  WO P tab (⟨some d,none,op⟩::l) ⟨t,ds,rd⟩ h Q:=WO.op v h' hp e hx
theorem VR{op l t ds rd h Q}(v:Value)(h':U2)(hp:zAL op=true)(e:WE P Ex.bot t h op=some (v,h'))(hx:WO P tab l ⟨t,ds,rd⟩ h' Q):
  WO P tab (⟨none,none,op⟩::l) ⟨t,ds,rd⟩ h Q:=
 WO.cons (Ev.all fun n=>by simp only[yI,zP,cond_true,zCg _ hp e,val,GS]) hx
theorem WO.call{d f args l t ds rd h Q}{as:List Value}(ha:args.map (ev t)=as)(hx:WC P tab f as h fun v h'=>WO P tab l ⟨t.set d v,ds,rd⟩ h' Q):
  WO P tab (⟨some d,none,.call (.func f) args⟩::l) ⟨t,ds,rd⟩ h Q:=by
 subst ha;obtain⟨v,h',a,b⟩:=hx;refine WO.cons (fr1:=⟨t.set d v,ds,rd⟩) (h1:=h') (b.mono fun n e=> ?_) a;simp only[yI,zP,cond_true,zt,WE,ev,zAh,Gp,GS];rw[e];rfl
theorem Xu{d f args l t ds rd h Q}{as:List Value}{fv:Value}(hf:ev t f=fv)(ha:args.map (ev t)=as)(hx:WV P tab fv as h fun v h'=>WO P tab l ⟨t.set d v,ds,rd⟩ h' Q):
  WO P tab (⟨some d,none,.call f args⟩::l) ⟨t,ds,rd⟩ h Q:=by
 subst ha;subst hf;obtain⟨v,h',a,b⟩:=hx;refine WO.cons (fr1:=⟨t.set d v,ds,rd⟩) (h1:=h') (b.mono fun n e=> ?_) a;simp only[yI,zP,cond_true,zt,WE,e,val,GS]
theorem XR{d j want op l t ds rd h Q}(hg:zB t j=.bool want)(hx:WO P tab (⟨d,none,op⟩::l) ⟨t,ds,rd⟩ h Q):WO P tab (⟨d,some (j,want),op⟩::l) ⟨t,ds,rd⟩ h Q:=by
 obtain⟨fr',h',a,b⟩:=hx;refine⟨_,_,a,b.mono fun n e=> ?_⟩;rw[<-e];simp only[yV,yI,zP,hg,beq_self_eq_true,cond_true]
theorem Vx{d j want op l t ds rd h Q}(hg:zB t j=.bool (!want))(hx:WO P tab l ⟨t.set d undef,ds,rd⟩ h Q):WO P tab (⟨some d,some (j,want),op⟩::l) ⟨t,ds,rd⟩ h Q:=by
 refine WO.cons (Ev.all fun n=> ?_) hx;simp only[yI,zP,hg];cases want<;>rfl
theorem XQ{d j want op l t ds rd h Q}(hg:zB t j=undef)(hx:WO P tab l ⟨t.set d undef,ds,rd⟩ h Q):WO P tab (⟨some d,some (j,want),op⟩::l) ⟨t,ds,rd⟩ h Q:=by
 refine WO.cons (Ev.all fun n=> ?_) hx;simp only[yI,zP,hg];rfl
theorem WO.invoke{d f name x args l t ds rd h Q}{ty:TypeId}{u:Value}{as:List Value}(hv:ev t x=.iface ty u)(hm:Yo P ty name=some f)(ha:args.map (ev t)=as)(hx:WC P tab f (u::as) h fun v h'=>WO P tab l ⟨t.set d v,ds,rd⟩ h' Q):
  WO P tab (⟨some d,none,.invoke x name args⟩::l) ⟨t,ds,rd⟩ h Q:=by
 subst ha;obtain⟨v,h',a,b⟩:=hx;refine WO.cons (fr1:=⟨t.set d v,ds,rd⟩) (h1:=h') (b.mono fun n e=> ?_) a;simp only[yI,zP,cond_true,zt,WE,zAI,hv,hm,e,val,GS]
theorem V9{d x l t ds rd h Q}{G rt ty:Nat}{b:Bool}(hv:ev t x=zHP G rt ty)(hb:Yf P G rt ty=some b)(hx:WO P tab l ⟨t.set d (.bool b),ds,rd⟩ h Q):
  WO P tab (⟨some d,none,.invoke x "Comparable" []⟩::l) ⟨t,ds,rd⟩ h Q:=
 WO.cons (Ev.all fun n=>by
  have:zAI P (Wy P tab n) "Comparable" (zHP G rt ty) [] h=some (.bool b,h):=by
   simp only[zAI,zGz,List.isEmpty_nil,beq_self_eq_true,Q1,cond_true,hb,QL]
  simp only[yI,zP,cond_true,zt,WE,hv,Gf,this,val,GS]) hx
end
attribute [irreducible] WX WC WV WO WD zFC Zy zCS zVf zOe zEm Ev
abbrev I(n:Int):Value:= .int .i64 n
def Wf(h:U2):Prop:=∀ g,h.n<=g->h.get g=none
structure U8(h h':U2):Prop where
 n:h.n<=h'.n
 get:∀ g,g<h.n->h'.get g=h.get g
 wf:Wf h->Wf h'
 mark:h'.mark=h.mark
 wr:h.mark<=h.n->h'.wr=h.wr
theorem U8.refl(h:U2):U8 h h:=⟨QE _,fun _ _=>rfl,id,rfl,fun _=>rfl⟩
theorem U8.trans{a b c:U2}(h:U8 a b)(k:U8 b c):U8 a c:=
 ⟨QO h.n k.n,fun g hg=>(k.get g (QG hg h.n)).trans (h.get g hg),fun w=>k.wf (h.wf w),k.mark.trans h.mark,fun hm=>(k.wr (by rw[h.mark];exact QO hm h.n)).trans (h.wr hm)⟩
theorem U8.push{a b:U2}(h:U8 a b)(o:Wd):U8 a (b.push o):=
 h.trans ⟨GV _,fun g hg=>by rw[zN,QC (Nat.ne_of_lt hg)],fun w g hg=>by
  rw[zN,QC (by simp[U2.push]at hg;omega)];exact w g (by simp[U2.push]at hg;omega),rfl,fun _=>rfl⟩
theorem zAE{h:U2}{g:Nat}(hg:h.mark<=g):h.log g=h.wr:=by
 have:Nat.ble h.mark g=true:=QH hg;simp[U2.log,this]
theorem U8.set{a b:U2}(h:U8 a b){g:Nat}(hg:a.n<=g)(hb:g<b.n)(o:Wd):U8 a (b.set g o):=
 ⟨h.n,fun k hk=>by rw[zj,QC (by omega)];exact h.get k hk,fun w k hk=>by
  rw[zj,QC (by simp[U2.set]at hk;omega)];exact h.wf w k hk,h.mark,fun hm=>(zAE (by rw[h.mark];omega)).trans (h.wr hm)⟩
theorem U8.kill{a b:U2}(h:U8 a b){g:Nat}(hg:a.n<=g):U8 a (b.kill g):=
 ⟨h.n,fun k hk=>by rw[yk,QC (by omega)];exact h.get k hk,fun w k hk=>by
  rw[yk];split
  ·rfl
  ·exact h.wf w k hk,h.mark,fun hm=>(zAE (by rw[h.mark];omega)).trans (h.wr hm)⟩
theorem Wf.lt{h:U2}(w:Wf h){g:Nat}{o:Wd}(hg:h.get g=some o):g<h.n:=by
 by_cases hn:h.n<=g
 ·rw[w g hn]at hg;cases hg
 ·omega
theorem ZX{h:U2}{g:Nat}{cells own lo}(hg:h.get g=some (.row cells own lo)):yF h g=some cells:=by simp only[yF,hg]
theorem zJN{h:U2}{g:Nat}{cells}(hg:yF h g=some cells):∃ own lo,h.get g=some (.row cells own lo):=by
 unfold yF at hg;split at hg
 ·cases hg;exact⟨_,_,by assumption⟩
 ·cases hg
theorem U8.row{h h':U2}(e:U8 h h'){g:Nat}(w:g<h.n){cells}(hg:yF h g=some cells):yF h' g=some cells:=by
 obtain⟨own,lo,a⟩:=zJN hg;exact ZX ((e.get g w).trans a)
theorem ZE{cells:List Value}{off n:Nat}(h:off+n<=cells.length):cut cells off n=some ((cells.drop off).take n):=by
 have:Nat.ble (off+n) cells.length=true:=QH h;simp only[cut,this,cond_true]
theorem zEV{cells l:List Value}{off n:Nat}(h:cut cells off n=some l):off+n<=cells.length/\l=(cells.drop off).take n:=by
 unfold cut at h;cases hb:Nat.ble (off+n) cells.length with
 |true=>simp only[hb,cond_true,QA]at h;exact⟨QN hb,h.symm⟩
 |false=>simp only[hb,QR]at h;cases h
def Wb(c:Nat)(h:U2)(v:Value)(n:Nat)(cells:List Value):Prop:=
 cells.length=n*c/\((n=0/\(v=.slice none 0 0\/∃ a k,v=.slice (some a) 0 k))\/
  ∃ g off row,v=.slice (some ⟨g,off,none⟩) n c/\yF h g=some row/\cut row off (n*c)=some cells/\g<h.n)
def yM(v:Value)(j:Nat):Value:=match v with
 | .slice (some a) _ _=> .pointer (some ⟨a.block,a.off+j,none⟩)
 |_=>undef
section
variable {P:Program}{ih:Ex}{t:U7 Value}{h h':U2}{v:Value}{c n:Nat}{cells:List Value}
theorem Wb.len(s:Wb c h v n cells):zNF v=some n:=by
 obtain⟨_,(⟨rfl,rfl|⟨a,k,rfl⟩⟩|⟨g,off,row,rfl,_,_,_⟩)⟩:=s<;>rfl
theorem Wb.ext(s:Wb c h v n cells)(e:U8 h h'):Wb c h' v n cells:=by
 obtain⟨a,b⟩:=s;refine⟨a,b.imp id ?_⟩;rintro⟨g,off,row,e1,e2,e3,e4⟩;exact⟨g,off,row,e1,e.row e4 e2,e3,QG e4 e.n⟩
theorem Wb.nil(c:Nat)(h:U2):Wb c h (.slice none 0 0) 0 []:=⟨by simp,.inl ⟨rfl,.inl rfl⟩⟩
theorem Wb.own{g:Nat}{lo:Nat}{own:Bool}(hlt:g<h.n)(hg:h.get g=some (.row cells own lo))(hn:cells.length=n*c):Wb c h (.slice (some ⟨g,0,none⟩) n c) n cells:=
 ⟨hn,.inr ⟨g,0,cells,rfl,ZX hg,by rw[ZE (by omega)];simp[<-hn],hlt⟩⟩
theorem zDq{x:Operand}(s:Wb c h v n cells)(hx:ev t x=v):WE P ih t h (.len x)=some (I n,h):=by
 subst hx;simp[WE,s.len]
theorem zKN{x y:Operand}{i:Nat}(s:Wb c h v n cells)(hx:ev t x=v)(hy:W9 (ev t y)=some i)(hi:i<n):WE P ih t h (.idx c x y)=some (yM v (i*c),h):=by
 obtain⟨_,(⟨rfl,_⟩|⟨g,off,row,rfl,_,_,_⟩)⟩:=s
 ·omega
 ·have:Nat.ble (i+1) n=true:=QH hi;simp[WE,hx,hy,this,yM]
theorem zEC{cells l row:List Value}{off n j m:Nat}(hc:cut row off n=some cells)(hl:cut cells j m=some l):cut row (off+j) m=some l:=by
 obtain⟨a,rfl⟩:=zEV hc;obtain⟨b,rfl⟩:=zEV hl;have hl:((row.drop off).take n).length=n:=by simp;omega
 rw[ZE (by omega)];congr 1;rw[List.drop_take,JE,List.take_take,Gj (by omega)]
theorem zFB{x:Operand}{agg:Bool}{m j:Nat}{l:List Value}{r:Value}(s:Wb c h v n cells)(hx:ev t x=yM v j)(hl:cut cells j m=some l)(hm:0<m)(hr:zH agg l=some r):
  WE P ih t h (.load agg m x)=some (r,h):=by
 obtain⟨hn,(⟨rfl,_⟩|⟨g,off,row,rfl,h1,h2,_⟩)⟩:=s
 ·have:=(zEV hl).1;simp at hn;subst hn;simp at this;omega
 ·simp[WE,hx,yM,h1,zEC h2 hl,hr]
theorem zSg{cells:List Value}{j:Nat}{r:Value}(hj:cells[j]?=some r):cut cells j 1=some [r]:=by
 have hlt:j<cells.length:=(QQ.1 hj).1;rw[ZE (by omega),GI hlt];simp only[Qs,GE];rw[(QQ.1 hj).2]
theorem zLJ{x:Operand}{j:Nat}{r:Value}(s:Wb c h v n cells)(hx:ev t x=yM v j)(hj:cells[j]?=some r):WE P ih t h (.load false 1 x)=some (r,h):=
 zFB s hx (zSg hj) Nat.one_pos rfl
theorem zSh{x:Operand}{off j:Nat}(hx:ev t x=yM v j)(hv:∃ a k m,v=.slice (some a) k m):WE P ih t h (.fld off x)=some (yM v (j+off),h):=by
 obtain⟨a,k,m,rfl⟩:=hv;simp[WE,hx,yM,JH]
theorem Wb.some{i:Nat}(s:Wb c h v n cells)(hi:i<n):∃ a k m,v=.slice (some a) k m:=by
 obtain⟨hn,(⟨rfl,_⟩|⟨g,off,row,rfl,h1,h2,_⟩)⟩:=s
 ·omega
 ·exact⟨_,_,_,rfl⟩
theorem Z7(s:Wb c h v n cells):yi c h v=some cells:=by
 obtain⟨hn,(⟨rfl,rfl|⟨a,k,rfl⟩⟩|⟨g,off,row,rfl,h1,h2,_⟩)⟩:=s
 ·simp at hn;subst hn;rfl
 ·simp at hn;subst hn;simp[yi]
 ·unfold yi;cases hb:Nat.beq n 0 with
  |true=>have:=QJ hb;subst this;simp at hn;subst hn;rfl
  |false=>simp[h1,h2,hb]
end
def WM(h:U2)(v:Value)(l:List Int):Prop:=Wb 1 h v l.length (l.map I)
section
variable {P:Program}{ih:Ex}{t:U7 Value}{h h':U2}{v:Value}{l:List Int}
theorem WM.ext(s:WM h v l)(e:U8 h h'):WM h' v l:=Wb.ext s e
theorem WM.nil(h:U2):WM h (.slice none 0 0) []:=Wb.nil 1 h
theorem WM.own{g lo own}(hlt:g<h.n)(hg:h.get g=some (.row (l.map I) own lo)):WM h (.slice (some ⟨g,0,none⟩) l.length 1) l:=Wb.own hlt hg (by simp)
theorem WM.len{x:Operand}(s:WM h v l)(hx:ev t x=v):WE P ih t h (.len x)=some (I l.length,h):=zDq s hx
theorem WM.idx{x y:Operand}{i:Nat}(s:WM h v l)(hx:ev t x=v)(hy:W9 (ev t y)=some i)(hi:i<l.length):WE P ih t h (.idx 1 x y)=some (yM v i,h):=by
 have:=zKN (P:=P) (ih:=ih) s hx hy hi;rwa [G4]at this
theorem WM.load{x:Operand}{i:Nat}{a:Int}(s:WM h v l)(hx:ev t x=yM v i)(hi:l[i]?=some a):WE P ih t h (.load false 1 x)=some (I a,h):=
 zLJ s hx (by simp[hi])
end
def We(h0 h:U2)(v:Value)(l:List Int):Prop:=∃ g,h0.n<=g/\g<h.n/\v=.slice (some ⟨g,0,none⟩) l.length 1/\h.get g=some (.row (l.map I) true 0)
theorem We.sl{h0 h v l}(o:We h0 h v l):WM h v l:=by obtain⟨g,_,hl,rfl,hg⟩:=o;exact WM.own hl hg
theorem We.ext{h0 h h' v l}(o:We h0 h v l)(e:U8 h h'):We h0 h' v l:=by
 obtain⟨g,a,b,c,d⟩:=o;exact⟨g,a,QG b e.n,c,(e.get g b).trans d⟩
theorem zOf(k:IntKind)(a b:Int):yK .add (.int k a) (.int k b)=some (.int k (k.wrap (a+b))):=by simp[yK]
theorem zON(k:IntKind)(a b:Int):yK .sub (.int k a) (.int k b)=some (.int k (k.wrap (a-b))):=by simp[yK]
theorem zOC(k:IntKind)(a b:Int):yK .mul (.int k a) (.int k b)=some (.int k (k.wrap (a*b))):=by simp[yK]
theorem zNQ(k:IntKind)(a b:Int):yK .lss (.int k a) (.int k b)=some (.bool (decide (a<b))):=by simp[yK]
theorem zPF(k:IntKind)(a b:Int):yK .leq (.int k a) (.int k b)=some (.bool (decide (a<=b))):=by simp[yK]
theorem zNv(k:IntKind)(a b:Int):yK .gtr (.int k a) (.int k b)=some (.bool (decide (b<a))):=by simp[yK]
theorem zOA(k:IntKind)(a b:Int):yK .geq (.int k a) (.int k b)=some (.bool (decide (b<=a))):=by simp[yK]
theorem zOs(k:IntKind)(a b:Int):yK .eql (.int k a) (.int k b)=some (.bool (decide (a=b))):=by
 simp[yK];rw[GO];simp
theorem zPY(k:IntKind)(a b:Int):yK .neq (.int k a) (.int k b)=some (.bool (!decide (a=b))):=by
 simp[yK];rw[GO];simp
theorem zEj{n:Int}(h1: -9223372036854775808<=n)(h2:n<=9223372036854775807):IntKind.wrap .i64 n=n:=by
 simp[IntKind.wrap,IntKind.signed,IntKind.bits];omega
section
variable {P:Program}{ih:Ex}{t:U7 Value}{h:U2}{v:Value}{l:List Int}
theorem XM{x:Operand}{i:Nat}(hx:ev t x=yM v i)(s:WM h v l)(hi:i<l.length):WE P ih t h (.load false 1 x)=some (I (l.getD i 0),h):=
 s.load hx (by simp[List.getD,QB hi])
theorem Xv{x y:Operand}{i:Nat}(hx:ev t x=v)(hy:W9 (ev t y)=some i)(s:WM h v l)(hi:i<l.length):WE P ih t h (.idx 1 x y)=some (yM v i,h):=s.idx hx hy hi
theorem XY{x:Operand}(hx:ev t x=v)(s:WM h v l):WE P ih t h (.len x)=some (I l.length,h):=s.len hx
end
section
variable {P:Program}{tab:Wi}
def zOh(ops:List (U4×List Nat)):Bool:=ops.all fun x=>x.2.isEmpty&&Nat.ble (zE x.1.op) 1
theorem zB0{op:Wn}(h:Nat.ble (zE op) 1=true):(zE op=0\/zE op=1)/\zAL op=true:=by
 cases op<;>first|exact⟨.inl rfl,rfl⟩|exact⟨.inr rfl,rfl⟩|cases h
theorem zIz{ih:Ex}{o:U4}{fr fr':WF}{h h':U2}(hk:Nat.ble (zE o.op) 1=true)(hx:yI P ih o fr h=some (fr',h'))(m:Nat)(wr:List Nat):
  h'=h/\yI P ih o fr {h with mark:=m,wr:=wr}=some (fr',{h with mark:=m,wr:=wr}):=by
 obtain⟨k,hp⟩:=zB0 hk;unfold yI at hx |-;cases hw:zP fr.tm o.guard with
 |false=>simp only[hw,QR,QA,QD]at hx |-;obtain⟨rfl,rfl⟩:=hx;refine⟨rfl,?_⟩;first|trivial|exact⟨rfl,rfl⟩
 |true=>
  simp only[hw,cond_true]at hx |-;cases ha:WE P ih fr.tm h o.op with
  |none=>
   have:zt P ih fr.tm fr.round h o.op=none:=by cases hop:o.op<;>simp_all [zt,zAL]
   simp[this]at hx
  |some q=>
   obtain⟨v,h2⟩:=q;have e1:=zEu k ha;obtain⟨rfl,_,e2⟩:=e1;have e3:WE P ih fr.tm {h2 with mark:=m,wr:=wr} o.op=some (v,{h2 with mark:=m,wr:=wr}):=e2 _ (fun _ _=> .inl rfl);have v1:∀ {h h':U2},WE P ih fr.tm h o.op=some (v,h')->zt P ih fr.tm fr.round h o.op=some (v,[],h'):=fun {h h'} e=>by
    cases hop:o.op<;>first|(rw[hop]at hp;cases hp;done)|(rw[hop]at e;simp only[zt,e])
   rw[v1 ha]at hx;rw[v1 e3];simp only[QA,QD]at hx |-;obtain⟨rfl,rfl⟩:=hx;refine⟨rfl,?_⟩;first|trivial|exact⟨rfl,rfl⟩
theorem zCz{ih:Ex}:∀ {ops:List (U4×List Nat)} {i g:Nat} {rs:List (Nat×Nat×Option (Nat×Nat×List Value))} {bs:List (Nat×Nat)} {fr fr':WF} {h h':U2} (m:Nat) (wr:List Nat),zOh ops=true->yV P ih (ops.map (·.1)) fr h=some (fr',h')->
  h'=h/\∃ m' wr',zz P ih ops i g [] rs bs fr {h with mark:=m,wr:=wr}=some (fr',{h with mark:=m',wr:=wr'},[]):=by
 intro ops;induction ops with
 |nil=>
  intro i g rs bs fr fr' h h' m wr _ hx;simp only[Gf,yV,QA,QD]at hx;obtain⟨rfl,rfl⟩:=hx;exact⟨rfl,m,wr,rfl⟩
 |cons x ops ihl=>
  obtain⟨o,un⟩:=x;intro i g rs bs fr fr' h h' m wr hc hx;simp only[zOh,List.all_cons,QF]at hc;obtain⟨⟨hun,hk⟩,hc⟩:=hc;have hun:un=[]:=List.isEmpty_iff.1 hun;subst hun;simp only[Qm,yV]at hx;cases ha:yI P ih o fr h with
  |none=>simp[ha]at hx
  |some q=>
   obtain⟨fr1,h1⟩:=q;simp only[ha]at hx;obtain⟨rfl,e⟩:=zIz hk ha h1.n [];have hk3:Nat.beq (zE o.op) 3=false:=by
    rcases(zB0 hk).1 with k|k<;>rw[k]<;>rfl
   obtain⟨e1,m',wr',e2⟩:=ihl (i:=i+1) (g:=g) (rs:=match zZ fr.tm o with|some g=>(i,g,Yg fr.tm {h1 with mark:=h1.n,wr:=[]} o.op)::rs|none=>rs) (bs:=(i,h1.n)::bs) h1.n [] hc hx;refine⟨e1,m',wr',?_⟩;simp only[zz,z0,hk3,QR];have e':yI P ih o fr {h1 with mark:=h1.n,wr:=[]}=some (fr1,{h1 with mark:=h1.n,wr:=[]}):=e;rw[e'];simp only[List.all_nil,List.contains_nil,Qf,Qq,Qj,Q1,Qg,Gf,Gp];have hb:(bs.all fun _=>true)=true:=by simp
   have hr:(rs.all fun _=>true)=true:=by simp
   cases hra:zZ fr.tm o with
   |none=>
    simp only[hra]at e2;simp only[hr,Q1,cond_true];exact e2
   |some g'=>
    simp only[hra]at e2;simp only[hb,hr,Q1,cond_true];exact e2
theorem Ve{ops fr h K}(hc:zOh ops=true)(hx:WO P tab (ops.map (·.1)) fr h fun fr h=>K .normal fr h):WX P tab (.regionC ops) fr h K:=by
 unfold WO at hx;obtain⟨fr',h',a,b⟩:=hx;have hno:(ops.filter fun x=>Nat.beq (zE x.1.op) 3).length=0:=by
  rw[Ga,List.filter_eq_nil_iff];intro x hx;have:=QX.1 hc x hx;simp only[QF]at this;rcases(zB0 this.2).1 with k|k<;>rw[k]<;>simp
 have hh:h'=h:=by
  unfold Ev at b;obtain⟨N,b⟩:=b;exact(zCz (i:=0) (g:=0) (rs:=[]) (bs:=[]) 0 [] hc (b N (QE _))).1
 subst hh;unfold WX;refine⟨_,fr',_,a,Ev.up (b.mono fun n e=> ?_)⟩;obtain⟨_,m',wr',e2⟩:=zCz (i:=0) (g:=h'.n) (rs:=[]) (bs:=[]) h'.mark h'.wr hc e;rw[zq];simp only[ze,YB,hno,Nat.add_zero];rw[e2];simp
end
def WJ(h0 h:U2)(v:Value)(l:List Int):Prop:=(v=.slice none 0 0/\l=[])\/We h0 h v l
theorem WJ.sl{h0 h v l}(o:WJ h0 h v l):WM h v l:=by
 rcases o with⟨rfl,rfl⟩|o
 ·exact WM.nil h
 ·exact o.sl
theorem WJ.ext{h0 h h' v l}(o:WJ h0 h v l)(e:U8 h h'):WJ h0 h' v l:=o.imp id fun o=>o.ext e
theorem We.since{h0 h1 h v l}(o:We h1 h v l)(e:U8 h0 h1):We h0 h v l:=by
 obtain⟨g,a,b⟩:=o;exact⟨g,QO e.n a,b⟩
theorem WJ.since{h0 h1 h v l}(o:WJ h1 h v l)(e:U8 h0 h1):WJ h0 h v l:=o.imp id fun o=>o.since e
def BN(v:Value)(h h':U2):Prop:=h.n<=h'.n/\∀ g,g<h.n->(∀ a n c,v=.slice (some a) n c->a.block≠g)->h'.get g=h.get g
theorem zCI(l:List Int):zK (l.map I)=true:=by simp[zK]
section
variable {P:Program}{tab:Wi}{t:U7 Value}{h h0:U2}{ds:List Deferred}{rd:Option Nat}{l:List U4}{Q:WF->U2->Prop}{d:Nat}
theorem Zg(h:U2)(o:Wd):U8 h (h.push o):=(U8.refl h).push o
theorem zV(h:U2)(o:Wd):(h.push o).get h.n=some o:=by rw[zN,QI rfl]
theorem XN{n:Nat}{zero:List Value}{parts:List (Nat×Nat×Operand)}(xs:List Int)(hn:xs.length=n)(hf:y8 (zY zero n) (zo t parts)=some (xs.map I))
  (k:∀ v h',U8 h h'->We h h' v xs->WO P tab l ⟨t.set d v,ds,rd⟩ h' Q):WO P tab (⟨some d,none,.buildSlice n 1 zero parts⟩::l) ⟨t,ds,rd⟩ h Q:=by
 refine WO.op _ _ rfl (by simp only[WE,hf,QL];rfl) (k _ _ (Zg _ _) ⟨h.n,QE _,by simp[U2.push],by rw[hn],zV _ _⟩)
theorem zAm(l:List Int)(i:Nat)(a:Int)(hi:i<l.length):zd (l.map I) i [I a]=(l.set i a).map I:=by
 unfold zd;rw[<-List.map_take,Qa,<-List.map_drop,List.set_eq_take_append_cons_drop,QI hi];simp
theorem XP{x y:Operand}{v:Value}{xs:List Int}{i:Nat}{a:Int}(hx:ev t x=yM v i)(hy:ev t y=I a)(o:We h0 h v xs)(e0:U8 h0 h)(hi:i<xs.length)
  (k:∀ h',U8 h0 h'->We h0 h' v (xs.set i a)->BN v h h'->WO P tab l ⟨t,ds,rd⟩ h' Q):WO P tab (⟨none,none,.store 1 x y⟩::l) ⟨t,ds,rd⟩ h Q:=by
 obtain⟨g,g1,g2,rfl,g3⟩:=o;have hst:zg h ⟨g,i,none⟩ [I a]=some (h.set g (.row (zd (xs.map I) i [I a]) true 0)):=by
  have h1:Nat.ble (i+1) (xs.map I).length=true:=QH (by simp;omega);have h0:Nat.ble 0 i=true:=QH (QT _);simp only[zg,g3,Qa,h1,h0,Q1];rfl
 rw[zAm _ _ _ hi]at hst;refine VR undef (h.set g (.row ((xs.set i a).map I) true 0)) rfl ?_ (k _ (e0.set g1 g2 _) ⟨g,g1,g2,by simp,by rw[zj,QI rfl]⟩ ⟨QE _,fun k _ hk=> ?_⟩)
 ·have hc:(I a).cells=#[I a]:=rfl;simp only[WE,hx,yM,hy,Q6,hc,hst,QL];rfl
 ·rw[zj,QC (fun e=>hk _ _ _ rfl e.symm)]
theorem XC{x y:Operand}{v w:Value}{xs ys:List Int}(hx:ev t x=v)(hy:ev t y=w)(o:WJ h0 h v xs)(s:WM h w ys)(e0:U8 h0 h)(hne:ys≠[])(hr:xs.length+ys.length<=4294967296)
  (k:∀ v' h',U8 h0 h'->We h0 h' v' (xs++ys)->BN v h h'->WO P tab l ⟨t.set d v',ds,rd⟩ h' Q):WO P tab (⟨some d,none,.append 1 x y⟩::l) ⟨t,ds,rd⟩ h Q:=by
 have hsrc:=Z7 s;have hroom:room=4294967296:=rfl;obtain⟨z,zs,rfl⟩:∃ z zs,ys=z::zs:=by
  cases ys with
  |nil=>exact absurd rfl hne
  |cons z zs=>exact⟨z,zs,rfl⟩
 have hone:zK (I z::zs.map I)=true:=zCI (z::zs);have hlen:(I z::zs.map I).length / 1=(z::zs).length:=by simp
 rcases o with⟨rfl,rfl⟩|⟨g,g1,g2,rfl,g3⟩
 ·have h1:Nat.ble (z::zs).length room=true:=QH (by rw[hroom];simpa using hr);refine WO.op (.slice (some ⟨h.n,0,none⟩) (z::zs).length 1) (h.push (.row ((z::zs).map I) true 0)) rfl ?_ (k _ _ (e0.push _) ⟨h.n,e0.n,by simp[U2.push],rfl,zV _ _⟩ ⟨GV _,fun k hk _=> ?_⟩)
  ·simp only[WE,hx,hy,yW,hsrc,Qm,hone,hlen,h1,QY,cond_true,QR];rfl
  ·rw[zN,QC (by omega)]
 ·have h1:Nat.ble (xs.length+(z::zs).length) room=true:=QH (by rw[hroom];exact hr);have h2:cut (xs.map I) 0 (xs.length*1)=some (xs.map I):=by rw[ZE (by simp)];simp[Qw]
  have hn:(h.kill g).n=h.n:=rfl;have h3:Nat.ble 0 (0+xs.length*1)=true:=QH (QT _);refine WO.op (.slice (some ⟨h.n,0,none⟩) (xs.length+(z::zs).length) 1) ((h.kill g).push (.row (xs.map I++(z::zs).map I) true (0-0))) rfl ?_
   (k _ _ ((e0.kill g1).push _) ⟨h.n,e0.n,by simp[U2.push,U2.kill],by simp,?_⟩ ⟨GV _,fun k hk hv=> ?_⟩)
  ·simp only[WE,hx,hy,yW,hsrc,Qm,hone,hlen,h1,g3,h2,h3,QY,cond_true,QR];rfl
  ·have:=zV (h.kill g) (.row (xs.map I++(z::zs).map I) true (0-0));rw[hn]at this;rw[this];simp
  ·rw[zN,QC (by rw[hn];omega),yk,QC (fun e=>hv _ _ _ rfl e.symm)]
section
variable {P:Program}{tab:Wi}{t:U7 Value}{h h0:U2}{ds:List Deferred}{rd:Option Nat}{l:List U4}{Q:WF->U2->Prop}{d:Nat}
end
def yC(p:Value)(j:Nat):Value:=match p with
 | .pointer (some a)=> .pointer (some ⟨a.block,a.off+j,none⟩)
 |_=>undef
def U6(h0 h:U2)(p:Value)(cells:List Value):Prop:=∃ g,h0.n<=g/\g<h.n/\p=.pointer (some ⟨g,0,none⟩)/\h.get g=some (.row cells true 0)
theorem U6.ext{h0 h h' p cells}(o:U6 h0 h p cells)(e:U8 h h'):U6 h0 h' p cells:=by
 obtain⟨g,a,b,c,d⟩:=o;exact⟨g,a,QG b e.n,c,(e.get g b).trans d⟩
theorem U6.since{h0 h1 h p cells}(o:U6 h1 h p cells)(e:U8 h0 h1):U6 h0 h p cells:=by
 obtain⟨g,a,b⟩:=o;exact⟨g,QO e.n a,b⟩
theorem U6.at0{h0 h p cells}(o:U6 h0 h p cells):p=yC p 0:=by obtain⟨g,_,_,rfl,_⟩:=o;rfl
section
variable {P:Program}{tab:Wi}{ih:Ex}{t:U7 Value}{h h0:U2}{ds:List Deferred}{rd:Option Nat}{l:List U4}{Q:WF->U2->Prop}{d:Nat}{p:Value}{cells:List Value}
theorem Xz{x:Operand}(cells:List Value)(hv:(ev t x).cells.toList=cells)(k:∀ p h',U8 h h'->U6 h h' p cells->WO P tab l ⟨t.set d p,ds,rd⟩ h' Q):
  WO P tab (⟨some d,none,.box x⟩::l) ⟨t,ds,rd⟩ h Q:=by
 subst hv;exact WO.op _ _ rfl (by simp only[WE]) (k _ _ (Zg _ _) ⟨h.n,QE _,by simp[U2.push],rfl,zV _ _⟩)
theorem XO{zero:List Value}(k:∀ p h',U8 h h'->U6 h h' p zero->WO P tab l ⟨t.set d p,ds,rd⟩ h' Q):
  WO P tab (⟨some d,none,.alloc zero⟩::l) ⟨t,ds,rd⟩ h Q:=
 WO.op _ _ rfl (by simp only[WE]) (k _ _ (Zg _ _) ⟨h.n,QE _,by simp[U2.push],rfl,zV _ _⟩)
theorem U6.idxArr{x y:Operand}{n c j i:Nat}(hx:ev t x=yC p j)(hy:W9 (ev t y)=some i)(o:U6 h0 h p cells)(hi:i<n):WE P ih t h (.idxArr n c x y)=some (yC p (j+i*c),h):=by
 obtain⟨g,_,_,rfl,_⟩:=o;have h1:Nat.ble (i+1) n=true:=QH hi;simp[WE,hx,hy,yC,h1]
theorem Vl{x y:Operand}{n c i:Nat}(hx:ev t x=p)(hy:W9 (ev t y)=some i)(o:U6 h0 h p cells)(hi:i<n):WE P ih t h (.idxArr n c x y)=some (yC p (i*c),h):=by
 have:=U6.idxArr (P:=P) (ih:=ih) (c:=c) (hx.trans o.at0) hy o hi;rwa [Q6]at this
theorem U6.fld{x:Operand}{off j:Nat}(hx:ev t x=yC p j)(o:U6 h0 h p cells):WE P ih t h (.fld off x)=some (yC p (j+off),h):=by
 obtain⟨g,_,_,rfl,_⟩:=o;simp[WE,hx,yC]
theorem XL{x:Operand}{off:Nat}(hx:ev t x=p)(o:U6 h0 h p cells):WE P ih t h (.fld off x)=some (yC p off,h):=by
 have:=U6.fld (P:=P) (ih:=ih) (off:=off) (hx.trans o.at0) o;rwa [Q6]at this
theorem U6.load{x:Operand}{agg:Bool}{n j:Nat}{r:Value}(hx:ev t x=yC p j)(o:U6 h0 h p cells)(hr:(cut cells j n).bind (zH agg)=some r):WE P ih t h (.load agg n x)=some (r,h):=by
 obtain⟨g,_,_,rfl,hg⟩:=o;simp[WE,hx,yC,yF,hg,hr]
theorem Vi{x:Operand}{agg:Bool}{n:Nat}{r:Value}(hx:ev t x=p)(o:U6 h0 h p cells)(hr:(cut cells 0 n).bind (zH agg)=some r):WE P ih t h (.load agg n x)=some (r,h):=
 U6.load (hx.trans o.at0) o hr
end
def W7(h0 h:U2)(m:Value)(es:List (Int×Int)):Prop:=
 ∃ g clock es',h0.n<=g/\g<h.n/\m=.map (some g)/\h.get g=some (.map es' clock)/\es'.map (fun e=>(e.key,e.val))=es.map fun e=>(I e.1,I e.2)
theorem W7.ext{h0 h h' m es}(o:W7 h0 h m es)(e:U8 h h'):W7 h0 h' m es:=by
 obtain⟨g,c,es',a,b,x,y,z⟩:=o;exact⟨g,c,es',a,QG b e.n,x,(e.get g b).trans y,z⟩
theorem W7.upd{h0 h h' m es v xs}(o:W7 h0 h m es)(s:WJ h0 h v xs)(u:BN v h h'):W7 h0 h' m es:=by
 obtain⟨g,c,es',a,b,x,y,z⟩:=o;refine⟨g,c,es',a,QG b u.1,x,(u.2 g b fun q n k hv e=> ?_).trans y,z⟩;rcases s with⟨rfl,_⟩|⟨g2,_,_,rfl,w⟩
 ·cases hv
 ·cases hv;simp only at e;subst e;rw[y]at w;cases w
theorem zDD{n:Int}:∀ {es':List MapEntry} {es:List (Int×Int)} (i:Nat),es'.map (fun e=>(e.key,e.val))=es.map (fun e=>(I e.1,I e.2))->es.lookup n=none->YK (I n) es' i=some none
 |[],[],_,_,_=>rfl
 |[],_::_,_,h,_=>by cases h
 |_::_,[],_,h,_=>by cases h
 |e::es',(k,v)::es,i,h,hl=>by
  simp only[Qm,List.cons.injEq,QD]at h;rw[List.lookup_cons]at hl;split at hl
  ·cases hl
  ·rename_i hk;have:zCM (I n) e.key=some false:=by rw[h.1.1];simp only[zCM,Q2];rw[hk]
   simp only[YK,this];exact zDD (i+1) h.2 hl
theorem zF7{n v:Int}:∀ {es':List MapEntry} {es:List (Int×Int)} (i:Nat),es'.map (fun e=>(e.key,e.val))=es.map (fun e=>(I e.1,I e.2))->es.lookup n=some v->∃ j,YK (I n) es' i=some (some (j,I v))
 |[],[],_,_,hl=>by cases hl
 |[],_::_,_,h,_=>by cases h
 |_::_,[],_,h,_=>by cases h
 |e::es',(k,w)::es,i,h,hl=>by
  simp only[Qm,List.cons.injEq,QD]at h;rw[List.lookup_cons]at hl;split at hl
  ·rename_i hk;cases hl;have:zCM (I n) e.key=some true:=by rw[h.1.1];simp only[zCM,Q2];rw[hk]
   exact⟨i,by simp only[YK,this,h.1.2]⟩
  ·rename_i hk;have:zCM (I n) e.key=some false:=by rw[h.1.1];simp only[zCM,Q2];rw[hk]
   obtain⟨j,hj⟩:=zF7 (i+1) h.2 hl;exact⟨j,by simp only[YK,this,hj]⟩
section
variable {P:Program}{tab:Wi}{t:U7 Value}{h h0:U2}{ds:List Deferred}{rd:Option Nat}{l:List U4}{Q:WF->U2->Prop}{d:Nat}
theorem WO.mkMap(k:∀ m h',U8 h h'->W7 h h' m []->WO P tab l ⟨t.set d m,ds,rd⟩ h' Q):WO P tab (⟨some d,none,.mkMap⟩::l) ⟨t,ds,rd⟩ h Q:=
 WO.op _ _ rfl (by simp only[WE]) (k _ _ (Zg _ _) ⟨h.n,0,[],QE _,by simp[U2.push],rfl,zV _ _,rfl⟩)
def zNW(m:Value)(h h':U2):Prop:=h.n<=h'.n/\∀ g,g<h.n->m≠ .map (some g)->h'.get g=h.get g
theorem We.updM{h0 h h' m es v xs}(s:We h0 h v xs)(o:W7 h0 h m es)(u:zNW m h h'):We h0 h' v xs:=by
 obtain⟨g,a,b,rfl,c⟩:=s;refine⟨g,a,QG b u.1,rfl,(u.2 g b fun e=> ?_).trans c⟩;obtain⟨g2,_,_,_,_,x,y,_⟩:=o;rw[x]at e;cases e;rw[c]at y;cases y
theorem WJ.updM{h0 h h' m es v xs}(s:WJ h0 h v xs)(o:W7 h0 h m es)(u:zNW m h h'):WJ h0 h' v xs:=s.imp id fun s=>s.updM o u
end
end
inductive Rd{H:Type}(P:Program)(h:U2):TypeId->List Value->DataW H->Prop
 |bool {t} (b:Bool) (ht:P.underlying t=some .bool):Rd P h t [.bool b] (.lit (.bool b))
 |int {t k} (n:Int) (ht:P.underlying t=some (.int k)) (wf:(Lit.int k n).wf=true):Rd P h t [.int k n] (.lit (.int k n))
 |string {t} (s:ByteArray) (ht:P.underlying t=some .string) (hs:s.size<=maxLen):Rd P h t [.string s] (.lit (.string s.data.toList))
 |snil {t e} (ht:P.underlying t=some (.slice e)):Rd P h t [.slice none 0 0] .nil
 |szero {t e} (a:Addr) (spare:List (DataW H)) (ht:P.underlying t=some (.slice e)):Rd P h t [.slice (some a) 0 (P.cellsOf e)] (.slice [] spare)
 |slice {t e} (g:Nat) (cells:List Value) (elems spare:List (DataW H)) (ht:P.underlying t=some (.slice e)) (hg:h.get g=some (.row cells false 0)) (hn:g<h.n) (hl:cells.length=elems.length*P.cellsOf e)
   (hm:elems.length<=maxLen) (hr:∀ (i:Nat) (d:DataW H),elems[i]?=some d->Rd P h e ((cells.drop (i*P.cellsOf e)).take (P.cellsOf e)) d):
   Rd P h t [.slice (some ⟨g,0,none⟩) elems.length (P.cellsOf e)] (.slice elems spare)
 |struct {t fs} (cells:List Value) (parts:List (DataW H)) (ht:P.underlying t=some (.struct fs)) (hl:cells.length=P.cellsOf t) (hp:parts.length=fs.size)
   (hr:∀ (i:Nat) (f:Field) (d:DataW H),fs[i]?=some f->parts[i]?=some d->Rd P h f.type ((cells.drop f.offset).take (P.cellsOf f.type)) d):Rd P h t cells (.agg parts)
 |array {t n e} (cells:List Value) (parts:List (DataW H)) (ht:P.underlying t=some (.array n e)) (hl:cells.length=P.cellsOf t) (hp:parts.length=n)
   (hr:∀ (i:Nat) (d:DataW H),parts[i]?=some d->Rd P h e ((cells.drop (i*P.cellsOf e)).take (P.cellsOf e)) d):Rd P h t cells (.agg parts)
theorem Rd.ext{H:Type}{P:Program}{h h':U2}{t:TypeId}{cells:List Value}{d:DataW H}(r:Rd P h t cells d)(e:U8 h h'):Rd P h' t cells d:=by
 induction r with
 |bool b ht=>exact .bool b ht
 |int n ht wf=>exact .int n ht wf
 |string s ht hs=>exact .string s ht hs
 |snil ht=>exact .snil ht
 |szero a sp ht=>exact .szero a sp ht
 |slice g cells elems sp ht hg hn hl hm _ ih=>exact .slice g cells elems sp ht ((e.get g hn).trans hg) (QG hn e.n) hl hm ih
 |struct cells parts ht hl hp _ ih=>exact .struct cells parts ht hl hp ih
 |array cells parts ht hl hp _ ih=>exact .array cells parts ht hl hp ih
def zBL(P:Program):List Field->Nat->Option Nat
 |[],n=>some n
 |f::l,n=>bif Nat.beq f.offset n then zBL P l (n+P.cellsOf f.type)else none
def Y5(P:Program):Nat->TypeId->Bool
 |0,_=>false
 |n+1,t=>match P.underlying t with
  |some .bool|some (.int _)|some .string=>true
  |some (.slice e)=>Nat.ble 1 (P.cellsOf e)&&Y5 P n e
  |some (.struct fs)=>(match zBL P fs.toList 0 with|some m=>Nat.beq m (P.cellsOf t)|none=>false)&&fs.toList.all fun f=>Y5 P n f.type
  |some (.array m e)=>Nat.beq (m*P.cellsOf e) (P.cellsOf t)&&Y5 P n e
  |_=>false
def zPp(h:U2):Prop:=∀ g o,h.get g=some o->zB8 o=false
section
variable {P:Program}{H:Type}{enc:TypeId×Value->H}{w:World}{B:Nat}
theorem zEM{σ:Nat->Option Pl}{h:U2}(hr:WN P B σ h w)(hno:zPp h)(hrow:∀ g o,h.get g=some o->∃ c l,o=.row c false l){cells:List Value}{pl:Pl}(hb:pl.b<w.heap.size)
  (ho:BD P σ pl (.row cells false 0) w):
  WN P B (yp σ h.n pl) (h.push (.row cells false 0)) w/\zPp (h.push (.row cells false 0))/\(∀ g o,(h.push (.row cells false 0)).get g=some o->∃ c l,o=.row c false l)/\Le σ (yp σ h.n pl):=by
 have hle:Le σ (yp σ h.n pl):=Z9 hr pl;have hnone:h.get h.n=none:=by
  cases hg:h.get h.n with
  |none=>rfl
  |some o=>obtain⟨pl,h1,_⟩:=hr.live _ _ hg;have:=(hr.lt _ _ h1).1;omega
 have hrows:∀ g o,(h.push (.row cells false 0)).get g=some o->∃ c l,o=.row c false l:=fun g o hg=>by
  rw[zN]at hg;split at hg
  ·cases hg;exact⟨_,_,rfl⟩
  ·exact hrow g o hg
 refine⟨⟨fun g hg=> ?_,fun g p hg=> ?_,fun g o hg=> ?_,fun g o g' o' p p' hg hg' _ _ _ _=> ?_,hr.le⟩,fun g o hg=> ?_,hrows,hle⟩
 ·obtain⟨p,h1,h2⟩:=hr.globals g hg;exact⟨p,hle _ _ h1,h2⟩
 ·unfold yp at hg;split at hg
  ·cases hg;rename_i e;subst e;exact⟨by simp[U2.push],hb⟩
  ·have:=hr.lt g p hg;exact⟨by simp[U2.push];omega,this.2⟩
 ·rw[zN]at hg;split at hg
  ·rename_i e;subst e;cases hg;exact⟨pl,zx _ _ _,ho.keep hle rfl,fun x=>by cases x⟩
  ·obtain⟨p,h1,h2,h3⟩:=hr.live g o hg;exact⟨p,hle _ _ h1,h2.keep hle rfl,h3⟩
 ·obtain⟨c,l,rfl⟩:=hrows g o hg;obtain⟨c',l',rfl⟩:=hrows g' o' hg';exact⟨fun⟨x,_⟩=>Bool.noConfusion x,fun x=>Bool.noConfusion x,fun x=>Bool.noConfusion x⟩
 ·obtain⟨c,l,rfl⟩:=hrows g o hg;rfl
structure W8(P:Program)(B:Nat)(σ:Nat->Option Pl)(h:U2)(w:World):Prop where
 rel:WN P B σ h w
 rows:∀ g o,h.get g=some o->∃ c l,o=.row c false l
 wf:Wf h
theorem W8.no{σ:Nat->Option Pl}{h:U2}(c:W8 P B σ h w):zPp h:=fun g o hg=>by obtain⟨c,l,rfl⟩:=c.rows g o hg;rfl
theorem zEf:∀ {as:List (List Value)} {i:Nat} {a:List Value},as[i]?=some a->(as.flatten.drop ((as.take i).flatten.length)).take a.length=a
 |[],i,a,h=>by simp at h
 |x::as,0,a,h=>by simp at h;subst h;simp
 |x::as,i+1,a,h=>by
  simp at h;have:=zEf h;simp only[Qs,GP,QM];rw[List.drop_append,List.drop_of_length_le (by omega),GS];have e:x.length+(as.take i).flatten.length-x.length=(as.take i).flatten.length:=by omega
  rw[e];exact this
theorem zEg{c:Nat}:∀ {as:List (List Value)},(∀ a∈as,a.length=c)->as.flatten.length=as.length*c
 |[],_=>by simp
 |x::as,h=>by
  have:=zEg (as:=as) (fun a ha=>h a (by simp[ha]));simp only[GP,QM,GT,this,h x (by simp)];rw[Gq];omega
theorem zBE(R:TypeId->List Value->DataW H->Prop)
  (one:∀ t cs d,R t cs d->∀ σ h,W8 P B σ h w->∃ σ' h' acs,W8 P B σ' h' w/\U8 h h'/\Le σ σ'/\WG σ' acs cs/\Rd P h' t acs d):
  ∀ (l:List (TypeId×List Value×DataW H)),(∀ p∈l,R p.1 p.2.1 p.2.2)->∀ σ h,W8 P B σ h w->
   ∃ (σ':Nat->Option Pl) (h':U2) (as:List (List Value)),W8 P B σ' h' w/\U8 h h'/\Le σ σ'/\as.length=l.length/\∀ (i:Nat) (a:List Value) (p:TypeId×List Value×DataW H),as[i]?=some a->l[i]?=some p->WG σ' a p.2.1/\Rd P h' p.1 a p.2.2:=by
 intro l;induction l with
 |nil=>intro _ σ h hc;exact⟨σ,h,[],hc,U8.refl h,.refl _,rfl,fun i a p ha=>by simp at ha⟩
 |cons p l ih=>
  intro hl σ h hc;obtain⟨σ1,h1,a1,c1,e1,l1,r1,d1⟩:=one _ _ _ (hl p (by simp)) σ h hc;obtain⟨σ2,h2,as,c2,e2,l2,n2,r2⟩:=ih (fun q hq=>hl q (by simp[hq])) σ1 h1 c1;refine⟨σ2,h2,a1::as,c2,e1.trans e2,l1.trans l2,by simp[n2],fun i a q ha hq=> ?_⟩;cases i with
  |zero=>simp at ha hq;subst ha hq;exact⟨r1.mono l2,d1.ext e2⟩
  |succ i=>simp at ha hq;exact r2 i a q ha hq
theorem zFZ{σ:Nat->Option Pl}:∀ {as cs:List (List Value)},as.length=cs.length->(∀ (i:Nat) a c,as[i]?=some a->cs[i]?=some c->WG σ a c)->WG σ as.flatten cs.flatten
 |[],[],_,_=>WG.nil _
 |a::as,c::cs,hl,h=>by
  simp only[GP];exact(h 0 a c rfl rfl).append (zFZ (by simpa using hl) fun i x y hx hy=>h (i+1) x y (by simpa using hx) (by simpa using hy))
 |[],_::_,hl,_=>by simp at hl
 |_::_,[],hl,_=>by simp at hl
theorem zKM(a:Addr)(ha:a.spot=none)(i:Nat):a.add i=⟨a.block,a.off+i,none⟩:=by
 unfold Addr.add;split
 ·rename_i e;subst e;obtain⟨b,o,s⟩:=a;simp only at ha;subst ha;rfl
 ·rfl
theorem zJ9{σ:Nat->Option Pl}:∀ (sz:List Nat) (as:List (List Value)) (cs:List Value),sz.sum=cs.length->as.length=sz.length->
  (∀ (i:Nat) a s,as[i]?=some a->sz[i]?=some s->WG σ a ((cs.drop (sz.take i).sum).take s))->
  WG σ as.flatten cs/\∀ (i:Nat) a s,as[i]?=some a->sz[i]?=some s->a.length=s/\(as.flatten.drop (sz.take i).sum).take s=a
 |[],[],cs,hs,_,_=>by
  have:cs=[]:=Ga.1 (by simpa using hs.symm);subst this;exact⟨WG.nil _,fun i a s ha=>by simp at ha⟩
 |[],_::_,_,_,hl,_=>by simp at hl
 |_::_,[],_,_,hl,_=>by simp at hl
 |s::sz,a::as,cs,hs,hl,h=>by
  have h0:=h 0 a s rfl rfl;simp only[GE,List.sum_nil,Q0]at h0;have hs':sz.sum+s=cs.length:=by simp at hs;omega
  have al:a.length=s:=by rw[h0.1];simp;omega
  obtain⟨i1,i2⟩:=zJ9 sz as (cs.drop s) (by simp;omega) (by simpa using hl) (fun i x y hx hy=>by
   have:=h (i+1) x y (by simpa using hx) (by simpa using hy);simpa [JE]using this)
  refine⟨?_,fun i x y hx hy=> ?_⟩
  ·have:=h0.append i1;simpa using this
  ·cases i with
   |zero=>
    simp at hx hy;subst hx hy;refine⟨al,?_⟩;simp only[GE,List.sum_nil,Q0,GP];rw[<-al];simp
   |succ i=>
    simp at hx hy;obtain⟨j1,j2⟩:=i2 i x y hx hy;refine⟨j1,?_⟩;simp only[Qs,G9,GP];rw[List.drop_append,List.drop_of_length_le (by omega),GS];have e:s+(sz.take i).sum-a.length=(sz.take i).sum:=by omega
    rw[e];exact j2
theorem zBI:∀ {l:List Field} {n m:Nat},zBL P l n=some m->m=n+(l.map fun f=>P.cellsOf f.type).sum/\
  ∀ (i:Nat) (f:Field),l[i]?=some f->f.offset=n+((l.map fun f=>P.cellsOf f.type).take i).sum
 |[],n,m,h=>by simp[zBL]at h;subst h;exact⟨by simp,fun i f hf=>by simp at hf⟩
 |f::l,n,m,h=>by
  unfold zBL at h;cases hb:Nat.beq f.offset n with
  |false=>simp[hb]at h
  |true=>
   have hb':=QJ hb;simp only[hb,cond_true]at h;obtain⟨h1,h2⟩:=zBI h;refine⟨by rw[h1];simp;omega,fun i g hg=> ?_⟩;cases i with
   |zero=>simp at hg;subst hg;simpa using hb'
   |succ i=>simp at hg;rw[h2 i g hg];simp;omega
theorem zUL(L:List Value)(off c:Nat)(f:Nat->List Value):∀ len,(∀ i,i<len->f i=(L.drop (off+i*c)).take c)->((List.range len).map f).flatten=(L.drop off).take (len*c):=by
 intro len;induction len with
 |zero=>intro _;simp
 |succ n ih=>
  intro h;rw[Gy,GA,List.flatten_append,ih (fun i hi=>h i (by omega))];simp only[Qm,Gf,GP,List.flatten_nil,Gp];rw[h n (by omega),JC,List.take_add,JE]
theorem zJI:∀ (n:Nat) (t:TypeId) (cs:List Value) (x:DataW H×List MemPlace),DataW.trod enc P w 0 (fun _=>true) true n t cs=some x->∀ (m:Nat),Y5 P m t=true->
  ∀ (σ:Nat->Option Pl) (h:U2),W8 P B σ h w->∃ (σ':Nat->Option Pl) (h':U2) (acs:List Value),W8 P B σ' h' w/\U8 h h'/\Le σ σ'/\WG σ' acs cs/\Rd P h' t acs x.1:=by
 intro n;induction n with
 |zero=>intro t cs x hx;simp[DataW.trod]at hx
 |succ n ih=>
  intro t cs x hx m hm σ h hc;have one:∀ t cs (d:DataW H),(∃ x,DataW.trod enc P w 0 (fun _=>true) true n t cs=some x/\x.1=d/\∃ m,Y5 P m t=true)->∀ σ h,W8 P B σ h w->
    ∃ (σ':Nat->Option Pl) (h':U2) (acs:List Value),W8 P B σ' h' w/\U8 h h'/\Le σ σ'/\WG σ' acs cs/\Rd P h' t acs d:=fun t cs d ⟨x,h1,h2,m,h3⟩ σ h hc=>by
   subst h2;exact ih t cs x h1 m h3 σ h hc
  cases m with
  |zero=>cases hm
  |succ m=>
  cases hu:P.underlying t with
  |none=>simp[Y5,hu]at hm
  |some u=>
  cases u with
  |bool=>
   obtain⟨b,rfl,rfl⟩:=DataW.trod_bool hu hx;exact⟨σ,h,_,hc,U8.refl h,.refl _,.cons (.bool b) (.nil _),.bool b hu⟩
  |int k=>
   obtain⟨b,rfl,rfl,wf⟩:=DataW.trod_int hu hx;exact⟨σ,h,_,hc,U8.refl h,.refl _,.cons (.int k b) (.nil _),.int b hu wf⟩
  |string=>
   obtain⟨b,rfl,rfl,wf⟩:=DataW.trod_string hu hx;exact⟨σ,h,_,hc,U8.refl h,.refl _,.cons (.string b) (.nil _),.string b hu wf⟩
  |struct fs=>
   obtain⟨xs,n',e,rfl,hl,hxs,hf⟩:=DataW.trod_struct hu hx;cases e;simp only[Y5,hu,QF,QX]at hm;obtain⟨hm1,hm2⟩:=hm;cases hcon:zBL P fs.toList 0 with
   |none=>simp[hcon]at hm1
   |some q=>
   simp only[hcon]at hm1;have hq:=QJ hm1;obtain⟨c1,c2⟩:=zBI hcon;let l:List (TypeId×List Value×DataW H):=(fs.toList.zip xs).map fun p=>(p.1.type,(cs.drop p.1.offset).take (P.cellsOf p.1.type),p.2.1)
   have hlen:l.length=fs.size:=by simp[l,hxs]
   have hget:∀ (i:Nat) p,l[i]?=some p->∃ f y,fs[i]?=some f/\xs[i]?=some y/\p=(f.type,(cs.drop f.offset).take (P.cellsOf f.type),y.1):=fun i p hp=>by
    simp only[l,GU,QP]at hp;obtain⟨⟨f,y⟩,h1,h2⟩:=hp;rw[List.getElem?_zip_eq_some]at h1;exact⟨f,y,by simpa using h1.1,h1.2,h2.symm⟩
   obtain⟨σ',h',as,k1,k2,k3,k4,k5⟩:=zBE _ one l (fun p hp=>by
    obtain⟨i,hi⟩:=Gl.1 hp;obtain⟨f,y,h1,h2,rfl⟩:=hget i p hi;exact⟨y,by rw[hf i f h1,h2],rfl,m,hm2 f (Gd (by simpa using h1))⟩) σ h hc
   have hsz:∀ (i:Nat) s,(fs.toList.map fun f=>P.cellsOf f.type)[i]?=some s->∃ f y,fs[i]?=some f/\xs[i]?=some y/\s=P.cellsOf f.type/\l[i]?=some (f.type,(cs.drop f.offset).take (P.cellsOf f.type),y.1):=fun i s hs=>by
    simp only[GU,QP]at hs;obtain⟨f,h1,h2⟩:=hs;have hi:i<fs.size:=by simpa using(QQ.1 h1).1
    have hy:xs[i]?=some (xs[i]'(by omega)):=QB _;refine⟨f,_,by simpa using h1,hy,h2.symm,?_⟩;simp only[l,GU];have hz:(fs.toList.zip xs)[i]?=some (f,xs[i]'(by omega)):=List.getElem?_zip_eq_some.2 ⟨h1,hy⟩;rw[hz];rfl
   obtain⟨p1,p2⟩:=zJ9 (σ:=σ') (fs.toList.map fun f=>P.cellsOf f.type) as cs (by omega) (by rw[k4,hlen];simp) (fun i a s ha hs=>by
    obtain⟨f,y,h1,h2,rfl,h3⟩:=hsz i s hs;have:=(k5 i a _ ha h3).1;rw[c2 i f (by simpa using h1),Q6]at this;exact this)
   refine⟨σ',h',as.flatten,k1,k2,k3,p1,.struct _ _ hu (by rw[p1.1];exact hl) (by simpa using hxs) fun i f d hfi hd=> ?_⟩;simp only[GU,QP]at hd;obtain⟨y,hy,rfl⟩:=hd;have hs:(fs.toList.map fun f=>P.cellsOf f.type)[i]?=some (P.cellsOf f.type):=by simp[hfi]
   obtain⟨f',y',h1,h2,h4,h3⟩:=hsz i _ hs;rw[hfi]at h1;cases h1;rw[hy]at h2;cases h2;have hi:i<as.length:=by rw[k4];exact(QQ.1 h3).1
   have ha:as[i]?=some as[i]:=QB _;have e1:=(p2 i _ _ ha hs).2;rw[c2 i f (by simpa using hfi),Q6,e1];exact(k5 i _ _ ha h3).2
  |array k e=>
   obtain⟨xs,n',e',rfl,hl,hxs,hf⟩:=DataW.trod_array hu hx;cases e';simp only[Y5,hu,QF]at hm;obtain⟨hm1,hm2⟩:=hm;have hq:=QJ hm1;let l:List (TypeId×List Value×DataW H):=(List.range k).map fun i=>(e,(cs.drop (i*P.cellsOf e)).take (P.cellsOf e),((xs[i]?).map (·.1)).getD .nil)
   have hget:∀ (i:Nat),i<k->∃ y,xs[i]?=some y/\l[i]?=some (e,(cs.drop (i*P.cellsOf e)).take (P.cellsOf e),y.1):=fun i hi=>by
    have hy:xs[i]?=some (xs[i]'(by omega)):=QB _;exact⟨_,hy,by simp[l,hi,hy]⟩
   obtain⟨σ',h',as,k1,k2,k3,k4,k5⟩:=zBE _ one l (fun p hp=>by
    obtain⟨i,hi⟩:=Gl.1 hp;have hik:i<k:=by have:=(QQ.1 hi).1;simpa [l]using this
    obtain⟨y,h1,h2⟩:=hget i hik;rw[h2]at hi;cases hi;exact⟨y,by rw[hf i hik,h1],rfl,m,hm2⟩) σ h hc
   have hsum:∀ i,i<=k->((List.replicate k (P.cellsOf e)).take i).sum=i*P.cellsOf e:=fun i hi=>by
    rw[List.take_replicate,List.sum_replicate_nat,Gj hi]
   obtain⟨p1,p2⟩:=zJ9 (σ:=σ') (List.replicate k (P.cellsOf e)) as cs (by rw[List.sum_replicate_nat];omega) (by rw[k4];simp[l]) (fun i a s ha hs=>by
    have hik:i<k:=by have:=(QQ.1 hs).1;simpa using this
    obtain⟨y,h1,h2⟩:=hget i hik;have hs':s=P.cellsOf e:=by rw[List.getElem?_replicate,QI hik]at hs;exact(Q3 hs).symm
    subst hs';rw[hsum i (by omega)];exact(k5 i a _ ha h2).1)
   refine⟨σ',h',as.flatten,k1,k2,k3,p1,.array _ _ hu (by rw[p1.1];exact hl) (by simpa using hxs) fun i d hd=> ?_⟩;simp only[GU,QP]at hd;obtain⟨y,hy,rfl⟩:=hd;have hik:i<k:=by have:=(QQ.1 hy).1;omega
   obtain⟨y',h1,h2⟩:=hget i hik;rw[hy]at h1;cases h1;have hi:i<as.length:=by rw[k4];exact(QQ.1 h2).1
   have ha:as[i]?=some as[i]:=QB _;have e1:=(p2 i _ (P.cellsOf e) ha (by simp[hik])).2;rw[hsum i (by omega)]at e1;rw[e1];exact(k5 i _ _ ha h2).2
  |slice e=>
   simp only[Y5,hu,QF]at hm;obtain⟨hm1,hm2⟩:=hm;have hc1:1<=P.cellsOf e:=QN hm1;rcases DataW.trod_slice hu hx with⟨rfl,rfl⟩|⟨a,len,cap,elems,rest,n',e',rfl,rfl,_,hlc,hcm,hel,hrd,hsp,_⟩
   ·exact⟨σ,h,_,hc,U8.refl h,.refl _,.cons .snil (.nil _),.snil hu⟩
   cases e';obtain⟨hrl,hrr⟩:=hsp rfl;by_cases hcap:cap=0
   ·subst hcap;have:len=0:=by omega
    subst this;have:elems=[]:=Ga.1 hel;subst this;exact⟨σ,h,_,hc,U8.refl h,.refl _,.cons (.szero a a _) (.nil _),.szero a _ hu⟩
   ·generalize hcd:P.cellsOf e=c at *;have hall:∀ i,i<cap->∃ cs,w.cells? 0 (a.add (i*c)) c=some cs:=fun i hi=>by
     by_cases hil:i<len
     ·have:=hrd i hil;rw[QB (by omega)]at this;obtain⟨cs,h1,_⟩:=Option.bind_eq_some_iff.1 this;exact⟨cs,h1⟩
     ·have:=hrr (i-len) (by omega);rw[QB (by omega),show len+(i-len)=i by omega]at this;obtain⟨cs,h1,_⟩:=Option.bind_eq_some_iff.1 this;exact⟨cs,h1⟩
    have hspot:a.spot=none:=by
     obtain⟨cs,h1⟩:=hall 0 (by omega);obtain⟨_,h2,h3⟩:=World.cells?_some h1;have h4:=h3 0 (by omega);rw[Nat.zero_mul]at h4;have h5:(a.add 0).add 0=a:=by simp[Addr.add]
     rw[h5,QB (by omega)]at h4;exact World.cell?_spot h4
    have hadd:∀ i j,(a.add i).add j=⟨a.block,a.off+i+j,none⟩:=fun i j=>by
     rw[zKM a hspot,zKM _ rfl]
    obtain⟨carr,elem,fr,hblk⟩:∃ carr elem fr,w.heap[a.block]?=some (.cells carr elem fr):=by
     obtain⟨cs,h1⟩:=hall 0 (by omega);obtain⟨_,h2,h3⟩:=World.cells?_some h1;have h4:=h3 0 (by omega);rw[hadd,QB (by omega)]at h4;unfold World.cell? at h4;split at h4
     ·exact⟨_,_,_,by assumption⟩
     ·cases h4
    have hcell:∀ k,w.cell? ⟨a.block,k,none⟩=carr[k]?:=fun k=>by simp[World.cell?,hblk]
    have hpiece:∀ i,i<cap->w.cells? 0 (a.add (i*c)) c=some ((carr.toList.drop (a.off+i*c)).take c)/\a.off+i*c+c<=carr.size:=fun i hi=>by
     obtain⟨cs,h1⟩:=hall i hi;obtain⟨_,h2,h3⟩:=World.cells?_some h1;have hb:a.off+i*c+c<=carr.size:=by
      have h4:=h3 (c-1) (by omega);rw[hadd,hcell,QB (by omega)]at h4;have:=(Gt.1 h4).1;omega
     refine⟨?_,hb⟩;rw[h1];congr 1;apply List.ext_getElem?;intro j;by_cases hj:j<c
     ·rw[<-h3 j hj,hadd,hcell,GD,QI hj,GQ];simp
     ·rw[G1 (by omega),G1 (by simp;omega)]
    have hbound:a.off+cap*c<=carr.size:=by
     have:=(hpiece (cap-1) (by omega)).2;have e2:(cap-1)*c+c=cap*c:=by
      rw[<-JC];congr 1;omega
     omega
    let l:List (TypeId×List Value×DataW H):=(List.range len).map fun i=>(e,(carr.toList.drop (a.off+i*c)).take c,((elems[i]?).map (·.1)).getD .nil)
    have hget:∀ (i:Nat),i<len->∃ y,elems[i]?=some y/\l[i]?=some (e,(carr.toList.drop (a.off+i*c)).take c,y.1):=fun i hi=>by
     have hy:elems[i]?=some (elems[i]'(by omega)):=QB _;exact⟨_,hy,by simp[l,hi,hy]⟩
    obtain⟨σ',h',as,k1,k2,k3,k4,k5⟩:=zBE _ one l (fun p hp=>by
     obtain⟨i,hi⟩:=Gl.1 hp;have hik:i<len:=by have:=(QQ.1 hi).1;simpa [l]using this
     obtain⟨y,h1,h2⟩:=hget i hik;rw[h2]at hi;cases hi;have:=hrd i hik;rw[(hpiece i (by omega)).1,h1]at this;exact⟨y,this,rfl,m,hm2⟩) σ h hc
    have hlen:as.length=len:=by rw[k4];simp[l]
    have hal:∀ (i:Nat) x,as[i]?=some x->i<len/\x.length=c:=fun i x hx=>by
     have hi:i<len:=by have:=(QQ.1 hx).1;omega
     obtain⟨y,_,h2⟩:=hget i hi;have:=(k5 i x _ hx h2).1.1;refine⟨hi,?_⟩;rw[this];have:=(hpiece i (by omega)).2;simp;omega
    have hfl:as.flatten.length=len*c:=by
     rw[zEg (c:=c) (fun x hx=>by obtain⟨i,hi⟩:=Gl.1 hx;exact(hal i x hi).2),hlen]
    have hrel:WG σ' as.flatten ((carr.toList.drop a.off).take (len*c)):=by
     rw[<-zUL carr.toList a.off c (fun i=>(carr.toList.drop (a.off+i*c)).take c) len (fun i _=>rfl)];refine zFZ (by simp[hlen]) fun i x y hx hy=> ?_;obtain⟨hi,_⟩:=hal i x hx;obtain⟨z,_,h2⟩:=hget i hi;have hy':y=(carr.toList.drop (a.off+i*c)).take c:=by
      rw[GU,List.getElem?_range hi]at hy;exact(Q3 hy).symm
     rw[hy'];exact(k5 i x _ hx h2).1
    let pl:Pl:=⟨a.block,a.off,carr.size⟩
    have hlc':len*c<=cap*c:=Gc c hlc;have hor:BD P σ' pl (.row as.flatten false 0) w:=by
     refine⟨carr,elem,fr,hblk,rfl,by show a.off+as.flatten.length<=carr.size;omega,fun i v hv=> ?_,fun x=>by cases x⟩;have hi:i<len*c:=by have:=(QQ.1 hv).1;omega
     obtain⟨y,hy,hvy⟩:=hrel.get hv;rw[GD,QI hi,GQ]at hy;exact⟨y,by simpa using hy,hvy⟩
    obtain⟨r1,_,r3,r4⟩:=zEM k1.rel k1.no k1.rows (cells:=as.flatten) (pl:=pl) (Gt.1 hblk).1 hor;refine⟨yp σ' h'.n pl,h'.push (.row as.flatten false 0),[.slice (some ⟨h'.n,0,none⟩) (elems.map (·.1)).length c],⟨r1,r3,(Zg h' _).wf k1.wf⟩,k2.trans (Zg h' _),k3.trans r4,?_,?_⟩
    ·refine .cons ?_ (.nil _);obtain⟨b,o,sp⟩:=a;simp only at hspot;subst hspot;have:=U9.slice (σ:=yp σ' h'.n pl) (g:=h'.n) (off:=0) (len:=len) (c:=c) (cap:=cap) (pl:=pl) (zx _ _ _) (by omega) hlc hbound;simpa [pl,hel]using this
    ·subst hcd;refine .slice h'.n as.flatten _ _ hu (zV _ _) (by simp[U2.push]) (by rw[hfl];simp[hel]) (by simp[hel];omega) fun i d hd=> ?_;simp only[GU,QP]at hd;obtain⟨y,hy,rfl⟩:=hd;have hi:i<len:=by have:=(QQ.1 hy).1;omega
     obtain⟨y',h1,h2⟩:=hget i hi;rw[hy]at h1;cases h1;have ha:as[i]?=some (as[i]'(by omega)):=QB _;have hp:=zEf ha;have hpre:(as.take i).flatten.length=i*P.cellsOf e:=by
      rw[zEg (c:=P.cellsOf e) (fun x hx=>by
       obtain⟨j,hj⟩:=Gl.1 (GF hx);exact(hal j x hj).2)]
      simp[Gj (by omega:i<=as.length)]
     rw[hpre,(hal i _ ha).2]at hp;rw[hp];exact(k5 i _ _ ha h2).2.ext (Zg h' _)
  |_=>simp[Y5,hu]at hm
end
section
variable {P:Program}{H:Type}{enc:TypeId×Value->H}{w:World}{B:Nat}{σ:Nat->Option Pl}{h:U2}
theorem zLh{tab:Wi}(hmix:P.follows .mixedOrders=true)(htab:tab.Ok P)(hc:W8 P B σ h w){f:FuncId}{args:List Value}{as:Array Value}(hl:WG σ args as.toList)
  (hx:WC P tab f args h fun r _=>r=.bool true):Calls P f as w fun e w'=>e=.returned (.bool true)/\Below B w w':=by
 unfold WC at hx;obtain⟨v,h',rfl,ev⟩:=hx;obtain⟨n,hn⟩:=ev.get;exact zLH hmix htab (n:=n) (by rw[hn];rfl) hc.rel hl
theorem zBf{t:TypeId}{v:Value}{d:DataW H}{p:List MemPlace}(hd:DataW.Trod enc P w 0 (fun _=>true) true t v d p)(m:Nat)(hm:Y5 P m t=true)(hc:W8 P B σ h w):
  ∃ (σ':Nat->Option Pl) (h':U2) (acs:List Value),W8 P B σ' h' w/\U8 h h'/\Le σ σ'/\WG σ' acs v.cells.toList/\Rd P h' t acs d:=by
 obtain⟨n,hn⟩:=hd;exact zJI n t _ _ hn m hm σ h hc
theorem zEi{σ:Nat->Option Pl}{av v:Value}(hl:WG σ [av] v.cells.toList)(hv:v.cells.toList=[v]):U9 σ av v:=by
 rw[hv]at hl;exact hl.2 0 _ _ rfl rfl
theorem Zi{t:TypeId}{k:IntKind}{acs:List Value}{d:DataW H}(r:Rd P h t acs d)(ht:P.underlying t=some (.int k)):∃ n,acs=[.int k n]/\(Lit.int k n).wf=true:=by
 cases r with
 |int n ht' wf=>rw[ht]at ht';cases ht';exact⟨n,rfl,wf⟩
 |bool _ ht'=>rw[ht]at ht';cases ht'
 |string _ ht'=>rw[ht]at ht';cases ht'
 |snil ht'=>rw[ht]at ht';cases ht'
 |szero _ _ ht'=>rw[ht]at ht';cases ht'
 |slice _ _ _ _ ht'=>rw[ht]at ht';cases ht'
 |struct _ _ ht'=>rw[ht]at ht';cases ht'
 |array _ _ ht'=>rw[ht]at ht';cases ht'
theorem zEe{t e:TypeId}{acs:List Value}{d:DataW H}(r:Rd P h t acs d)(ht:P.underlying t=some (.slice e)):
  (acs=[.slice none 0 0]/\d=.nil)\/(∃ a sp,acs=[.slice (some a) 0 (P.cellsOf e)]/\d=.slice [] sp)\/
  ∃ g cells elems sp,acs=[.slice (some ⟨g,0,none⟩) elems.length (P.cellsOf e)]/\d=.slice elems sp/\h.get g=some (.row cells false 0)/\g<h.n/\cells.length=elems.length*P.cellsOf e/\elems.length<=maxLen/\
   ∀ (i:Nat) (d:DataW H),elems[i]?=some d->Rd P h e ((cells.drop (i*P.cellsOf e)).take (P.cellsOf e)) d:=by
 cases r with
 |int n ht' wf=>rw[ht]at ht';cases ht'
 |bool _ ht'=>rw[ht]at ht';cases ht'
 |string _ ht'=>rw[ht]at ht';cases ht'
 |snil ht'=>exact .inl ⟨rfl,rfl⟩
 |szero a sp ht'=>rw[ht]at ht';cases ht';exact .inr (.inl ⟨a,sp,rfl,rfl⟩)
 |slice g cells elems sp ht' hg hn hl hm hr=>rw[ht]at ht';cases ht';exact .inr (.inr ⟨g,cells,elems,sp,rfl,rfl,hg,hn,hl,hm,hr⟩)
 |struct _ _ ht'=>rw[ht]at ht';cases ht'
 |array _ _ ht'=>rw[ht]at ht';cases ht'
theorem zQI{t e:TypeId}{acs:List Value}{d:DataW H}(r:Rd P h t acs d)(ht:P.underlying t=some (.slice e))(he:P.underlying e=some (.int .i64))(hc:P.cellsOf e=1):
  ∃ av l,acs=[av]/\WM h av l/\(l.length:Int)<=9223372036854775807/\∀ a∈l,(Lit.int .i64 a).wf=true:=by
 rcases zEe r ht with⟨rfl,_⟩|⟨a,sp,rfl,_⟩|⟨g,cells,elems,sp,rfl,rfl,hg,hn,hl,hm,hr⟩
 ·exact⟨_,[],rfl,WM.nil h,by simp,fun a ha=>by cases ha⟩
 ·refine⟨_,[],rfl,?_,by simp,fun a ha=>by cases ha⟩;exact⟨by simp,.inl ⟨rfl,.inr ⟨_,_,rfl⟩⟩⟩
 ·rw[hc]at hl hr |-;simp only[G4]at hl hr;have key:∀ i,i<cells.length->∃ n,cells[i]?=some (I n)/\(Lit.int .i64 n).wf=true:=fun i hi=>by
   have hd:elems[i]?=some (elems[i]'(by omega)):=QB _;obtain⟨n,e1,e2⟩:=Zi (hr i _ hd) he;rw[GI hi,Qs,GE]at e1;exact⟨n,by rw[QB hi];simpa using e1,e2⟩
  obtain⟨l,rfl,hw⟩:∃ l:List Int,cells=l.map I/\∀ a∈l,(Lit.int .i64 a).wf=true:=by
   clear hg hl hr;induction cells with
   |nil=>exact⟨[],rfl,fun a ha=>by cases ha⟩
   |cons x xs ih=>
    obtain⟨n,e1,e2⟩:=key 0 (by simp);obtain⟨l,rfl,e3⟩:=ih fun i hi=>by
     have:=key (i+1) (by simpa using hi);simpa using this
    simp at e1;subst e1;exact⟨n::l,rfl,fun a ha=>by
     rcases GL.1 ha with rfl|ha
     ·exact e2
     ·exact e3 a ha⟩
  have hle:elems.length=l.length:=by simpa using hl.symm
  rw[hle];refine⟨_,l,rfl,WM.own hn hg,?_,hw⟩;unfold maxLen at hm;omega
theorem zJc{t:TypeId}{v:Value}{r:Reach}{base:Nat}(ht:(∃ n e,P.underlying t=some (.array n e))\/∃ fs,P.underlying t=some (.struct fs))(hv:Value.okWide P w r base t v):∃ cs,v=.agg cs:=by
 unfold Value.okWide at hv;rcases ht with⟨n,e,ht⟩|⟨fs,ht⟩
 ·rw[ht]at hv;obtain⟨cs,h1,_⟩:=hv;exact⟨cs,h1⟩
 ·rw[ht]at hv;obtain⟨cs,h1,_⟩:=hv;exact⟨cs,h1⟩
theorem zR3{σ:Nat->Option Pl}{l:List Value}{cs:Array Value}(hl:WG σ l (Value.agg cs).cells.toList):U9 σ (.agg l.toArray) (.agg cs):=by
 have:=VV hl;simpa [Value.cells]using this
end
def zD8{H:Type}:Nat->DataW H->List Value
 |_,.lit (.bool b)=>[.bool b]
 |_,.lit (.int k n)=>[.int k n]
 |n+1,.agg parts=>(parts.map (zD8 n)).flatten
 |_,_=>[]
def zCi(P:Program):Nat->TypeId->Bool
 |0,_=>false
 |n+1,t=>match P.underlying t with
  |some .bool|some (.int _)=>true
  |some (.struct fs)=>(match zBL P fs.toList 0 with|some m=>Nat.beq m (P.cellsOf t)|none=>false)&&fs.toList.all fun f=>zCi P n f.type
  |some (.array m e)=>Nat.beq (m*P.cellsOf e) (P.cellsOf t)&&zCi P n e
  |_=>false
theorem zEK:∀ (sz:List Nat) (as:List (List Value)) (cs:List Value),sz.sum=cs.length->as.length=sz.length->
  (∀ (i:Nat) a s,as[i]?=some a->sz[i]?=some s->a=(cs.drop (sz.take i).sum).take s)->as.flatten=cs
 |[],[],cs,hs,_,_=>by
  have:cs=[]:=Ga.1 (by simpa using hs.symm);subst this;rfl
 |[],_::_,_,_,hl,_=>by simp at hl
 |_::_,[],_,_,hl,_=>by simp at hl
 |s::sz,a::as,cs,hs,hl,h=>by
  have h0:=h 0 a s rfl rfl;simp only[GE,List.sum_nil,Q0]at h0;have ih:=zEK sz as (cs.drop s) (by simp at hs;simp;omega) (by simpa using hl) (fun i x y hx hy=>by
   have:=h (i+1) x y (by simpa using hx) (by simpa using hy);simpa [JE]using this)
  rw[GP,ih,h0,GH]
section
variable {P:Program}{H:Type}{enc:TypeId×Value->H}{w:World}{B base:Nat}{spare:Nat->Bool}{held:Bool}
theorem zOL:∀ (n:Nat) (t:TypeId) (cs:List Value) (x:DataW H×List MemPlace),DataW.trod enc P w base spare held n t cs=some x->∀ m,zCi P m t=true->cs=zD8 m x.1:=by
 intro n;induction n with
 |zero=>intro t cs x hx;simp[DataW.trod]at hx
 |succ n ih=>
  intro t cs x hx m hm;cases m with
  |zero=>cases hm
  |succ m=>
  cases hu:P.underlying t with
  |none=>simp[zCi,hu]at hm
  |some u=>
  cases u with
  |bool=>obtain⟨b,rfl,rfl⟩:=DataW.trod_bool hu hx;rfl
  |int k=>obtain⟨b,rfl,rfl,_⟩:=DataW.trod_int hu hx;rfl
  |struct fs=>
   obtain⟨xs,n',e,rfl,hl,hxs,hf⟩:=DataW.trod_struct hu hx;cases e;simp only[zCi,hu,QF,QX]at hm;obtain⟨hm1,hm2⟩:=hm;cases hcon:zBL P fs.toList 0 with
   |none=>simp[hcon]at hm1
   |some q=>
   simp only[hcon]at hm1;have hq:=QJ hm1;obtain⟨c1,c2⟩:=zBI hcon;simp only[zD8];refine(zEK (fs.toList.map fun f=>P.cellsOf f.type) _ cs (by omega) (by simp[hxs]) fun i a s ha hs=> ?_).symm;simp only[GU,QP]at ha hs;obtain⟨d,⟨y,hy,rfl⟩,rfl⟩:=ha;obtain⟨f,hfi,rfl⟩:=hs;have h1:=hf i f (by simpa using hfi);rw[hy]at h1;have:=c2 i f hfi;rw[Q6]at this;rw[<-this];exact(ih _ _ _ h1 m (hm2 f (Gd hfi))).symm
  |array k e=>
   obtain⟨xs,n',e',rfl,hl,hxs,hf⟩:=DataW.trod_array hu hx;cases e';simp only[zCi,hu,QF]at hm;obtain⟨hm1,hm2⟩:=hm;have hq:=QJ hm1;simp only[zD8];have hsum:∀ i,i<=k->((List.replicate k (P.cellsOf e)).take i).sum=i*P.cellsOf e:=fun i hi=>by
    rw[List.take_replicate,List.sum_replicate_nat,Gj hi]
   refine(zEK (List.replicate k (P.cellsOf e)) _ cs (by rw[List.sum_replicate_nat];omega) (by simp[hxs]) fun i a s ha hs=> ?_).symm;simp only[GU,QP]at ha;obtain⟨d,⟨y,hy,rfl⟩,rfl⟩:=ha;have hik:i<k:=by have:=(QQ.1 hy).1;omega
   have hs':s=P.cellsOf e:=by rw[List.getElem?_replicate,QI hik]at hs;exact(Q3 hs).symm
   subst hs';have h1:=hf i hik;rw[hy]at h1;rw[hsum i (by omega)];exact(ih _ _ _ h1 m hm2).symm
  |_=>simp[zCi,hu]at hm
theorem zJ0{nm:String}{g:Nat}{t:TypeId}{cs:Array Value}{n m:Nat}{d:DataW H}{p:List MemPlace}(hg:P.globalNamed nm=some g)(hv:w.var? P nm=some cs)
  (hd:DataW.trod enc P w base spare held n t cs.toList=some (d,p)) (hm:zCi P m t=true):∃ elem fr,w.heap[g]?=some (.cells (zD8 m d).toArray elem fr):=by
 have h1:=zOL n t _ _ hd m hm;simp only at h1;have h2:cs=(zD8 m d).toArray:=by rw[<-h1]
 unfold World.var? at hv;rw[hg,QS]at hv;split at hv
 ·rename_i c elem fr hh;cases hv;exact⟨elem,fr,by rw[hh,h2]⟩
 ·cases hv
theorem zVg(hg:P.globals.size<=w.heap.size)(l:List (Nat×List Value))(hl:∀ x∈l,x.1<P.globals.size/\yb x.2=true/\∃ elem fr,w.heap[x.1]?=some (.cells x.2.toArray elem fr)):
  W8 P w.heap.size (s0 P w) (Z6 P.globals.size l) w:=by
 refine⟨⟨fun g h=>⟨⟨g,0,match w.heap[g]? with|some (.cells c _ _)=>c.size|_=>0⟩,QI h,rfl,rfl⟩,fun g pl hp=> ?_,fun g o hg=> ?_,fun g o g' o' pl pl' hg hg' hne hp hp' hb=> ?_,QE _⟩,fun g o hg=> ?_,fun g hn=> ?_⟩
 ·unfold s0 at hp;split at hp
  ·cases hp;exact⟨by rw[zCs];assumption,by show g<w.heap.size;omega⟩
  ·cases hp
 ·obtain⟨cells,a,rfl⟩:=ZJ _ l g o hg;obtain⟨b1,b2,elem,fr,b3⟩:=hl _ a;refine⟨⟨g,0,match w.heap[g]? with|some (.cells c _ _)=>c.size|_=>0⟩,QI b1,?_,fun e=>by cases e⟩;refine⟨_,elem,fr,b3,by simp[b3],by simp only[b3];simp,fun i x hx=> ?_,fun e=>by cases e⟩;exact⟨x,by simpa using hx,VK _ (QX.1 b2 x (Gd hx))⟩
 ·obtain⟨c,a,rfl⟩:=ZJ _ l g o hg;obtain⟨c',a',rfl⟩:=ZJ _ l g' o' hg';exact⟨fun⟨x,_⟩=>Bool.noConfusion x,fun x=>Bool.noConfusion x,fun x=>Bool.noConfusion x⟩
 ·obtain⟨c,a,rfl⟩:=ZJ _ l g o hg;exact⟨_,_,rfl⟩
 ·cases hq:(Z6 P.globals.size l).get g with
  |none=>rfl
  |some o=>
   obtain⟨c,a,rfl⟩:=ZJ _ l g o hq;rw[zCs]at hn;have:=(hl _ a).1;simp only at this;omega
end
end Go.Am
