/- A part of the machine and of its soundness; proves no statement. -/
import Derived.Test.YtndffgfnndoifaaGreatDoorAmC
import Derived.OpenShut
import Derived.ChangeOld
import Derived.LaidMore
import Derived.MakeChecks
import Derived.HandedShaped
set_option linter.all false
namespace Go.Am
open Go.RowKit
section
variable {P:Program}
def zDo:Value->Value->Bool
 | .int k a,.int k' b=>decide (k=k')&&a == b
 | .bool a,.bool b=>a == b
 |_,_=>false
def zBP:List Value->List Value->Bool
 |[],[]=>true
 |a::l,b::m=>zDo a b&&zBP l m
 |_,_=>false
def zPq:∀ {a b:Value},zDo a b=true->a=b
 | .int k a,.int k' b,h=>by
  simp only[zDo,QI,Qc,JN]at h;rw[h.1,h.2]
 | .bool a,.bool b,h=>by
  simp only[zDo,JN]at h;rw[h]
def zMD:∀ {l m:List Value},zBP l m=true->l=m
 |[],[],_=>rfl
 |a::l,b::m,h=>by
  simp only[zBP,QI]at h;rw[zPq h.1,zMD h.2]
def Z3(n:Nat):List (Nat×List Value)->WA
 |[]=>zS8 n
 |(g,cells)::l=>{Z3 n l with tab:=(Z3 n l).tab.set g (.row cells false 0)}
def YM(h:WA)(l:List (Nat×List Value)):Bool:=l.all fun(g,cells)=>match h.get g with
 |some (.row c _ _)=>zBP c cells
 |_=>false
def zBw(l:List (Nat×List Value))(v:Value):List Value->WA->Option (Value×WA):=
 fun args h=>bif args.isEmpty&&YM h l then some (v,h)else none
def ZS(n:Nat):∀ (l:List (Nat×List Value)) (g:Nat) (o:Wp),(Z3 n l).get g=some o->∃ cells,(g,cells)∈l/\o=.row cells false 0
 |[],g,o,h=>by
  have h:(WG.leaf:WG Wp).get g=some o:=h;cases h
 |(k,cells)::l,g,o,h=>by
  have h2:((Z3 n l).tab.set k (.row cells false 0)).get g=some o:=h;rw[zU]at h2;by_cases e:g=k
  ·rw[QJ e]at h2;subst e;exact⟨cells,by simp,(Qm h2).symm⟩
  ·rw[QC e]at h2;obtain⟨c,a,b⟩:=ZS n l g o h2;exact⟨c,by simp[a],b⟩
def zD0(n:Nat):∀ (l:List (Nat×List Value)),(Z3 n l).n=n
 |[]=>rfl
 |_::l=>zD0 n l
def zTG{B:Nat}{σ:Nat->Option Pl}{h:WA}{w:World}(hg:P.globals.size<=w.heap.size)(hr:Wd P B σ h w)(l:List (Nat×List Value))(hl:∀ x∈l,x.1<P.globals.size/\yk x.2=true)
  (hh:YM h l=true):Wd P w.heap.size (s0 P w) (Z3 P.globals.size l) w:=by
 refine⟨fun g h=>⟨⟨g,0,match w.heap[g]? with|some (.cells c _ _)=>c.size|_=>0⟩,QJ h,rfl,rfl⟩,fun g pl hp=> ?_,fun g o hg=> ?_,fun g o g' o' pl bW hg ij ah hp dN hb=> ?_,QF _⟩
 ·unfold s0 at hp;split at hp
  ·cases hp;exact⟨by rw[zD0];assumption,by show g<w.heap.size;omega⟩
  ·cases hp
 ·obtain⟨cells,a,rfl⟩:=ZS _ l g o hg;obtain⟨b1,b2⟩:=hl _ a;refine⟨⟨g,0,match w.heap[g]? with|some (.cells c _ _)=>c.size|_=>0⟩,QJ b1,?_,fun e=>by cases e⟩;have:=QX.1 hh _ a;simp only at this;cases hq:h.get g with
  |none=>simp[hq]at this
  |some o=>
   cases o with
   |row c own lo=>
    simp only[hq]at this;have e:=zMD this;subst e;obtain⟨pl,c1,c2,c3⟩:=hr.live _ _ hq;obtain⟨bW,d1,d2,d3⟩:=hr.globals g b1;rw[c1]at d1;cases d1;obtain⟨cs,elem,fr,e1,e2,e3,e4,e5⟩:=c2;rw[d2]at e1;refine⟨cs,elem,fr,e1,by simp[e1],by simp only[e1];omega,fun i x hx=> ?_,fun e=>by cases e⟩;obtain⟨y,y1,y2⟩:=e4 i x hx;have hc:yX x=true:=QX.1 b2 x (Gb hx);have:=y2.closed_eq hc;subst this;exact⟨y,by simpa [d3]using y1,VK _ hc⟩
   |map es k=>simp[hq]at this
   |loop r=>simp[hq]at this
   |deferred ds=>simp[hq]at this
   |iter s p=>simp[hq]at this
 ·obtain⟨c,a,rfl⟩:=ZS _ l g o hg;obtain⟨c',a',rfl⟩:=ZS _ l g' o' ij;exact⟨fun⟨x,_⟩=>Bool.noConfusion x,fun x=>Bool.noConfusion x,fun x=>Bool.noConfusion x⟩
def zKN{tab:Ws}(cS:P.follows .mixedOrders=true)(cA:tab.Ok P){f n:Nat}{v:Value}{l:List (Nat×List Value)}(hv:yX v=true)(hl:∀ x∈l,x.1<P.globals.size/\yk x.2=true)
  (hx:((BE P tab n).call f [] (Z3 P.globals.size l)).map (·.1)=some v):zCW P f (zBw l v):=by
 intro e g args h v' h' hk;have hk:(if g=f then zBw l v args h else none)=some (v',h'):=hk;split at hk;case isFalse=>cases hk
 rename_i tZ;subst tZ;unfold zBw at hk;cases hc:(args.isEmpty&&YM h l)with
 |false=>simp[hc]at hk
 |true=>
 simp only[hc,cond_true,QA,QE]at hk;obtain⟨rfl,rfl⟩:=hk;rw[QI]at hc;obtain⟨hargs,jN⟩:=hc;cases hq:(BE P tab n).call g [] (Z3 P.globals.size l)with
 |none=>simp[hq]at hx
 |some q=>
 obtain⟨v1,h1⟩:=q;simp only[hq,QL,QA]at hx;subst hx;obtain⟨s1,s2⟩:=(sound cS cA n).2 g [] _ _ _ hq;have cY:args=[]:=List.isEmpty_iff.1 hargs;subst cY;refine⟨fun as w=>s1 as w,fun B σ w hr as jB kind cF=> ?_⟩;have has:as=#[]:=by
  have:=jB.1;simp at this;exact Array.eq_empty_of_size_eq_zero this.symm
 subst has;have CH:P.globals.size<=w.heap.size:=by
  by_cases h0:P.globals.size=0
  ·omega
  ·obtain⟨pl,a,b,_⟩:=hr.globals (P.globals.size-1) ω;have:=(hr.lt _ _ a).2;omega
 have bE:=zTG CH hr l hl jN;obtain⟨σ',w',cv,ev,c2,c3⟩:=s2 w.heap.size (s0 P w) w bE #[] (WQ.nil _) kind cF;have jE:cv=v1:=c2.closed_eq hv;subst jE;have bel:=ev.below bE;have keep:∀ b,b<w.heap.size->w'.heap[b]?=w.heap[b]?:=bel.block;refine⟨σ,w',cv,⟨.refl _,⟨hr.globals,fun g pl hg=>⟨(hr.lt g pl hg).1,QG (hr.lt g pl hg).2 bel.size⟩,fun g o hg=> ?_,hr.apart,QM hr.le bel.size⟩,ev.os,ev.tape,ev.output,ev.size,fun b hb _=>keep b hb,fun b hb=> .inr hb,QF _,fun _ _=>rfl⟩,VK _ hv,c3⟩;obtain⟨pl,a1,a2,a3⟩:=hr.live g o hg;exact⟨pl,a1,a2.keep (.refl _) (keep _ (hr.lt _ _ a1).2),a3⟩
def zKp{l:List (Nat×List Value)}{v:Value}(args:List Value)(h:WA)(v':Value)(h':WA)(hk:zBw l v args h=some (v',h')):Wl h.n h h':=by
 unfold zBw at hk;cases hc:(args.isEmpty&&YM h l)with
 |false=>simp[hc]at hk
 |true=>
 simp only[hc,cond_true,QA,QE]at hk;obtain⟨_,rfl⟩:=hk;exact⟨QF _,fun _ _ h=>h,rfl,fun _ h=>h,fun _ _ _ _=>rfl,fun _ _ h _=>h,fun h=>h⟩
end
def Ev(p:Nat->Prop):Prop:=∃ N,∀ n,N<=n->p n
def Ev.mono{p q:Nat->Prop}(h:Ev p)(k:∀ n,p n->q n):Ev q:=let⟨N,a⟩:=h;⟨N,fun n hn=>k n (a n hn)⟩
def Ev.and{p q:Nat->Prop}(h:Ev p)(k:Ev q):Ev fun n=>p n/\q n:=
 let⟨N,a⟩:=h;let⟨M,b⟩:=k;⟨max N M,fun n hn=>⟨a n ω,b n ω⟩⟩
def Ev.all{p:Nat->Prop}(h:∀ n,p n):Ev p:=⟨0,fun n _=>h n⟩
def Ev.up{p:Nat->Prop}(h:Ev fun n=>p (n+1)):Ev p:=
 let⟨N,a⟩:=h;⟨N+1,fun n hn=>by obtain⟨m,rfl⟩:∃ m,n=m+1:=⟨n-1,ω⟩;exact a m ω⟩
def Ev.get{p:Nat->Prop}(h:Ev p):∃ n,p n:=let⟨N,a⟩:=h;⟨N,a N (QF _)⟩
section
variable {P:Program}{tab:Ws}
def WX(P:Program)(tab:Ws)(c:WT)(fr:WM)(h:WA)(K:WL->WM->WA->Prop):Prop:=
 ∃ e ae h',K e ae h'/\Ev fun n=>(BE P tab n).exec c fr h=some (e,ae,h')
def WC(P:Program)(tab:Ws)(f:FuncId)(args:List Value)(h:WA)(Q:Value->WA->Prop):Prop:=
 ∃ v h',Q v h'/\Ev fun n=>(BE P tab n).call f args h=some (v,h')
def WV(P:Program)(tab:Ws)(f:Value)(args:List Value)(h:WA)(Q:Value->WA->Prop):Prop:=
 ∃ v h',Q v h'/\Ev fun n=>zBO (BE P tab n) f args h=some (v,h')
def WO(P:Program)(tab:Ws)(ops:List WE)(fr:WM)(h:WA)(Q:WM->WA->Prop):Prop:=
 ∃ ae h',Q ae h'/\Ev fun n=>yd P (BE P tab n) ops fr h=some (ae,h')
def WX.mono{c fr h K K'}(hx:WX P tab c fr h K)(hk:∀ e fr h,K e fr h->K' e fr h):WX P tab c fr h K':=
 let⟨e,ae,h',a,b⟩:=hx;⟨e,ae,h',hk _ _ _ a,b⟩
def WC.mono{f args h Q Q'}(hx:WC P tab f args h Q)(hk:∀ v h,Q v h->Q' v h):WC P tab f args h Q':=
 let⟨v,h',a,b⟩:=hx;⟨v,h',hk _ _ a,b⟩
def WV.mono{f args h Q Q'}(hx:WV P tab f args h Q)(hk:∀ v h,Q v h->Q' v h):WV P tab f args h Q':=
 let⟨v,h',a,b⟩:=hx;⟨v,h',hk _ _ a,b⟩
def WO.mono{ops fr h Q Q'}(hx:WO P tab ops fr h Q)(hk:∀ fr h,Q fr h->Q' fr h):WO P tab ops fr h Q':=
 let⟨v,h',a,b⟩:=hx;⟨v,h',hk _ _ a,b⟩
def zGR(P:Program)(tab:Ws)(b:WT)(K:WL->WM->WA->Prop):WL->WM->WA->Prop
 | .normal,fr,h=>WX P tab b fr h K
 | .exit i,fr,h=>K (.exit i) fr h
 | .goto l,fr,h=>K (.goto l) fr h
 | .ret,fr,h=>K .ret fr h
def YK(id:Nat)(K:WL->WM->WA->Prop):WL->WM->WA->Prop
 | .normal,fr,h=>K .normal fr h
 | .exit i,fr,h=>if i=id then K .normal fr h else K (.exit i) fr h
 | .goto l,fr,h=>K (.goto l) fr h
 | .ret,fr,h=>K .ret fr h
def zDa{α:Type}(μ:α->Nat)(I:α->WG Value->WA->Prop)(x:α)(ds:List Deferred)(rd:Option Nat)(K:WL->WM->WA->Prop):WL->WM->WA->Prop
 | .normal,fr,h=>fr.dfs=ds/\fr.round=rd/\∃ y,μ y<μ x/\I y fr.tm h
 | .exit i,fr,h=>K (.exit i) fr h
 | .goto l,fr,h=>K (.goto l) fr h
 | .ret,fr,h=>K .ret fr h
def Yg{b fr h K}(hx:WX P tab b fr h K):zGR P tab b K .normal fr h:=hx
def zGd{b i fr h K}(hx:K (.exit i) fr h):zGR P tab b K (.exit i) fr h:=hx
def zF1{b i fr h K}(hx:K (.goto i) fr h):zGR P tab b K (.goto i) fr h:=hx
def zHN{b fr h K}(hx:K .ret fr h):zGR P tab b K .ret fr h:=hx
def zCe{id fr h}{K:WL->WM->WA->Prop}(hx:K .normal fr h):YK id K .normal fr h:=hx
def zEY{id fr h}{K:WL->WM->WA->Prop}(hx:K .normal fr h):YK id K (.exit id) fr h:=by simp only[YK,Qz];exact hx
def zBq{i id fr h}{K:WL->WM->WA->Prop}(hi:Nat.beq i id=false)(hx:K (.exit i) fr h):YK id K (.exit i) fr h:=by
 have:¬i=id:=fun e=>by subst e;simp at hi
 simp only[YK,QC this];exact hx
def zEb{id l fr h}{K:WL->WM->WA->Prop}(hx:K (.goto l) fr h):YK id K (.goto l) fr h:=hx
def zF9{id fr h}{K:WL->WM->WA->Prop}(hx:K .ret fr h):YK id K .ret fr h:=hx
section
variable {α:Type}{μ:α->Nat}{I:α->WG Value->WA->Prop}{x:α}{ds:List Deferred}{rd:Option Nat}{K:WL->WM->WA->Prop}
def zA{t h}(y:α)(hm:μ y<μ x)(hx:I y t h):zDa μ I x ds rd K .normal ⟨t,ds,rd⟩ h:=⟨rfl,rfl,y,hm,hx⟩
def zFR{i fr h}(hx:K (.exit i) fr h):zDa μ I x ds rd K (.exit i) fr h:=hx
def zFL{i fr h}(hx:K (.goto i) fr h):zDa μ I x ds rd K (.goto i) fr h:=hx
def zHh{fr h}(hx:K .ret fr h):zDa μ I x ds rd K .ret fr h:=hx
end
def zx(n:Nat)(c fr h):(BE P tab (n+1)).exec c fr h=zo P (BE P tab n) c fr h:=rfl
def zEU(n:Nat)(f args h):(BE P tab (n+1)).call f args h=zBl P tab (BE P tab n) f args h:=rfl
def WX.skip{fr h K}(hx:K .normal fr h):WX P tab .skip fr h K:=⟨_,_,_,hx,Ev.up (Ev.all fun _=>rfl)⟩
def WX.label{l fr h K}(hx:K .normal fr h):WX P tab (.label l) fr h K:=⟨_,_,_,hx,Ev.up (Ev.all fun _=>rfl)⟩
def WX.exit{i fr h K}(hx:K (.exit i) fr h):WX P tab (.exit i) fr h K:=⟨_,_,_,hx,Ev.up (Ev.all fun _=>rfl)⟩
def WX.goto{i fr h K}(hx:K (.goto i) fr h):WX P tab (.goto i) fr h K:=⟨_,_,_,hx,Ev.up (Ev.all fun _=>rfl)⟩
def WX.ret{fr h K}(hx:K .ret fr h):WX P tab .ret fr h K:=⟨_,_,_,hx,Ev.up (Ev.all fun _=>rfl)⟩
def WX.region{ops fr h K}(hx:WO P tab ops fr h fun fr h=>K .normal fr h):WX P tab (.region ops) fr h K:=
 let⟨ae,h',a,b⟩:=hx
 ⟨_,_,_,a,Ev.up (b.mono fun n e=>by rw[zx];simp only[zo,e,QL])⟩
def WX.seq{a b fr h K}(hx:WX P tab a fr h (zGR P tab b K)):WX P tab (.seq a b) fr h K:=by
 obtain⟨e,ae,h',k,ev⟩:=hx;cases e with
 |normal=>
  obtain⟨e2,gB,h2,k2,dO⟩:=k;exact⟨e2,gB,h2,k2,Ev.up ((ev.and dO).mono fun n ⟨e1,e2⟩=>by rw[zx];simp only[zo,e1,e2])⟩
 |exit i=>exact⟨_,_,_,k,Ev.up (ev.mono fun n e=>by rw[zx];simp only[zo,e])⟩
 |goto i=>exact⟨_,_,_,k,Ev.up (ev.mono fun n e=>by rw[zx];simp only[zo,e])⟩
 |ret=>exact⟨_,_,_,k,Ev.up (ev.mono fun n e=>by rw[zx];simp only[zo,e])⟩
def WX.cond{c x y fr h K}(b:Bool)(hb:ev fr.tm c=.bool b)(h1:b=true->WX P tab x fr h K)(h2:b=false->WX P tab y fr h K):WX P tab (.cond c x y) fr h K:=by
 cases b with
 |true=>obtain⟨e,ae,h',k,ev⟩:=h1 rfl;exact⟨_,_,_,k,Ev.up (ev.mono fun n e=>by rw[zx];simp only[zo,hb,e])⟩
 |false=>obtain⟨e,ae,h',k,ev⟩:=h2 rfl;exact⟨_,_,_,k,Ev.up (ev.mono fun n e=>by rw[zx];simp only[zo,hb,e])⟩
def Xz{c x y fr h K}(hb:ev fr.tm c=.bool true)(h1:WX P tab x fr h K):WX P tab (.cond c x y) fr h K:=WX.cond true hb (fun _=>h1) (fun h=>by cases h)
def Xy{c x y fr h K}(hb:ev fr.tm c=.bool false)(h1:WX P tab y fr h K):WX P tab (.cond c x y) fr h K:=WX.cond false hb (fun h=>by cases h) (fun _=>h1)
def WX.block{id b fr h K}(hx:WX P tab b fr h (YK id K)):WX P tab (.block id b) fr h K:=by
 obtain⟨e,ae,h',k,ev⟩:=hx;cases e with
 |normal=>exact⟨_,_,_,k,Ev.up (ev.mono fun n e=>by rw[zx];simp only[zo,e])⟩
 |goto i=>exact⟨_,_,_,k,Ev.up (ev.mono fun n e=>by rw[zx];simp only[zo,e])⟩
 |ret=>exact⟨_,_,_,k,Ev.up (ev.mono fun n e=>by rw[zx];simp only[zo,e])⟩
 |exit i=>
  simp only[YK]at k;by_cases hi:i=id
  ·rw[QJ hi]at k;exact⟨_,_,_,k,Ev.up (ev.mono fun n e=>by rw[zx];simp only[zo,e,QJ hi])⟩
  ·rw[QC hi]at k;exact⟨_,_,_,k,Ev.up (ev.mono fun n e=>by rw[zx];simp only[zo,e,QC hi])⟩
def WX.loop{α:Type}(μ:α->Nat)(I:α->WG Value->WA->Prop)(x:α){b t ds rd h K}(h0:I x t h)
  (hb:∀ x t h,I x t h->WX P tab b ⟨t,ds,rd⟩ h (zDa μ I x ds rd K)):WX P tab (.loop b) ⟨t,ds,rd⟩ h K:=by
 generalize hm:μ x=m;induction m using Nat.strongRecOn generalizing x t h with
 |_ m ih=>
  obtain⟨e,ae,h',k,ev⟩:=hb x t h h0;cases e with
  |normal=>
   obtain⟨k1,k2,y,k3,k4⟩:=k;obtain⟨t',dT,uk⟩:=ae;simp only at k1 k2 k4;subst k1 k2;obtain⟨e2,gB,h2,kk,dO⟩:=ih (μ y) ω y k4 rfl;exact⟨e2,gB,h2,kk,Ev.up ((ev.and dO).mono fun n ⟨e1,e2⟩=>by rw[zx];simp only[zo,e1,e2])⟩
  |exit i=>exact⟨_,_,_,k,Ev.up (ev.mono fun n e=>by rw[zx];simp only[zo,e])⟩
  |goto i=>exact⟨_,_,_,k,Ev.up (ev.mono fun n e=>by rw[zx];simp only[zo,e])⟩
  |ret=>exact⟨_,_,_,k,Ev.up (ev.mono fun n e=>by rw[zx];simp only[zo,e])⟩
def zU1{α:Type}(l:Nat)(μ:α->Nat)(I:α->WG Value->WA->Prop)(x:α)(ds:List Deferred)(rd:Option Nat)(K:WL->WM->WA->Prop):WL->WM->WA->Prop
 | .normal,fr,h=>K .normal fr h
 | .exit i,fr,h=>K (.exit i) fr h
 | .goto m,fr,h=>m=l/\fr.dfs=ds/\fr.round=rd/\∃ y,μ y<μ x/\I y fr.tm h
 | .ret,fr,h=>K .ret fr h
section
variable {α:Type}{l:Nat}{μ:α->Nat}{I:α->WG Value->WA->Prop}{x:α}{ds:List Deferred}{rd:Option Nat}{K:WL->WM->WA->Prop}
end
def zQR(M:WG Value->WA->Prop)(ds:List Deferred)(rd:Option Nat)(K:WL->WM->WA->Prop):WL->WM->WA->Prop
 | .normal,fr,h=>fr.dfs=ds/\fr.round=rd/\M fr.tm h
 | .exit i,fr,h=>K (.exit i) fr h
 | .goto l,fr,h=>K (.goto l) fr h
 | .ret,fr,h=>K .ret fr h
section
variable {M:WG Value->WA->Prop}{ds:List Deferred}{rd:Option Nat}{K:WL->WM->WA->Prop}
def zJ{t h}(hx:M t h):zQR M ds rd K .normal ⟨t,ds,rd⟩ h:=⟨rfl,rfl,hx⟩
def zDd{fr h}(hx:K .ret fr h):zQR M ds rd K .ret fr h:=hx
end
def WD(P:Program)(tab:Ws)(ds:List Deferred)(h:WA)(Q:WA->Prop):Prop:=
 ∃ h',Q h'/\Ev fun n=>yi (BE P tab n) ds h=some h'
def WD.nil{h}{Q:WA->Prop}(hx:Q h):WD P tab [] h Q:=⟨h,hx,Ev.all fun _=>rfl⟩
def WD.collected{g ds h}{Q:WA->Prop}(hg:h.get g=some (.deferred (some [])))(hx:WD P tab ds (h.set g (.deferred none)) Q):
  WD P tab ({target:= .collected g,args:=#[]}::ds) h Q:=by
 obtain⟨h',a,b⟩:=hx;exact⟨h',a,b.mono fun n e=>by simp only[yi,hg,e]⟩
def zGN(P:Program)(tab:Ws)(rs:List (Nat×Option (Bool×Nat)))(Q:Value->WA->Prop):WL->WM->WA->Prop
 | .normal,fr,h=>WD P tab fr.dfs h fun h=>∃ vs,yI h fr.tm rs=some vs/\Q (one vs) h
 | .ret,fr,h=>WD P tab fr.dfs h fun h=>∃ vs,yI h fr.tm rs=some vs/\Q (one vs) h
 |_,_,_=>False
def zPt{rs Q t rd h}{vs:List Value}(hr:yI h t rs=some vs)(hx:Q (one vs) h):zGN P tab rs Q .ret ⟨t,[],rd⟩ h:=WD.nil ⟨vs,hr,hx⟩
def zJt{rs Q t rd h}{vs:List Value}(hr:yI h t rs=some vs)(hx:Q (one vs) h):zGN P tab rs Q .normal ⟨t,[],rd⟩ h:=WD.nil ⟨vs,hr,hx⟩
def WC.of{f args h Q nt rs body}(hs:tab.stub f=none)(hf:tab.code f=some ⟨nt,rs,body⟩)(hx:WX P tab body ⟨zCr args 0 .leaf,[],none⟩ h (zGN P tab rs Q)):WC P tab f args h Q:=by
 obtain⟨e,ae,h',k,ev⟩:=hx;cases e with
 |normal=>
  obtain⟨h2,⟨vs,k3,k4⟩,dO⟩:=k;exact⟨_,_,k4,Ev.up ((ev.and dO).mono fun n ⟨e1,e2⟩=>by rw[zEU];simp only[zBl,zDn,hs,hf,e1,cond_true,e2,k3])⟩
 |ret=>
  obtain⟨h2,⟨vs,k3,k4⟩,dO⟩:=k;exact⟨_,_,k4,Ev.up ((ev.and dO).mono fun n ⟨e1,e2⟩=>by rw[zEU];simp only[zBl,zDn,hs,hf,e1,cond_true,e2,k3])⟩
 |exit i=>exact k.elim
 |goto i=>exact k.elim
def WC.stub{f args h Q s v h'}(hs:tab.stub f=some s)(hx:s args h=some (v,h'))(hq:Q v h'):WC P tab f args h Q:=
 ⟨v,h',hq,Ev.up (Ev.all fun n=>by rw[zEU];simp only[zBl,hs,hx])⟩
def WV.func{f first cap args h Q}(hx:WC P tab f (first.toList++args++cap.toList) h Q):WV P tab (.func (.func f) first cap) args h Q:=hx
def WO.nil{fr h Q}(hx:Q fr h):WO P tab [] fr h Q:=⟨_,_,hx,Ev.all fun _=>rfl⟩
def WO.cons{o l fr h Q}{a6:WM}{h1:WA}(e:Ev fun n=>yO P (BE P tab n) o fr h=some (a6,h1))(hx:WO P tab l a6 h1 Q):WO P tab (o::l) fr h Q:=by
 obtain⟨ae,h',a,b⟩:=hx;exact⟨_,_,a,(e.and b).mono fun n ⟨e1,e2⟩=>by simp only[yd,e1,e2]⟩
def zAv:Wz->Bool
 | .call .. | .dfr .. | .dfrClear .. | .invoke .. | .recover=>false
 |_=>true
def zMe(ih:Ex){t h op}(hp:zAv op=true):WK P ih t h op=WK P Ex.bot t h op:=by
 cases op<;>first|rfl|cases hp
def zDv(ih:Ex){t rd h op v h'}(hp:zAv op=true)(e:WK P Ex.bot t h op=some (v,h')):zy P ih t rd h op=some (v,[],h'):=by
 rw[<-zMe ih hp]at e;cases op<;>first|(cases hp;done)|(simp only[zy,e])
def WO.op{d op l t ds rd h Q}(v:Value)(h':WA)(hp:zAv op=true)(e:WK P Ex.bot t h op=some (v,h'))(hx:WO P tab l ⟨t.set d v,ds,rd⟩ h' Q):
  WO P tab (⟨some d,none,op⟩::l) ⟨t,ds,rd⟩ h Q:=
 WO.cons (Ev.all fun n=>by simp only[yO,zP,cond_true,zDv _ hp e,val,Gf]) hx
def WO.o{d op l t ds rd h Q}{v:Value}{h':WA}(e:WK P Ex.bot t h op=some (v,h'))(hx:WO P tab l ⟨t.set d v,ds,rd⟩ h' Q)(hp:zAv op=true:=by rfl):
  WO P tab (⟨some d,none,op⟩::l) ⟨t,ds,rd⟩ h Q:=WO.op v h' hp e hx
def VR{op l t ds rd h Q}(v:Value)(h':WA)(hp:zAv op=true)(e:WK P Ex.bot t h op=some (v,h'))(hx:WO P tab l ⟨t,ds,rd⟩ h' Q):
  WO P tab (⟨none,none,op⟩::l) ⟨t,ds,rd⟩ h Q:=
 WO.cons (Ev.all fun n=>by simp only[yO,zP,cond_true,zDv _ hp e,val,Gf]) hx
def WO.call{d f args l t ds rd h Q}{as:List Value}(ha:args.map (ev t)=as)(hx:WC P tab f as h fun v h'=>WO P tab l ⟨t.set d v,ds,rd⟩ h' Q):
  WO P tab (⟨some d,none,.call (.func f) args⟩::l) ⟨t,ds,rd⟩ h Q:=by
 subst ha;obtain⟨v,h',a,b⟩:=hx;refine WO.cons (a6:=⟨t.set d v,ds,rd⟩) (h1:=h') (b.mono fun n e=> ?_) a;simp only[yO,zP,cond_true,zy,WK,ev,zBO,GW,Gf];rw[e];rfl
def UA{d f args l t ds rd h Q}{as:List Value}{fv:Value}(hf:ev t f=fv)(ha:args.map (ev t)=as)(hx:WV P tab fv as h fun v h'=>WO P tab l ⟨t.set d v,ds,rd⟩ h' Q):
  WO P tab (⟨some d,none,.call f args⟩::l) ⟨t,ds,rd⟩ h Q:=by
 subst ha;subst hf;obtain⟨v,h',a,b⟩:=hx;refine WO.cons (a6:=⟨t.set d v,ds,rd⟩) (h1:=h') (b.mono fun n e=> ?_) a;simp only[yO,zP,cond_true,zy,WK,e,val,Gf]
def XP{d j want op l t ds rd h Q}(hg:zC t j=.bool want)(hx:WO P tab (⟨d,none,op⟩::l) ⟨t,ds,rd⟩ h Q):WO P tab (⟨d,some (j,want),op⟩::l) ⟨t,ds,rd⟩ h Q:=by
 obtain⟨ae,h',a,b⟩:=hx;refine⟨_,_,a,b.mono fun n e=> ?_⟩;rw[<-e];simp only[yd,yO,zP,hg,beq_self_eq_true,cond_true]
def V5{d j want op l t ds rd h Q}(hg:zC t j=.bool (!want))(hx:WO P tab l ⟨t.set d undef,ds,rd⟩ h Q):WO P tab (⟨some d,some (j,want),op⟩::l) ⟨t,ds,rd⟩ h Q:=by
 refine WO.cons (Ev.all fun n=> ?_) hx;simp only[yO,zP,hg];cases want<;>rfl
def XV{d j want op l t ds rd h Q}(hg:zC t j=undef)(hx:WO P tab l ⟨t.set d undef,ds,rd⟩ h Q):WO P tab (⟨some d,some (j,want),op⟩::l) ⟨t,ds,rd⟩ h Q:=by
 refine WO.cons (Ev.all fun n=> ?_) hx;simp only[yO,zP,hg];rfl
def WO.invoke{d f name x args l t ds rd h Q}{ty:TypeId}{u:Value}{as:List Value}(hv:ev t x=.iface ty u)(hm:zAF P ty name=some f)(ha:args.map (ev t)=as)(hx:WC P tab f (u::as) h fun v h'=>WO P tab l ⟨t.set d v,ds,rd⟩ h' Q):
  WO P tab (⟨some d,none,.invoke x name args⟩::l) ⟨t,ds,rd⟩ h Q:=by
 subst ha;obtain⟨v,h',a,b⟩:=hx;refine WO.cons (a6:=⟨t.set d v,ds,rd⟩) (h1:=h') (b.mono fun n e=> ?_) a;simp only[yO,zP,cond_true,zy,WK,zAu,hv,hm,e,val,Gf]
def XF{d x l t ds rd h Q}{G rt ty:Nat}{b:Bool}(hv:ev t x=zIA G rt ty)(hb:Y4 P G rt ty=some b)(hx:WO P tab l ⟨t.set d (.bool b),ds,rd⟩ h Q):
  WO P tab (⟨some d,none,.invoke x "Comparable" []⟩::l) ⟨t,ds,rd⟩ h Q:=
 WO.cons (Ev.all fun n=>by
  have:zAu P (BE P tab n) "Comparable" (zIA G rt ty) [] h=some (.bool b,h):=by
   simp only[zAu,zI3,List.isEmpty_nil,beq_self_eq_true,GC,cond_true,hb,QL]
  simp only[yO,zP,cond_true,zy,WK,hv,Gc,this,val,Gf]) hx
end
attribute [irreducible] WX WC WV WO WD zGR YK zDa zU1 zQR zGN Ev
abbrev I(n:Int):Value:= .int .i64 n
def Wf(h:WA):Prop:=∀ g,h.n<=g->h.get g=none
structure WH(h h':WA):Prop where
 n:h.n<=h'.n
 get:∀ g,g<h.n->h'.get g=h.get g
 wf:Wf h->Wf h'
 mark:h'.mark=h.mark
 wr:h.mark<=h.n->h'.wr=h.wr
def WH.refl(h:WA):WH h h:=⟨QF _,fun _ _=>rfl,id,rfl,fun _=>rfl⟩
def WH.trans{a b c:WA}(h:WH a b)(k:WH b c):WH a c:=
 ⟨QM h.n k.n,fun g hg=>(k.get g (QG hg h.n)).trans (h.get g hg),fun w=>k.wf (h.wf w),k.mark.trans h.mark,fun hm=>(k.wr (by rw[h.mark];exact QM hm h.n)).trans (h.wr hm)⟩
def WH.push{a b:WA}(h:WH a b)(o:Wp):WH a (b.push o):=
 h.trans ⟨GU _,fun g hg=>by rw[zM,QC (Nat.ne_of_lt hg)],fun w g hg=>by
  rw[zM,QC (by simp[WA.push]at hg;omega)];exact w g (by simp[WA.push]at hg;omega),rfl,fun _=>rfl⟩
def zAy{h:WA}{g:Nat}(hg:h.mark<=g):h.log g=h.wr:=by
 have:Nat.ble h.mark g=true:=QK hg;simp[WA.log,this]
def WH.set{a b:WA}(h:WH a b){g:Nat}(hg:a.n<=g)(hb:g<b.n)(o:Wp):WH a (b.set g o):=
 ⟨h.n,fun k hk=>by rw[zn,QC ω];exact h.get k hk,fun w k hk=>by
  rw[zn,QC (by simp[WA.set]at hk;omega)];exact h.wf w k hk,h.mark,fun hm=>(zAy (by rw[h.mark];omega)).trans (h.wr hm)⟩
def WH.kill{a b:WA}(h:WH a b){g:Nat}(hg:a.n<=g):WH a (b.kill g):=
 ⟨h.n,fun k hk=>by rw[yn,QC ω];exact h.get k hk,fun w k hk=>by
  rw[yn];split
  ·rfl
  ·exact h.wf w k hk,h.mark,fun hm=>(zAy (by rw[h.mark];omega)).trans (h.wr hm)⟩
def Wf.lt{h:WA}(w:Wf h){g:Nat}{o:Wp}(hg:h.get g=some o):g<h.n:=by
 by_cases hn:h.n<=g
 ·rw[w g hn]at hg;cases hg
 ·omega
def Z1{h:WA}{g:Nat}{cells own lo}(hg:h.get g=some (.row cells own lo)):z0 h g=some cells:=by simp only[z0,hg]
def zKu{h:WA}{g:Nat}{cells}(hg:z0 h g=some cells):∃ own lo,h.get g=some (.row cells own lo):=by
 unfold z0 at hg;split at hg
 ·cases hg;exact⟨_,_,by assumption⟩
 ·cases hg
def WH.row{h h':WA}(e:WH h h'){g:Nat}(w:g<h.n){cells}(hg:z0 h g=some cells):z0 h' g=some cells:=by
 obtain⟨own,lo,a⟩:=zKu hg;exact Z1 ((e.get g w).trans a)
def yz{cells:List Value}{off n:Nat}(h:off+n<=cells.length):cut cells off n=some ((cells.drop off).take n):=by
 have:Nat.ble (off+n) cells.length=true:=QK h;simp only[cut,this,cond_true]
def zEE{cells l:List Value}{off n:Nat}(h:cut cells off n=some l):off+n<=cells.length/\l=(cells.drop off).take n:=by
 unfold cut at h;cases hb:Nat.ble (off+n) cells.length with
 |true=>simp only[hb,cond_true,QA]at h;exact⟨QP hb,h.symm⟩
 |false=>simp only[hb,QU]at h;cases h
def Wm(c:Nat)(h:WA)(v:Value)(n:Nat)(cells:List Value):Prop:=
 cells.length=n*c/\((n=0/\(v=.slice none 0 0\/∃ a k,v=.slice (some a) 0 k))\/
  ∃ g off row,v=.slice (some ⟨g,off,none⟩) n c/\z0 h g=some row/\cut row off (n*c)=some cells/\g<h.n)
def yH(v:Value)(j:Nat):Value:=match v with
 | .slice (some a) _ _=> .pointer (some ⟨a.block,a.off+j,none⟩)
 |_=>undef
section
variable {P:Program}{ih:Ex}{t:WG Value}{h h':WA}{v:Value}{c n:Nat}{cells:List Value}
def Wm.len(s:Wm c h v n cells):zOw v=some n:=by
 obtain⟨_,(⟨rfl,rfl|⟨a,k,rfl⟩⟩|⟨g,off,row,rfl,_,_,_⟩)⟩:=s<;>rfl
def Wm.ext(s:Wm c h v n cells)(e:WH h h'):Wm c h' v n cells:=by
 obtain⟨a,b⟩:=s;refine⟨a,b.imp id ?_⟩;rintro⟨g,off,row,e1,e2,e3,e4⟩;exact⟨g,off,row,e1,e.row e4 e2,e3,QG e4 e.n⟩
def Wm.nil(c:Nat)(h:WA):Wm c h (.slice none 0 0) 0 []:=⟨by simp,.inl ⟨rfl,.inl rfl⟩⟩
def Wm.own{g:Nat}{lo:Nat}{own:Bool}(aD:g<h.n)(hg:h.get g=some (.row cells own lo))(hn:cells.length=n*c):Wm c h (.slice (some ⟨g,0,none⟩) n c) n cells:=
 ⟨hn,.inr ⟨g,0,cells,rfl,Z1 hg,by rw[yz ω];simp[<-hn],aD⟩⟩
def zFG{x:Operand}(s:Wm c h v n cells)(hx:ev t x=v):WK P ih t h (.len x)=some (I n,h):=by
 subst hx;simp[WK,s.len]
def zMl{x y:Operand}{i:Nat}(s:Wm c h v n cells)(hx:ev t x=v)(hy:BX (ev t y)=some i)(hi:i<n):WK P ih t h (.idx c x y)=some (yH v (i*c),h):=by
 obtain⟨_,(⟨rfl,_⟩|⟨g,off,row,rfl,_,_,_⟩)⟩:=s
 ·omega
 ·have:Nat.ble (i+1) n=true:=QK hi;simp[WK,hx,hy,this,yH]
def zGI{cells l row:List Value}{off n j m:Nat}(hc:cut row off n=some cells)(hl:cut cells j m=some l):cut row (off+j) m=some l:=by
 obtain⟨a,rfl⟩:=zEE hc;obtain⟨b,rfl⟩:=zEE hl;have hl:((row.drop off).take n).length=n:=by simp;omega
 rw[yz ω];congr 1;rw[List.drop_take,JF,List.take_take,Gg ω]
def zFv{x:Operand}{agg:Bool}{m j:Nat}{l:List Value}{r:Value}(s:Wm c h v n cells)(hx:ev t x=yH v j)(hl:cut cells j m=some l)(hm:0<m)(hr:zI agg l=some r):
  WK P ih t h (.load agg m x)=some (r,h):=by
 obtain⟨hn,(⟨rfl,_⟩|⟨g,off,row,rfl,h1,h2,_⟩)⟩:=s
 ·have:=(zEE hl).1;simp at hn;subst hn;simp at this;omega
 ·simp[WK,hx,yH,h1,zGI h2 hl,hr]
def zSz{cells:List Value}{j:Nat}{r:Value}(hj:cells[j]?=some r):cut cells j 1=some [r]:=by
 have aD:j<cells.length:=(QS.1 hj).1;rw[yz ω,GB aD];simp only[Qv,GK];rw[(QS.1 hj).2]
def zOF{x:Operand}{j:Nat}{r:Value}(s:Wm c h v n cells)(hx:ev t x=yH v j)(hj:cells[j]?=some r):WK P ih t h (.load false 1 x)=some (r,h):=
 zFv s hx (zSz hj) Nat.one_pos rfl
def zSc{x:Operand}{off j:Nat}(hx:ev t x=yH v j)(hv:∃ a k m,v=.slice (some a) k m):WK P ih t h (.fld off x)=some (yH v (j+off),h):=by
 obtain⟨a,k,m,rfl⟩:=hv;simp[WK,hx,yH,Nat.add_assoc]
def Wm.some{i:Nat}(s:Wm c h v n cells)(hi:i<n):∃ a k m,v=.slice (some a) k m:=by
 obtain⟨hn,(⟨rfl,_⟩|⟨g,off,row,rfl,h1,h2,_⟩)⟩:=s
 ·omega
 ·exact⟨_,_,_,rfl⟩
def Zu(s:Wm c h v n cells):yq c h v=some cells:=by
 obtain⟨hn,(⟨rfl,rfl|⟨a,k,rfl⟩⟩|⟨g,off,row,rfl,h1,h2,_⟩)⟩:=s
 ·simp at hn;subst hn;rfl
 ·simp at hn;subst hn;simp[yq]
 ·unfold yq;cases hb:Nat.beq n 0 with
  |true=>have:=QN hb;subst this;simp at hn;subst hn;rfl
  |false=>simp[h1,h2,hb]
end
def Wc(h:WA)(v:Value)(l:List Int):Prop:=Wm 1 h v l.length (l.map I)
section
variable {P:Program}{ih:Ex}{t:WG Value}{h h':WA}{v:Value}{l:List Int}
def Wc.ext(s:Wc h v l)(e:WH h h'):Wc h' v l:=Wm.ext s e
def Wc.nil(h:WA):Wc h (.slice none 0 0) []:=Wm.nil 1 h
def Wc.own{g lo own}(aD:g<h.n)(hg:h.get g=some (.row (l.map I) own lo)):Wc h (.slice (some ⟨g,0,none⟩) l.length 1) l:=Wm.own aD hg (by simp)
def Wc.len{x:Operand}(s:Wc h v l)(hx:ev t x=v):WK P ih t h (.len x)=some (I l.length,h):=zFG s hx
def Wc.idx{x y:Operand}{i:Nat}(s:Wc h v l)(hx:ev t x=v)(hy:BX (ev t y)=some i)(hi:i<l.length):WK P ih t h (.idx 1 x y)=some (yH v i,h):=by
 have:=zMl (P:=P) (ih:=ih) s hx hy hi;rwa [G7]at this
def Wc.load{x:Operand}{i:Nat}{a:Int}(s:Wc h v l)(hx:ev t x=yH v i)(hi:l[i]?=some a):WK P ih t h (.load false 1 x)=some (I a,h):=
 zOF s hx (by simp[hi])
end
def Wq(h0 h:WA)(v:Value)(l:List Int):Prop:=∃ g,h0.n<=g/\g<h.n/\v=.slice (some ⟨g,0,none⟩) l.length 1/\h.get g=some (.row (l.map I) true 0)
def Wq.sl{h0 h v l}(o:Wq h0 h v l):Wc h v l:=by obtain⟨g,_,hl,rfl,hg⟩:=o;exact Wc.own hl hg
def Wq.ext{h0 h h' v l}(o:Wq h0 h v l)(e:WH h h'):Wq h0 h' v l:=by
 obtain⟨g,a,b,c,d⟩:=o;exact⟨g,a,QG b e.n,c,(e.get g b).trans d⟩
def S0:(∀ (t:WG Value) (k:Nat),ev t (.tmp k)=zC t k)/\(∀ (t:WG Value) (v:Value),ev t (.const v)=v)/\(∀ (t:WG Value) (g:Nat),ev t (.global g)=.pointer (some ⟨g,0,none⟩))/\
  (∀ (t:WG Value) (f:FuncId),ev t (.func f)=.func (.func f) #[] #[])/\(∀ (t:WG Value) (k:Nat) (v:Value) (j:Nat),zC (t.set k v) j=if j=k then v else zC t j)/\
  (∀ k,zC .leaf k=undef)/\(∀ k t,zCr [] k t=t)/\(∀ v l k t,zCr (v::l) k t=zCr l (k+1) (t.set k v))/\(∀ a b:Value,(if True then a else b)=a)/\(∀ a b:Value,(if False then a else b)=b):=
 ⟨fun _ _=>rfl,fun _ _=>rfl,fun _ _=>rfl,fun _ _=>rfl,zg,fun _=>rfl,fun _ _=>rfl,fun _ _ _ _=>rfl,fun _ _=>QJ trivial,fun _ _=>QC id⟩
def S1:(∀ i:Decidable True,@decide True i=true)/\(∀ i:Decidable False,@decide False i=false)/\((!true)=false)/\((!false)=true)/\((false=true)=False)/\((true=false)=False)/\(∀ {α:Type} (a:α),(a=a)=True):=
 ⟨fun _=>by simp,fun _=>by simp,rfl,rfl,by simp,by simp,fun a=>by simp⟩
def zPQ(k:IntKind)(a b:Int):zj .add (.int k a) (.int k b)=some (.int k (k.wrap (a+b))):=by simp[zj]
def zQ4(k:IntKind)(a b:Int):zj .sub (.int k a) (.int k b)=some (.int k (k.wrap (a-b))):=by simp[zj]
def zQY(k:IntKind)(a b:Int):zj .mul (.int k a) (.int k b)=some (.int k (k.wrap (a*b))):=by simp[zj]
def zPu(k:IntKind)(a b:Int):zj .lss (.int k a) (.int k b)=some (.bool (decide (a<b))):=by simp[zj]
def zQy(k:IntKind)(a b:Int):zj .leq (.int k a) (.int k b)=some (.bool (decide (a<=b))):=by simp[zj]
def zPK(k:IntKind)(a b:Int):zj .gtr (.int k a) (.int k b)=some (.bool (decide (b<a))):=by simp[zj]
def zO9(k:IntKind)(a b:Int):zj .geq (.int k a) (.int k b)=some (.bool (decide (b<=a))):=by simp[zj]
def zPc(k:IntKind)(a b:Int):zj .eql (.int k a) (.int k b)=some (.bool (decide (a=b))):=by
 simp[zj];rw[GX];simp
def zPk(k:IntKind)(a b:Int):zj .neq (.int k a) (.int k b)=some (.bool (!decide (a=b))):=by
 simp[zj];rw[GX];simp
def zC6{n:Int}(h1: -9223372036854775808<=n)(h2:n<=9223372036854775807):IntKind.wrap .i64 n=n:=by
 simp[IntKind.wrap,IntKind.signed,IntKind.bits];omega
section
variable {P:Program}{ih:Ex}{t:WG Value}{h:WA}{v:Value}{l:List Int}
def XR{x:Operand}{i:Nat}(hx:ev t x=yH v i)(s:Wc h v l)(hi:i<l.length):WK P ih t h (.load false 1 x)=some (I (l.getD i 0),h):=
 s.load hx (by simp[List.getD,QB hi])
def Xd{x y:Operand}{i:Nat}(hx:ev t x=v)(hy:BX (ev t y)=some i)(s:Wc h v l)(hi:i<l.length):WK P ih t h (.idx 1 x y)=some (yH v i,h):=s.idx hx hy hi
def Xg{x:Operand}(hx:ev t x=v)(s:Wc h v l):WK P ih t h (.len x)=some (I l.length,h):=s.len hx
end
section
variable {P:Program}{tab:Ws}
def zQT(ops:List (WE×List Nat)):Bool:=ops.all fun x=>x.2.isEmpty&&Nat.ble (zE x.1.op) 1
def zCv{op:Wz}(h:Nat.ble (zE op) 1=true):(zE op=0\/zE op=1)/\zAv op=true:=by
 cases op<;>first|exact⟨.inl rfl,rfl⟩|exact⟨.inr rfl,rfl⟩|cases h
def zKw{ih:Ex}{o:WE}{fr ae:WM}{h h':WA}(hk:Nat.ble (zE o.op) 1=true)(hx:yO P ih o fr h=some (ae,h'))(m:Nat)(wr:List Nat):
  h'=h/\yO P ih o fr {h with mark:=m,wr:=wr}=some (ae,{h with mark:=m,wr:=wr}):=by
 obtain⟨k,hp⟩:=zCv hk;unfold yO at hx |-;cases hw:zP fr.tm o.guard with
 |false=>simp only[hw,QU,QA,QE]at hx |-;obtain⟨rfl,rfl⟩:=hx;refine⟨rfl,?_⟩;first|trivial|exact⟨rfl,rfl⟩
 |true=>
  simp only[hw,cond_true]at hx |-;cases ha:WK P ih fr.tm h o.op with
  |none=>
   have:zy P ih fr.tm fr.round h o.op=none:=by cases cE:o.op<;>simp_all [zy,zAv]
   simp[this]at hx
  |some q=>
   obtain⟨v,h2⟩:=q;have e1:=zFU k ha;obtain⟨rfl,_,e2⟩:=e1;have e3:WK P ih fr.tm {h2 with mark:=m,wr:=wr} o.op=some (v,{h2 with mark:=m,wr:=wr}):=e2 _ (fun _ _=> .inl rfl);have v1:∀ {h h':WA},WK P ih fr.tm h o.op=some (v,h')->zy P ih fr.tm fr.round h o.op=some (v,[],h'):=fun {h h'} e=>by
    cases cE:o.op<;>first|(rw[cE]at hp;cases hp;done)|(rw[cE]at e;simp only[zy,e])
   rw[v1 ha]at hx;rw[v1 e3];simp only[QA,QE]at hx |-;obtain⟨rfl,rfl⟩:=hx;refine⟨rfl,?_⟩;first|trivial|exact⟨rfl,rfl⟩
def zDp{ih:Ex}:∀ {ops:List (WE×List Nat)} {i g:Nat} {rs:List (Nat×Nat×Option (Nat×Nat×List Value))} {bs:List (Nat×Nat)} {fr ae:WM} {h h':WA} (m:Nat) (wr:List Nat),zQT ops=true->yd P ih (ops.map (·.1)) fr h=some (ae,h')->
  h'=h/\∃ m' xB,yD P ih ops i g [] rs bs fr {h with mark:=m,wr:=wr}=some (ae,{h with mark:=m',wr:=xB},[]):=by
 intro ops;induction ops with
 |nil=>
  intro i g rs bs fr ae h h' m wr _ hx;simp only[Gc,yd,QA,QE]at hx;obtain⟨rfl,rfl⟩:=hx;exact⟨rfl,m,wr,rfl⟩
 |cons x ops cj=>
  obtain⟨o,un⟩:=x;intro i g rs bs fr ae h h' m wr hc hx;simp only[zQT,List.all_cons,QI]at hc;obtain⟨⟨gK,hk⟩,hc⟩:=hc;have gK:un=[]:=List.isEmpty_iff.1 gK;subst gK;simp only[Qi,yd]at hx;cases ha:yO P ih o fr h with
  |none=>simp[ha]at hx
  |some q=>
   obtain⟨a6,h1⟩:=q;simp only[ha]at hx;obtain⟨rfl,e⟩:=zKw hk ha h1.n [];have cG:Nat.beq (zE o.op) 3=false:=by
    rcases(zCv hk).1 with k|k<;>rw[k]<;>rfl
   obtain⟨e1,m',xB,e2⟩:=cj (i:=i+1) (g:=g) (rs:=match zc fr.tm o with|some g=>(i,g,Y6 fr.tm {h1 with mark:=h1.n,wr:=[]} o.op)::rs|none=>rs) (bs:=(i,h1.n)::bs) h1.n [] hc hx;refine⟨e1,m',xB,?_⟩;simp only[yD,yC,cG,QU];have e':yO P ih o fr {h1 with mark:=h1.n,wr:=[]}=some (a6,{h1 with mark:=h1.n,wr:=[]}):=e;rw[e'];simp only[List.all_nil,List.contains_nil,Ql,Qx,Qq,GC,Qj,Gc,GW];have hb:(bs.all fun _=>true)=true:=by simp
   have hr:(rs.all fun _=>true)=true:=by simp
   cases nF:zc fr.tm o with
   |none=>
    simp only[nF]at e2;simp only[hr,GC,cond_true];exact e2
   |some g'=>
    simp only[nF]at e2;simp only[hb,hr,GC,cond_true];exact e2
def Vf{ops fr h K}(hc:zQT ops=true)(hx:WO P tab (ops.map (·.1)) fr h fun fr h=>K .normal fr h):WX P tab (.regionC ops) fr h K:=by
 unfold WO at hx;obtain⟨ae,h',a,b⟩:=hx;have dy:(ops.filter fun x=>Nat.beq (zE x.1.op) 3).length=0:=by
  rw[Gm,List.filter_eq_nil_iff];intro x hx;have:=QX.1 hc x hx;simp only[QI]at this;rcases(zCv this.2).1 with k|k<;>rw[k]<;>simp
 have hh:h'=h:=by
  unfold Ev at b;obtain⟨N,b⟩:=b;exact(zDp (i:=0) (g:=0) (rs:=[]) (bs:=[]) 0 [] hc (b N (QF _))).1
 subst hh;unfold WX;refine⟨_,ae,_,a,Ev.up (b.mono fun n e=> ?_)⟩;obtain⟨_,m',xB,e2⟩:=zDp (i:=0) (g:=h'.n) (rs:=[]) (bs:=[]) h'.mark h'.wr hc e;rw[zx];simp only[zo,YZ,dy,JQ];rw[e2];simp
end
def WP(h0 h:WA)(v:Value)(l:List Int):Prop:=(v=.slice none 0 0/\l=[])\/Wq h0 h v l
def WP.sl{h0 h v l}(o:WP h0 h v l):Wc h v l:=by
 rcases o with⟨rfl,rfl⟩|o
 ·exact Wc.nil h
 ·exact o.sl
def WP.ext{h0 h h' v l}(o:WP h0 h v l)(e:WH h h'):WP h0 h' v l:=o.imp id fun o=>o.ext e
def Wq.since{h0 h1 h v l}(o:Wq h1 h v l)(e:WH h0 h1):Wq h0 h v l:=by
 obtain⟨g,a,b⟩:=o;exact⟨g,QM e.n a,b⟩
def WP.since{h0 h1 h v l}(o:WP h1 h v l)(e:WH h0 h1):WP h0 h v l:=o.imp id fun o=>o.since e
def Bm(v:Value)(h h':WA):Prop:=h.n<=h'.n/\∀ g,g<h.n->(∀ a n c,v=.slice (some a) n c->a.block≠g)->h'.get g=h.get g
def zB7(l:List Int):zK (l.map I)=true:=by simp[zK]
section
variable {P:Program}{tab:Ws}{t:WG Value}{h h0:WA}{ds:List Deferred}{rd:Option Nat}{l:List WE}{Q:WM->WA->Prop}{d:Nat}
def Zt(h:WA)(o:Wp):WH h (h.push o):=(WH.refl h).push o
def zT(h:WA)(o:Wp):(h.push o).get h.n=some o:=by rw[zM,QJ rfl]
def XU{n:Nat}{zero:List Value}{parts:List (Nat×Nat×Operand)}(xs:List Int)(hn:xs.length=n)(hf:ZE (zi zero n) (zr t parts)=some (xs.map I))
  (k:∀ v h',WH h h'->Wq h h' v xs->WO P tab l ⟨t.set d v,ds,rd⟩ h' Q):WO P tab (⟨some d,none,.buildSlice n 1 zero parts⟩::l) ⟨t,ds,rd⟩ h Q:=by
 refine WO.op _ _ rfl (by simp only[WK,hf,QL];rfl) (k _ _ (Zt _ _) ⟨h.n,QF _,by simp[WA.push],by rw[hn],zT _ _⟩)
def zBM(l:List Int)(i:Nat)(a:Int)(hi:i<l.length):zX (l.map I) i [I a]=(l.set i a).map I:=by
 unfold zX;rw[<-List.map_take,Qb,<-List.map_drop,List.set_eq_take_append_cons_drop,QJ hi];simp
def XQ{x y:Operand}{v:Value}{xs:List Int}{i:Nat}{a:Int}(hx:ev t x=yH v i)(hy:ev t y=I a)(o:Wq h0 h v xs)(e0:WH h0 h)(hi:i<xs.length)
  (k:∀ h',WH h0 h'->Wq h0 h' v (xs.set i a)->Bm v h h'->WO P tab l ⟨t,ds,rd⟩ h' Q):WO P tab (⟨none,none,.store 1 x y⟩::l) ⟨t,ds,rd⟩ h Q:=by
 obtain⟨g,g1,g2,rfl,g3⟩:=o;have aL:zk h ⟨g,i,none⟩ [I a]=some (h.set g (.row (zX (xs.map I) i [I a]) true 0)):=by
  have h1:Nat.ble (i+1) (xs.map I).length=true:=QK (by simp;omega);have h0:Nat.ble 0 i=true:=QK (QQ _);simp only[zk,g3,Qb,h1,h0,GC];rfl
 rw[zBM _ _ _ hi]at aL;refine VR undef (h.set g (.row ((xs.set i a).map I) true 0)) rfl ?_ (k _ (e0.set g1 g2 _) ⟨g,g1,g2,by simp,by rw[zn,QJ rfl]⟩ ⟨QF _,fun k _ hk=> ?_⟩)
 ·have hc:(I a).cells=#[I a]:=rfl;simp only[WK,hx,yH,hy,Q8,hc,aL,QL];rfl
 ·rw[zn,QC (fun e=>hk _ _ _ rfl e.symm)]
def Vz{x y:Operand}{v w:Value}{xs ys:List Int}(hx:ev t x=v)(hy:ev t y=w)(o:WP h0 h v xs)(s:Wc h w ys)(e0:WH h0 h)(ah:ys≠[])(hr:xs.length+ys.length<=4294967296)
  (k:∀ v' h',WH h0 h'->Wq h0 h' v' (xs++ys)->Bm v h h'->WO P tab l ⟨t.set d v',ds,rd⟩ h' Q):WO P tab (⟨some d,none,.append 1 x y⟩::l) ⟨t,ds,rd⟩ h Q:=by
 have aX:=Zu s;have aN:room=4294967296:=rfl;obtain⟨z,zs,rfl⟩:∃ z zs,ys=z::zs:=by
  cases ys with
  |nil=>exact absurd rfl ah
  |cons z zs=>exact⟨z,zs,rfl⟩
 have aT:zK (I z::zs.map I)=true:=zB7 (z::zs);have hlen:(I z::zs.map I).length / 1=(z::zs).length:=by simp
 rcases o with⟨rfl,rfl⟩|⟨g,g1,g2,rfl,g3⟩
 ·have h1:Nat.ble (z::zs).length room=true:=QK (by rw[aN];simpa using hr);refine WO.op (.slice (some ⟨h.n,0,none⟩) (z::zs).length 1) (h.push (.row ((z::zs).map I) true 0)) rfl ?_ (k _ _ (e0.push _) ⟨h.n,e0.n,by simp[WA.push],rfl,zT _ _⟩ ⟨GU _,fun k hk _=> ?_⟩)
  ·simp only[WK,hx,hy,yR,aX,Qi,aT,hlen,h1,Qe,cond_true,QU];rfl
  ·rw[zM,QC ω]
 ·have h1:Nat.ble (xs.length+(z::zs).length) room=true:=QK (by rw[aN];exact hr);have h2:cut (xs.map I) 0 (xs.length*1)=some (xs.map I):=by rw[yz (by simp)];simp[Q3]
  have hn:(h.kill g).n=h.n:=rfl;have h3:Nat.ble 0 (0+xs.length*1)=true:=QK (QQ _);refine WO.op (.slice (some ⟨h.n,0,none⟩) (xs.length+(z::zs).length) 1) ((h.kill g).push (.row (xs.map I++(z::zs).map I) true (0-0))) rfl ?_
   (k _ _ ((e0.kill g1).push _) ⟨h.n,e0.n,by simp[WA.push,WA.kill],by simp,?_⟩ ⟨GU _,fun k hk hv=> ?_⟩)
  ·simp only[WK,hx,hy,yR,aX,Qi,aT,hlen,h1,g3,h2,h3,Qe,cond_true,QU];rfl
  ·have:=zT (h.kill g) (.row (xs.map I++(z::zs).map I) true (0-0));rw[hn]at this;rw[this];simp
  ·rw[zM,QC (by rw[hn];omega),yn,QC (fun e=>hv _ _ _ rfl e.symm)]
section
variable {P:Program}{tab:Ws}{t:WG Value}{h h0:WA}{ds:List Deferred}{rd:Option Nat}{l:List WE}{Q:WM->WA->Prop}{d:Nat}
end
def yJ(p:Value)(j:Nat):Value:=match p with
 | .pointer (some a)=> .pointer (some ⟨a.block,a.off+j,none⟩)
 |_=>undef
def WB(h0 h:WA)(p:Value)(cells:List Value):Prop:=∃ g,h0.n<=g/\g<h.n/\p=.pointer (some ⟨g,0,none⟩)/\h.get g=some (.row cells true 0)
def WB.ext{h0 h h' p cells}(o:WB h0 h p cells)(e:WH h h'):WB h0 h' p cells:=by
 obtain⟨g,a,b,c,d⟩:=o;exact⟨g,a,QG b e.n,c,(e.get g b).trans d⟩
def WB.since{h0 h1 h p cells}(o:WB h1 h p cells)(e:WH h0 h1):WB h0 h p cells:=by
 obtain⟨g,a,b⟩:=o;exact⟨g,QM e.n a,b⟩
def WB.at0{h0 h p cells}(o:WB h0 h p cells):p=yJ p 0:=by obtain⟨g,_,_,rfl,_⟩:=o;rfl
section
variable {P:Program}{tab:Ws}{ih:Ex}{t:WG Value}{h h0:WA}{ds:List Deferred}{rd:Option Nat}{l:List WE}{Q:WM->WA->Prop}{d:Nat}{p:Value}{cells:List Value}
def UK{x:Operand}(cells:List Value)(hv:(ev t x).cells.toList=cells)(k:∀ p h',WH h h'->WB h h' p cells->WO P tab l ⟨t.set d p,ds,rd⟩ h' Q):
  WO P tab (⟨some d,none,.box x⟩::l) ⟨t,ds,rd⟩ h Q:=by
 subst hv;exact WO.op _ _ rfl (by simp only[WK]) (k _ _ (Zt _ _) ⟨h.n,QF _,by simp[WA.push],rfl,zT _ _⟩)
def XS{zero:List Value}(k:∀ p h',WH h h'->WB h h' p zero->WO P tab l ⟨t.set d p,ds,rd⟩ h' Q):
  WO P tab (⟨some d,none,.alloc zero⟩::l) ⟨t,ds,rd⟩ h Q:=
 WO.op _ _ rfl (by simp only[WK]) (k _ _ (Zt _ _) ⟨h.n,QF _,by simp[WA.push],rfl,zT _ _⟩)
def WB.idxArr{x y:Operand}{n c j i:Nat}(hx:ev t x=yJ p j)(hy:BX (ev t y)=some i)(o:WB h0 h p cells)(hi:i<n):WK P ih t h (.idxArr n c x y)=some (yJ p (j+i*c),h):=by
 obtain⟨g,_,_,rfl,_⟩:=o;have h1:Nat.ble (i+1) n=true:=QK hi;simp[WK,hx,hy,yJ,h1]
def Vm{x y:Operand}{n c i:Nat}(hx:ev t x=p)(hy:BX (ev t y)=some i)(o:WB h0 h p cells)(hi:i<n):WK P ih t h (.idxArr n c x y)=some (yJ p (i*c),h):=by
 have:=WB.idxArr (P:=P) (ih:=ih) (c:=c) (hx.trans o.at0) hy o hi;rwa [Q8]at this
def WB.fld{x:Operand}{off j:Nat}(hx:ev t x=yJ p j)(o:WB h0 h p cells):WK P ih t h (.fld off x)=some (yJ p (j+off),h):=by
 obtain⟨g,_,_,rfl,_⟩:=o;simp[WK,hx,yJ]
def XW{x:Operand}{off:Nat}(hx:ev t x=p)(o:WB h0 h p cells):WK P ih t h (.fld off x)=some (yJ p off,h):=by
 have:=WB.fld (P:=P) (ih:=ih) (off:=off) (hx.trans o.at0) o;rwa [Q8]at this
def WB.load{x:Operand}{agg:Bool}{n j:Nat}{r:Value}(hx:ev t x=yJ p j)(o:WB h0 h p cells)(hr:(cut cells j n).bind (zI agg)=some r):WK P ih t h (.load agg n x)=some (r,h):=by
 obtain⟨g,_,_,rfl,hg⟩:=o;simp[WK,hx,yJ,z0,hg,hr]
def Vj{x:Operand}{agg:Bool}{n:Nat}{r:Value}(hx:ev t x=p)(o:WB h0 h p cells)(hr:(cut cells 0 n).bind (zI agg)=some r):WK P ih t h (.load agg n x)=some (r,h):=
 WB.load (hx.trans o.at0) o hr
end
def BR(h0 h:WA)(m:Value)(es:List (Int×Int)):Prop:=
 ∃ g clock aF,h0.n<=g/\g<h.n/\m=.map (some g)/\h.get g=some (.map aF clock)/\aF.map (fun e=>(e.key,e.val))=es.map fun e=>(I e.1,I e.2)
def BR.ext{h0 h h' m es}(o:BR h0 h m es)(e:WH h h'):BR h0 h' m es:=by
 obtain⟨g,c,aF,a,b,x,y,z⟩:=o;exact⟨g,c,aF,a,QG b e.n,x,(e.get g b).trans y,z⟩
def BR.upd{h0 h h' m es v xs}(o:BR h0 h m es)(s:WP h0 h v xs)(u:Bm v h h'):BR h0 h' m es:=by
 obtain⟨g,c,aF,a,b,x,y,z⟩:=o;refine⟨g,c,aF,a,QG b u.1,x,(u.2 g b fun q n k hv e=> ?_).trans y,z⟩;rcases s with⟨rfl,_⟩|⟨g2,_,_,rfl,w⟩
 ·cases hv
 ·cases hv;simp only at e;subst e;rw[y]at w;cases w
def zEX{n:Int}:∀ {aF:List MapEntry} {es:List (Int×Int)} (i:Nat),aF.map (fun e=>(e.key,e.val))=es.map (fun e=>(I e.1,I e.2))->es.lookup n=none->Yo (I n) aF i=some none
 |[],[],_,_,_=>rfl
 |[],_::_,_,h,_=>by cases h
 |_::_,[],_,h,_=>by cases h
 |e::aF,(k,v)::es,i,h,hl=>by
  simp only[Qi,List.cons.injEq,QE]at h;rw[List.lookup_cons]at hl;split at hl
  ·cases hl
  ·rename_i hk;have:zDb (I n) e.key=some false:=by rw[h.1.1];simp only[zDb,Qz];rw[hk]
   simp only[Yo,this];exact zEX (i+1) h.2 hl
def zHs{n v:Int}:∀ {aF:List MapEntry} {es:List (Int×Int)} (i:Nat),aF.map (fun e=>(e.key,e.val))=es.map (fun e=>(I e.1,I e.2))->es.lookup n=some v->∃ j,Yo (I n) aF i=some (some (j,I v))
 |[],[],_,_,hl=>by cases hl
 |[],_::_,_,h,_=>by cases h
 |_::_,[],_,h,_=>by cases h
 |e::aF,(k,w)::es,i,h,hl=>by
  simp only[Qi,List.cons.injEq,QE]at h;rw[List.lookup_cons]at hl;split at hl
  ·rename_i hk;cases hl;have:zDb (I n) e.key=some true:=by rw[h.1.1];simp only[zDb,Qz];rw[hk]
   exact⟨i,by simp only[Yo,this,h.1.2]⟩
  ·rename_i hk;have:zDb (I n) e.key=some false:=by rw[h.1.1];simp only[zDb,Qz];rw[hk]
   obtain⟨j,hj⟩:=zHs (i+1) h.2 hl;exact⟨j,by simp only[Yo,this,hj]⟩
section
variable {P:Program}{tab:Ws}{t:WG Value}{h h0:WA}{ds:List Deferred}{rd:Option Nat}{l:List WE}{Q:WM->WA->Prop}{d:Nat}
def WO.mkMap(k:∀ m h',WH h h'->BR h h' m []->WO P tab l ⟨t.set d m,ds,rd⟩ h' Q):WO P tab (⟨some d,none,.mkMap⟩::l) ⟨t,ds,rd⟩ h Q:=
 WO.op _ _ rfl (by simp only[WK]) (k _ _ (Zt _ _) ⟨h.n,0,[],QF _,by simp[WA.push],rfl,zT _ _,rfl⟩)
def zQ0(m:Value)(h h':WA):Prop:=h.n<=h'.n/\∀ g,g<h.n->m≠ .map (some g)->h'.get g=h.get g
def Wq.updM{h0 h h' m es v xs}(s:Wq h0 h v xs)(o:BR h0 h m es)(u:zQ0 m h h'):Wq h0 h' v xs:=by
 obtain⟨g,a,b,rfl,c⟩:=s;refine⟨g,a,QG b u.1,rfl,(u.2 g b fun e=> ?_).trans c⟩;obtain⟨g2,_,_,_,_,x,y,_⟩:=o;rw[x]at e;cases e;rw[c]at y;cases y
def WP.updM{h0 h h' m es v xs}(s:WP h0 h v xs)(o:BR h0 h m es)(u:zQ0 m h h'):WP h0 h' v xs:=s.imp id fun s=>s.updM o u
end
end
inductive Rd{H:Type}(P:Program)(h:WA):TypeId->List Value->DataW H->Prop
 |bool {t} (b:Bool) (ht:P.underlying t=some .bool):Rd P h t [.bool b] (.lit (.bool b))
 |int {t k} (n:Int) (ht:P.underlying t=some (.int k)) (wf:(Lit.int k n).wf=true):Rd P h t [.int k n] (.lit (.int k n))
 |string {t} (s:ByteArray) (ht:P.underlying t=some .string) (hs:s.size<=maxLen):Rd P h t [.string s] (.lit (.string s.data.toList))
 |snil {t e} (ht:P.underlying t=some (.slice e)):Rd P h t [.slice none 0 0] .nil
 |szero {t e} (a:Addr) (spare:List (DataW H)) (ht:P.underlying t=some (.slice e)):Rd P h t [.slice (some a) 0 (P.cellsOf e)] (.slice [] spare)
 |slice {t e} (g:Nat) (cells:List Value) (elems spare:List (DataW H)) (ht:P.underlying t=some (.slice e)) (hg:h.get g=some (.row cells false 0)) (hn:g<h.n) (hl:cells.length=elems.length*P.cellsOf e)
   (hm:elems.length<=maxLen) (hr:∀ (i:Nat) (d:DataW H),elems[i]?=some d->Rd P h e ((cells.drop (i*P.cellsOf e)).take (P.cellsOf e)) d):
   Rd P h t [.slice (some ⟨g,0,none⟩) elems.length (P.cellsOf e)] (.slice elems spare)
 |struct {t fs} (cells:List Value) (parts:List (DataW H)) (ht:P.underlying t=some (.struct fs)) (hl:cells.length=P.cellsOf t) (hp:parts.length=fs.size)
   (hr:∀ (i:Nat) (f:Field) (d:DataW H),fs[i]?=some f->parts[i]?=some d->Rd P h f.type ((cells.drop f.offset).take (P.cellsOf f.type)) d):Rd P h t cells (.agg parts)
 |array {t n e} (cells:List Value) (parts:List (DataW H)) (ht:P.underlying t=some (.array n e)) (hl:cells.length=P.cellsOf t) (hp:parts.length=n)
   (hr:∀ (i:Nat) (d:DataW H),parts[i]?=some d->Rd P h e ((cells.drop (i*P.cellsOf e)).take (P.cellsOf e)) d):Rd P h t cells (.agg parts)
def Rd.ext{H:Type}{P:Program}{h h':WA}{t:TypeId}{cells:List Value}{d:DataW H}(r:Rd P h t cells d)(e:WH h h'):Rd P h' t cells d:=by
 induction r with
 |bool b ht=>exact .bool b ht
 |int n ht wf=>exact .int n ht wf
 |string s ht hs=>exact .string s ht hs
 |snil ht=>exact .snil ht
 |szero a sp ht=>exact .szero a sp ht
 |slice g cells elems sp ht hg hn hl hm _ ih=>exact .slice g cells elems sp ht ((e.get g hn).trans hg) (QG hn e.n) hl hm ih
 |struct cells parts ht hl hp _ ih=>exact .struct cells parts ht hl hp ih
 |array cells parts ht hl hp _ ih=>exact .array cells parts ht hl hp ih
def zCK(P:Program):List Field->Nat->Option Nat
 |[],n=>some n
 |f::l,n=>bif Nat.beq f.offset n then zCK P l (n+P.cellsOf f.type)else none
def zAZ(P:Program):Nat->TypeId->Bool
 |0,_=>false
 |n+1,t=>match P.underlying t with
  |some .bool|some (.int _)|some .string=>true
  |some (.slice e)=>Nat.ble 1 (P.cellsOf e)&&zAZ P n e
  |some (.struct fs)=>(match zCK P fs.toList 0 with|some m=>Nat.beq m (P.cellsOf t)|none=>false)&&fs.toList.all fun f=>zAZ P n f.type
  |some (.array m e)=>Nat.beq (m*P.cellsOf e) (P.cellsOf t)&&zAZ P n e
  |_=>false
def zPT(h:WA):Prop:=∀ g o,h.get g=some o->zCx o=false
section
variable {P:Program}{H:Type}{enc:TypeId×Value->H}{w:World}{B:Nat}
def zGT{σ:Nat->Option Pl}{h:WA}(hr:Wd P B σ h w)(dy:zPT h)(cX:∀ g o,h.get g=some o->∃ c l,o=.row c false l){cells:List Value}{pl:Pl}(hb:pl.b<w.heap.size)
  (ho:BY P σ pl (.row cells false 0) w):
  Wd P B (yu σ h.n pl) (h.push (.row cells false 0)) w/\zPT (h.push (.row cells false 0))/\(∀ g o,(h.push (.row cells false 0)).get g=some o->∃ c l,o=.row c false l)/\Le σ (yu σ h.n pl):=by
 have hle:Le σ (yu σ h.n pl):=YV hr pl;have bD:h.get h.n=none:=by
  cases hg:h.get h.n with
  |none=>rfl
  |some o=>obtain⟨pl,h1,_⟩:=hr.live _ _ hg;have:=(hr.lt _ _ h1).1;omega
 have iq:∀ g o,(h.push (.row cells false 0)).get g=some o->∃ c l,o=.row c false l:=fun g o hg=>by
  rw[zM]at hg;split at hg
  ·cases hg;exact⟨_,_,rfl⟩
  ·exact cX g o hg
 refine⟨⟨fun g hg=> ?_,fun g p hg=> ?_,fun g o hg=> ?_,fun g o g' o' p p' hg ij _ _ _ _=> ?_,hr.le⟩,fun g o hg=> ?_,iq,hle⟩
 ·obtain⟨p,h1,h2⟩:=hr.globals g hg;exact⟨p,hle _ _ h1,h2⟩
 ·unfold yu at hg;split at hg
  ·cases hg;rename_i e;subst e;exact⟨by simp[WA.push],hb⟩
  ·have:=hr.lt g p hg;exact⟨by simp[WA.push];omega,this.2⟩
 ·rw[zM]at hg;split at hg
  ·rename_i e;subst e;cases hg;exact⟨pl,yB _ _ _,ho.keep hle rfl,fun x=>by cases x⟩
  ·obtain⟨p,h1,h2,h3⟩:=hr.live g o hg;exact⟨p,hle _ _ h1,h2.keep hle rfl,h3⟩
 ·obtain⟨c,l,rfl⟩:=iq g o hg;obtain⟨c',l',rfl⟩:=iq g' o' ij;exact⟨fun⟨x,_⟩=>Bool.noConfusion x,fun x=>Bool.noConfusion x,fun x=>Bool.noConfusion x⟩
 ·obtain⟨c,l,rfl⟩:=iq g o hg;rfl
structure BP(P:Program)(B:Nat)(σ:Nat->Option Pl)(h:WA)(w:World):Prop where
 rel:Wd P B σ h w
 rows:∀ g o,h.get g=some o->∃ c l,o=.row c false l
 wf:Wf h
def BP.no{σ:Nat->Option Pl}{h:WA}(c:BP P B σ h w):zPT h:=fun g o hg=>by obtain⟨c,l,rfl⟩:=c.rows g o hg;rfl
def zGc:∀ {as:List (List Value)} {i:Nat} {a:List Value},as[i]?=some a->(as.flatten.drop ((as.take i).flatten.length)).take a.length=a
 |[],i,a,h=>by simp at h
 |x::as,0,a,h=>by simp at h;subst h;simp
 |x::as,i+1,a,h=>by
  simp at h;have:=zGc h;simp only[Qv,Gd,QH];rw[List.drop_append,List.drop_of_length_le ω,Gf];have e:x.length+(as.take i).flatten.length-x.length=(as.take i).flatten.length:=ω
  rw[e];exact this
def zGX{c:Nat}:∀ {as:List (List Value)},(∀ a∈as,a.length=c)->as.flatten.length=as.length*c
 |[],_=>by simp
 |x::as,h=>by
  have:=zGX (as:=as) (fun a ha=>h a (by simp[ha]));simp only[Gd,QH,Qn,this,h x (by simp)];rw[Gx];omega
def zB0(R:TypeId->List Value->DataW H->Prop)
  (one:∀ t cs d,R t cs d->∀ σ h,BP P B σ h w->∃ σ' h' cK,BP P B σ' h' w/\WH h h'/\Le σ σ'/\WQ σ' cK cs/\Rd P h' t cK d):
  ∀ (l:List (TypeId×List Value×DataW H)),(∀ p∈l,R p.1 p.2.1 p.2.2)->∀ σ h,BP P B σ h w->
   ∃ (σ':Nat->Option Pl) (h':WA) (as:List (List Value)),BP P B σ' h' w/\WH h h'/\Le σ σ'/\as.length=l.length/\∀ (i:Nat) (a:List Value) (p:TypeId×List Value×DataW H),as[i]?=some a->l[i]?=some p->WQ σ' a p.2.1/\Rd P h' p.1 a p.2.2:=by
 intro l;induction l with
 |nil=>intro _ σ h hc;exact⟨σ,h,[],hc,WH.refl h,.refl _,rfl,fun i a p ha=>by simp at ha⟩
 |cons p l ih=>
  intro hl σ h hc;obtain⟨σ1,h1,a1,c1,e1,l1,r1,d1⟩:=one _ _ _ (hl p (by simp)) σ h hc;obtain⟨σ2,h2,as,c2,e2,l2,n2,r2⟩:=ih (fun q hq=>hl q (by simp[hq])) σ1 h1 c1;refine⟨σ2,h2,a1::as,c2,e1.trans e2,l1.trans l2,by simp[n2],fun i a q ha hq=> ?_⟩;cases i with
  |zero=>simp at ha hq;subst ha hq;exact⟨r1.mono l2,d1.ext e2⟩
  |succ i=>simp at ha hq;exact r2 i a q ha hq
def zG7{σ:Nat->Option Pl}:∀ {as cs:List (List Value)},as.length=cs.length->(∀ (i:Nat) a c,as[i]?=some a->cs[i]?=some c->WQ σ a c)->WQ σ as.flatten cs.flatten
 |[],[],_,_=>WQ.nil _
 |a::as,c::cs,hl,h=>by
  simp only[Gd];exact(h 0 a c rfl rfl).append (zG7 (by simpa using hl) fun i x y hx hy=>h (i+1) x y (by simpa using hx) (by simpa using hy))
 |[],_::_,hl,_=>by simp at hl
 |_::_,[],hl,_=>by simp at hl
def zMV(a:Addr)(ha:a.spot=none)(i:Nat):a.add i=⟨a.block,a.off+i,none⟩:=by
 unfold Addr.add;split
 ·rename_i e;subst e;obtain⟨b,o,s⟩:=a;simp only at ha;subst ha;rfl
 ·rfl
def zKm{σ:Nat->Option Pl}:∀ (sz:List Nat) (as:List (List Value)) (cs:List Value),sz.sum=cs.length->as.length=sz.length->
  (∀ (i:Nat) a s,as[i]?=some a->sz[i]?=some s->WQ σ a ((cs.drop (sz.take i).sum).take s))->
  WQ σ as.flatten cs/\∀ (i:Nat) a s,as[i]?=some a->sz[i]?=some s->a.length=s/\(as.flatten.drop (sz.take i).sum).take s=a
 |[],[],cs,hs,_,_=>by
  have:cs=[]:=Gm.1 (by simpa using hs.symm);subst this;exact⟨WQ.nil _,fun i a s ha=>by simp at ha⟩
 |[],_::_,_,_,hl,_=>by simp at hl
 |_::_,[],_,_,hl,_=>by simp at hl
 |s::sz,a::as,cs,hs,hl,h=>by
  have h0:=h 0 a s rfl rfl;simp only[GK,List.sum_nil,GI]at h0;have xC:sz.sum+s=cs.length:=by simp at hs;omega
  have al:a.length=s:=by rw[h0.1];simp;omega
  obtain⟨i1,i2⟩:=zKm sz as (cs.drop s) (by simp;omega) (by simpa using hl) (fun i x y hx hy=>by
   have:=h (i+1) x y (by simpa using hx) (by simpa using hy);simpa [JF]using this)
  refine⟨?_,fun i x y hx hy=> ?_⟩
  ·have:=h0.append i1;simpa using this
  ·cases i with
   |zero=>
    simp at hx hy;subst hx hy;refine⟨al,?_⟩;simp only[GK,List.sum_nil,GI,Gd];rw[<-al];simp
   |succ i=>
    simp at hx hy;obtain⟨j1,j2⟩:=i2 i x y hx hy;refine⟨j1,?_⟩;simp only[Qv,G8,Gd];rw[List.drop_append,List.drop_of_length_le ω,Gf];have e:s+(sz.take i).sum-a.length=(sz.take i).sum:=ω
    rw[e];exact j2
def zCH:∀ {l:List Field} {n m:Nat},zCK P l n=some m->m=n+(l.map fun f=>P.cellsOf f.type).sum/\
  ∀ (i:Nat) (f:Field),l[i]?=some f->f.offset=n+((l.map fun f=>P.cellsOf f.type).take i).sum
 |[],n,m,h=>by simp[zCK]at h;subst h;exact⟨by simp,fun i f hf=>by simp at hf⟩
 |f::l,n,m,h=>by
  unfold zCK at h;cases hb:Nat.beq f.offset n with
  |false=>simp[hb]at h
  |true=>
   have eK:=QN hb;simp only[hb,cond_true]at h;obtain⟨h1,h2⟩:=zCH h;refine⟨by rw[h1];simp;omega,fun i g hg=> ?_⟩;cases i with
   |zero=>simp at hg;subst hg;simpa using eK
   |succ i=>simp at hg;rw[h2 i g hg];simp;omega
def zTz(L:List Value)(off c:Nat)(f:Nat->List Value):∀ len,(∀ i,i<len->f i=(L.drop (off+i*c)).take c)->((List.range len).map f).flatten=(L.drop off).take (len*c):=by
 intro len;induction len with
 |zero=>intro _;simp
 |succ n ih=>
  intro h;rw[JC,Q5,List.flatten_append,ih (fun i hi=>h i ω)];simp only[Qi,Gc,Gd,List.flatten_nil,GW];rw[h n ω,Gw,List.take_add,JF]
def zLa:∀ (n:Nat) (t:TypeId) (cs:List Value) (x:DataW H×List MemPlace),DataW.trod enc P w 0 (fun _=>true) true n t cs=some x->∀ (m:Nat),zAZ P m t=true->
  ∀ (σ:Nat->Option Pl) (h:WA),BP P B σ h w->∃ (σ':Nat->Option Pl) (h':WA) (cK:List Value),BP P B σ' h' w/\WH h h'/\Le σ σ'/\WQ σ' cK cs/\Rd P h' t cK x.1:=by
 intro n;induction n with
 |zero=>intro t cs x hx;simp[DataW.trod]at hx
 |succ n ih=>
  intro t cs x hx m hm σ h hc;have one:∀ t cs (d:DataW H),(∃ x,DataW.trod enc P w 0 (fun _=>true) true n t cs=some x/\x.1=d/\∃ m,zAZ P m t=true)->∀ σ h,BP P B σ h w->
    ∃ (σ':Nat->Option Pl) (h':WA) (cK:List Value),BP P B σ' h' w/\WH h h'/\Le σ σ'/\WQ σ' cK cs/\Rd P h' t cK d:=fun t cs d ⟨x,h1,h2,m,h3⟩ σ h hc=>by
   subst h2;exact ih t cs x h1 m h3 σ h hc
  cases m with
  |zero=>cases hm
  |succ m=>
  cases hu:P.underlying t with
  |none=>simp[zAZ,hu]at hm
  |some u=>
  cases u with
  |bool=>
   obtain⟨b,rfl,rfl⟩:=DataW.trod_bool hu hx;exact⟨σ,h,_,hc,WH.refl h,.refl _,.cons (.bool b) (.nil _),.bool b hu⟩
  |int k=>
   obtain⟨b,rfl,rfl,wf⟩:=DataW.trod_int hu hx;exact⟨σ,h,_,hc,WH.refl h,.refl _,.cons (.int k b) (.nil _),.int b hu wf⟩
  |string=>
   obtain⟨b,rfl,rfl,wf⟩:=DataW.trod_string hu hx;exact⟨σ,h,_,hc,WH.refl h,.refl _,.cons (.string b) (.nil _),.string b hu wf⟩
  |struct fs=>
   obtain⟨xs,n',e,rfl,hl,nG,hf⟩:=DataW.trod_struct hu hx;cases e;simp only[zAZ,hu,QI,QX]at hm;obtain⟨cC,bT⟩:=hm;cases fg:zCK P fs.toList 0 with
   |none=>simp[fg]at cC
   |some q=>
   simp only[fg]at cC;have hq:=QN cC;obtain⟨c1,c2⟩:=zCH fg;let l:List (TypeId×List Value×DataW H):=(fs.toList.zip xs).map fun p=>(p.1.type,(cs.drop p.1.offset).take (P.cellsOf p.1.type),p.2.1)
   have hlen:l.length=fs.size:=by simp[l,nG]
   have a9:∀ (i:Nat) p,l[i]?=some p->∃ f y,fs[i]?=some f/\xs[i]?=some y/\p=(f.type,(cs.drop f.offset).take (P.cellsOf f.type),y.1):=fun i p hp=>by
    simp only[l,GQ,QT]at hp;obtain⟨⟨f,y⟩,h1,h2⟩:=hp;rw[List.getElem?_zip_eq_some]at h1;exact⟨f,y,by simpa using h1.1,h1.2,h2.symm⟩
   obtain⟨σ',h',as,k1,k2,k3,k4,k5⟩:=zB0 _ one l (fun p hp=>by
    obtain⟨i,hi⟩:=Gu.1 hp;obtain⟨f,y,h1,h2,rfl⟩:=a9 i p hi;exact⟨y,by rw[hf i f h1,h2],rfl,m,bT f (Gb (by simpa using h1))⟩) σ h hc
   have hsz:∀ (i:Nat) s,(fs.toList.map fun f=>P.cellsOf f.type)[i]?=some s->∃ f y,fs[i]?=some f/\xs[i]?=some y/\s=P.cellsOf f.type/\l[i]?=some (f.type,(cs.drop f.offset).take (P.cellsOf f.type),y.1):=fun i s hs=>by
    simp only[GQ,QT]at hs;obtain⟨f,h1,h2⟩:=hs;have hi:i<fs.size:=by simpa using(QS.1 h1).1
    have hy:xs[i]?=some (xs[i]'ω):=QB _;refine⟨f,_,by simpa using h1,hy,h2.symm,?_⟩;simp only[l,GQ];have hz:(fs.toList.zip xs)[i]?=some (f,xs[i]'ω):=List.getElem?_zip_eq_some.2 ⟨h1,hy⟩;rw[hz];rfl
   obtain⟨p1,p2⟩:=zKm (σ:=σ') (fs.toList.map fun f=>P.cellsOf f.type) as cs ω (by rw[k4,hlen];simp) (fun i a s ha hs=>by
    obtain⟨f,y,h1,h2,rfl,h3⟩:=hsz i s hs;have:=(k5 i a _ ha h3).1;rw[c2 i f (by simpa using h1),Q8]at this;exact this)
   refine⟨σ',h',as.flatten,k1,k2,k3,p1,.struct _ _ hu (by rw[p1.1];exact hl) (by simpa using nG) fun i f d cI hd=> ?_⟩;simp only[GQ,QT]at hd;obtain⟨y,hy,rfl⟩:=hd;have hs:(fs.toList.map fun f=>P.cellsOf f.type)[i]?=some (P.cellsOf f.type):=by simp[cI]
   obtain⟨f',y',h1,h2,h4,h3⟩:=hsz i _ hs;rw[cI]at h1;cases h1;rw[hy]at h2;cases h2;have hi:i<as.length:=by rw[k4];exact(QS.1 h3).1
   have ha:as[i]?=some as[i]:=QB _;have e1:=(p2 i _ _ ha hs).2;rw[c2 i f (by simpa using cI),Q8,e1];exact(k5 i _ _ ha h3).2
  |array k e=>
   obtain⟨xs,n',e',rfl,hl,nG,hf⟩:=DataW.trod_array hu hx;cases e';simp only[zAZ,hu,QI]at hm;obtain⟨cC,bT⟩:=hm;have hq:=QN cC;let l:List (TypeId×List Value×DataW H):=(List.range k).map fun i=>(e,(cs.drop (i*P.cellsOf e)).take (P.cellsOf e),((xs[i]?).map (·.1)).getD .nil)
   have a9:∀ (i:Nat),i<k->∃ y,xs[i]?=some y/\l[i]?=some (e,(cs.drop (i*P.cellsOf e)).take (P.cellsOf e),y.1):=fun i hi=>by
    have hy:xs[i]?=some (xs[i]'ω):=QB _;exact⟨_,hy,by simp[l,hi,hy]⟩
   obtain⟨σ',h',as,k1,k2,k3,k4,k5⟩:=zB0 _ one l (fun p hp=>by
    obtain⟨i,hi⟩:=Gu.1 hp;have fh:i<k:=by have:=(QS.1 hi).1;simpa [l]using this
    obtain⟨y,h1,h2⟩:=a9 i fh;rw[h2]at hi;cases hi;exact⟨y,by rw[hf i fh,h1],rfl,m,bT⟩) σ h hc
   have fP:∀ i,i<=k->((List.replicate k (P.cellsOf e)).take i).sum=i*P.cellsOf e:=fun i hi=>by
    rw[List.take_replicate,List.sum_replicate_nat,Gg hi]
   obtain⟨p1,p2⟩:=zKm (σ:=σ') (List.replicate k (P.cellsOf e)) as cs (by rw[List.sum_replicate_nat];omega) (by rw[k4];simp[l]) (fun i a s ha hs=>by
    have fh:i<k:=by have:=(QS.1 hs).1;simpa using this
    obtain⟨y,h1,h2⟩:=a9 i fh;have xC:s=P.cellsOf e:=by rw[G3,QJ fh]at hs;exact(Qm hs).symm
    subst xC;rw[fP i ω];exact(k5 i a _ ha h2).1)
   refine⟨σ',h',as.flatten,k1,k2,k3,p1,.array _ _ hu (by rw[p1.1];exact hl) (by simpa using nG) fun i d hd=> ?_⟩;simp only[GQ,QT]at hd;obtain⟨y,hy,rfl⟩:=hd;have fh:i<k:=by have:=(QS.1 hy).1;omega
   obtain⟨y',h1,h2⟩:=a9 i fh;rw[hy]at h1;cases h1;have hi:i<as.length:=by rw[k4];exact(QS.1 h2).1
   have ha:as[i]?=some as[i]:=QB _;have e1:=(p2 i _ (P.cellsOf e) ha (by simp[fh])).2;rw[fP i ω]at e1;rw[e1];exact(k5 i _ _ ha h2).2
  |slice e=>
   simp only[zAZ,hu,QI]at hm;obtain⟨cC,bT⟩:=hm;have pt:1<=P.cellsOf e:=QP cC;rcases DataW.trod_slice hu hx with⟨rfl,rfl⟩|⟨a,len,cap,elems,rest,n',e',rfl,rfl,_,fu,aY,lj,gD,dZ,_⟩
   ·exact⟨σ,h,_,hc,WH.refl h,.refl _,.cons .snil (.nil _),.snil hu⟩
   cases e';obtain⟨me,CJ⟩:=dZ rfl;by_cases tQ:cap=0
   ·subst tQ;have:len=0:=ω
    subst this;have:elems=[]:=Gm.1 lj;subst this;exact⟨σ,h,_,hc,WH.refl h,.refl _,.cons (.szero a a _) (.nil _),.szero a _ hu⟩
   ·generalize f9:P.cellsOf e=c at *;have aP:∀ i,i<cap->∃ cs,w.cells? 0 (a.add (i*c)) c=some cs:=fun i hi=>by
     by_cases gb:i<len
     ·have:=gD i gb;rw[QB ω]at this;obtain⟨cs,h1,_⟩:=Option.bind_eq_some_iff.1 this;exact⟨cs,h1⟩
     ·have:=CJ (i-len) ω;rw[QB ω,show len+(i-len)=i by omega]at this;obtain⟨cs,h1,_⟩:=Option.bind_eq_some_iff.1 this;exact⟨cs,h1⟩
    have jO:a.spot=none:=by
     obtain⟨cs,h1⟩:=aP 0 ω;obtain⟨_,h2,h3⟩:=World.cells?_some h1;have h4:=h3 0 ω;rw[Nat.zero_mul]at h4;have h5:(a.add 0).add 0=a:=by simp[Addr.add]
     rw[h5,QB ω]at h4;exact World.cell?_spot h4
    have pU:∀ i j,(a.add i).add j=⟨a.block,a.off+i+j,none⟩:=fun i j=>by
     rw[zMV a jO,zMV _ rfl]
    obtain⟨bU,elem,fr,du⟩:∃ bU elem fr,w.heap[a.block]?=some (.cells bU elem fr):=by
     obtain⟨cs,h1⟩:=aP 0 ω;obtain⟨_,h2,h3⟩:=World.cells?_some h1;have h4:=h3 0 ω;rw[pU,QB ω]at h4;unfold World.cell? at h4;split at h4
     ·exact⟨_,_,_,by assumption⟩
     ·cases h4
    have fM:∀ k,w.cell? ⟨a.block,k,none⟩=bU[k]?:=fun k=>by simp[World.cell?,du]
    have gM:∀ i,i<cap->w.cells? 0 (a.add (i*c)) c=some ((bU.toList.drop (a.off+i*c)).take c)/\a.off+i*c+c<=bU.size:=fun i hi=>by
     obtain⟨cs,h1⟩:=aP i hi;obtain⟨_,h2,h3⟩:=World.cells?_some h1;have hb:a.off+i*c+c<=bU.size:=by
      have h4:=h3 (c-1) ω;rw[pU,fM,QB ω]at h4;have:=(JA.1 h4).1;omega
     refine⟨?_,hb⟩;rw[h1];congr 1;apply List.ext_getElem?;intro j;by_cases hj:j<c
     ·rw[<-h3 j hj,pU,fM,GE,QJ hj,GN];simp
     ·rw[JL ω,JL (by simp;omega)]
    have hbound:a.off+cap*c<=bU.size:=by
     have:=(gM (cap-1) ω).2;have e2:(cap-1)*c+c=cap*c:=by
      rw[<-Gw];congr 1;omega
     omega
    let l:List (TypeId×List Value×DataW H):=(List.range len).map fun i=>(e,(bU.toList.drop (a.off+i*c)).take c,((elems[i]?).map (·.1)).getD .nil)
    have a9:∀ (i:Nat),i<len->∃ y,elems[i]?=some y/\l[i]?=some (e,(bU.toList.drop (a.off+i*c)).take c,y.1):=fun i hi=>by
     have hy:elems[i]?=some (elems[i]'ω):=QB _;exact⟨_,hy,by simp[l,hi,hy]⟩
    obtain⟨σ',h',as,k1,k2,k3,k4,k5⟩:=zB0 _ one l (fun p hp=>by
     obtain⟨i,hi⟩:=Gu.1 hp;have fh:i<len:=by have:=(QS.1 hi).1;simpa [l]using this
     obtain⟨y,h1,h2⟩:=a9 i fh;rw[h2]at hi;cases hi;have:=gD i fh;rw[(gM i ω).1,h1]at this;exact⟨y,this,rfl,m,bT⟩) σ h hc
    have hlen:as.length=len:=by rw[k4];simp[l]
    have d8:∀ (i:Nat) x,as[i]?=some x->i<len/\x.length=c:=fun i x hx=>by
     have hi:i<len:=by have:=(QS.1 hx).1;omega
     obtain⟨y,_,h2⟩:=a9 i hi;have:=(k5 i x _ hx h2).1.1;refine⟨hi,?_⟩;rw[this];have:=(gM i ω).2;simp;omega
    have bF:as.flatten.length=len*c:=by
     rw[zGX (c:=c) (fun x hx=>by obtain⟨i,hi⟩:=Gu.1 hx;exact(d8 i x hi).2),hlen]
    have cZ:WQ σ' as.flatten ((bU.toList.drop a.off).take (len*c)):=by
     rw[<-zTz bU.toList a.off c (fun i=>(bU.toList.drop (a.off+i*c)).take c) len (fun i _=>rfl)];refine zG7 (by simp[hlen]) fun i x y hx hy=> ?_;obtain⟨hi,_⟩:=d8 i x hx;obtain⟨z,_,h2⟩:=a9 i hi;have kQ:y=(bU.toList.drop (a.off+i*c)).take c:=by
      rw[GQ,List.getElem?_range hi]at hy;exact(Qm hy).symm
     rw[kQ];exact(k5 i x _ hx h2).1
    let pl:Pl:=⟨a.block,a.off,bU.size⟩
    have Lq:len*c<=cap*c:=GH c fu;have fj:BY P σ' pl (.row as.flatten false 0) w:=by
     refine⟨bU,elem,fr,du,rfl,by show a.off+as.flatten.length<=bU.size;omega,fun i v hv=> ?_,fun x=>by cases x⟩;have hi:i<len*c:=by have:=(QS.1 hv).1;omega
     obtain⟨y,hy,Lr⟩:=cZ.get hv;rw[GE,QJ hi,GN]at hy;exact⟨y,by simpa using hy,Lr⟩
    obtain⟨r1,_,r3,r4⟩:=zGT k1.rel k1.no k1.rows (cells:=as.flatten) (pl:=pl) (JA.1 du).1 fj;refine⟨yu σ' h'.n pl,h'.push (.row as.flatten false 0),[.slice (some ⟨h'.n,0,none⟩) (elems.map (·.1)).length c],⟨r1,r3,(Zt h' _).wf k1.wf⟩,k2.trans (Zt h' _),k3.trans r4,?_,?_⟩
    ·refine .cons ?_ (.nil _);obtain⟨b,o,sp⟩:=a;simp only at jO;subst jO;have:=WI.slice (σ:=yu σ' h'.n pl) (g:=h'.n) (off:=0) (len:=len) (c:=c) (cap:=cap) (pl:=pl) (yB _ _ _) ω fu hbound;simpa [pl,lj]using this
    ·subst f9;refine .slice h'.n as.flatten _ _ hu (zT _ _) (by simp[WA.push]) (by rw[bF];simp[lj]) (by simp[lj];omega) fun i d hd=> ?_;simp only[GQ,QT]at hd;obtain⟨y,hy,rfl⟩:=hd;have hi:i<len:=by have:=(QS.1 hy).1;omega
     obtain⟨y',h1,h2⟩:=a9 i hi;rw[hy]at h1;cases h1;have ha:as[i]?=some (as[i]'ω):=QB _;have hp:=zGc ha;have fQ:(as.take i).flatten.length=i*P.cellsOf e:=by
      rw[zGX (c:=P.cellsOf e) (fun x hx=>by
       obtain⟨j,hj⟩:=Gu.1 (GO hx);exact(d8 j x hj).2)]
      simp[Gg (by omega:i<=as.length)]
     rw[fQ,(d8 i _ ha).2]at hp;rw[hp];exact(k5 i _ _ ha h2).2.ext (Zt h' _)
  |_=>simp[zAZ,hu]at hm
end
section
variable {P:Program}{H:Type}{enc:TypeId×Value->H}{w:World}{B:Nat}{σ:Nat->Option Pl}{h:WA}
def zNl{tab:Ws}(cS:P.follows .mixedOrders=true)(cA:tab.Ok P)(hc:BP P B σ h w){f:FuncId}{args:List Value}{as:Array Value}(hl:WQ σ args as.toList)
  (hx:WC P tab f args h fun r _=>r=.bool true):Calls P f as w fun e w'=>e=.returned (.bool true)/\Below B w w':=by
 unfold WC at hx;obtain⟨v,h',rfl,ev⟩:=hx;obtain⟨n,hn⟩:=ev.get;exact zNn cS cA (n:=n) (by rw[hn];rfl) hc.rel hl
def zGx{t:TypeId}{v:Value}{d:DataW H}{p:List MemPlace}(hd:DataW.Trod enc P w 0 (fun _=>true) true t v d p)(m:Nat)(hm:zAZ P m t=true)(hc:BP P B σ h w):
  ∃ (σ':Nat->Option Pl) (h':WA) (cK:List Value),BP P B σ' h' w/\WH h h'/\Le σ σ'/\WQ σ' cK v.cells.toList/\Rd P h' t cK d:=by
 obtain⟨n,hn⟩:=hd;exact zLa n t _ _ hn m hm σ h hc
def zPV{σ:Nat->Option Pl}{av v:Value}(hl:WQ σ [av] v.cells.toList)(hv:v.cells.toList=[v]):WI σ av v:=by
 rw[hv]at hl;exact hl.2 0 _ _ rfl rfl
def Z7{t:TypeId}{k:IntKind}{cK:List Value}{d:DataW H}(r:Rd P h t cK d)(ht:P.underlying t=some (.int k)):∃ n,cK=[.int k n]/\(Lit.int k n).wf=true:=by
 cases r with
 |int n aJ wf=>rw[ht]at aJ;cases aJ;exact⟨n,rfl,wf⟩
 |bool _ aJ=>rw[ht]at aJ;cases aJ
 |string _ aJ=>rw[ht]at aJ;cases aJ
 |snil aJ=>rw[ht]at aJ;cases aJ
 |szero _ _ aJ=>rw[ht]at aJ;cases aJ
 |slice _ _ _ _ aJ=>rw[ht]at aJ;cases aJ
 |struct _ _ aJ=>rw[ht]at aJ;cases aJ
 |array _ _ aJ=>rw[ht]at aJ;cases aJ
def zFs{t e:TypeId}{cK:List Value}{d:DataW H}(r:Rd P h t cK d)(ht:P.underlying t=some (.slice e)):
  (cK=[.slice none 0 0]/\d=.nil)\/(∃ a sp,cK=[.slice (some a) 0 (P.cellsOf e)]/\d=.slice [] sp)\/
  ∃ g cells elems sp,cK=[.slice (some ⟨g,0,none⟩) elems.length (P.cellsOf e)]/\d=.slice elems sp/\h.get g=some (.row cells false 0)/\g<h.n/\cells.length=elems.length*P.cellsOf e/\elems.length<=maxLen/\
   ∀ (i:Nat) (d:DataW H),elems[i]?=some d->Rd P h e ((cells.drop (i*P.cellsOf e)).take (P.cellsOf e)) d:=by
 cases r with
 |int n aJ wf=>rw[ht]at aJ;cases aJ
 |bool _ aJ=>rw[ht]at aJ;cases aJ
 |string _ aJ=>rw[ht]at aJ;cases aJ
 |snil aJ=>exact .inl ⟨rfl,rfl⟩
 |szero a sp aJ=>rw[ht]at aJ;cases aJ;exact .inr (.inl ⟨a,sp,rfl,rfl⟩)
 |slice g cells elems sp aJ hg hn hl hm hr=>rw[ht]at aJ;cases aJ;exact .inr (.inr ⟨g,cells,elems,sp,rfl,rfl,hg,hn,hl,hm,hr⟩)
 |struct _ _ aJ=>rw[ht]at aJ;cases aJ
 |array _ _ aJ=>rw[ht]at aJ;cases aJ
def zR2{t e:TypeId}{cK:List Value}{d:DataW H}(r:Rd P h t cK d)(ht:P.underlying t=some (.slice e))(he:P.underlying e=some (.int .i64))(hc:P.cellsOf e=1):
  ∃ av l,cK=[av]/\Wc h av l/\(l.length:Int)<=9223372036854775807/\∀ a∈l,(Lit.int .i64 a).wf=true:=by
 rcases zFs r ht with⟨rfl,_⟩|⟨a,sp,rfl,_⟩|⟨g,cells,elems,sp,rfl,rfl,hg,hn,hl,hm,hr⟩
 ·exact⟨_,[],rfl,Wc.nil h,by simp,fun a ha=>by cases ha⟩
 ·refine⟨_,[],rfl,?_,by simp,fun a ha=>by cases ha⟩;exact⟨by simp,.inl ⟨rfl,.inr ⟨_,_,rfl⟩⟩⟩
 ·rw[hc]at hl hr |-;simp only[G7]at hl hr;have key:∀ i,i<cells.length->∃ n,cells[i]?=some (I n)/\(Lit.int .i64 n).wf=true:=fun i hi=>by
   have hd:elems[i]?=some (elems[i]'ω):=QB _;obtain⟨n,e1,e2⟩:=Z7 (hr i _ hd) he;rw[GB hi,Qv,GK]at e1;exact⟨n,by rw[QB hi];simpa using e1,e2⟩
  obtain⟨l,rfl,hw⟩:∃ l:List Int,cells=l.map I/\∀ a∈l,(Lit.int .i64 a).wf=true:=by
   clear hg hl hr;induction cells with
   |nil=>exact⟨[],rfl,fun a ha=>by cases ha⟩
   |cons x xs ih=>
    obtain⟨n,e1,e2⟩:=key 0 (by simp);obtain⟨l,rfl,e3⟩:=ih fun i hi=>by
     have:=key (i+1) (by simpa using hi);simpa using this
    simp at e1;subst e1;exact⟨n::l,rfl,fun a ha=>by
     rcases Qt.1 ha with rfl|ha
     ·exact e2
     ·exact e3 a ha⟩
  have hle:elems.length=l.length:=by simpa using hl.symm
  rw[hle];refine⟨_,l,rfl,Wc.own hn hg,?_,hw⟩;unfold maxLen at hm;omega
def zLF{t:TypeId}{v:Value}{r:Reach}{base:Nat}(ht:(∃ n e,P.underlying t=some (.array n e))\/∃ fs,P.underlying t=some (.struct fs))(hv:Value.okWide P w r base t v):∃ cs,v=.agg cs:=by
 unfold Value.okWide at hv;rcases ht with⟨n,e,ht⟩|⟨fs,ht⟩
 ·rw[ht]at hv;obtain⟨cs,h1,_⟩:=hv;exact⟨cs,h1⟩
 ·rw[ht]at hv;obtain⟨cs,h1,_⟩:=hv;exact⟨cs,h1⟩
def zR8{σ:Nat->Option Pl}{l:List Value}{cs:Array Value}(hl:WQ σ l (Value.agg cs).cells.toList):WI σ (.agg l.toArray) (.agg cs):=by
 have:=VW hl;simpa [Value.cells]using this
end
def zEv{H:Type}:Nat->DataW H->List Value
 |_,.lit (.bool b)=>[.bool b]
 |_,.lit (.int k n)=>[.int k n]
 |n+1,.agg parts=>(parts.map (zEv n)).flatten
 |_,_=>[]
def zCj(P:Program):Nat->TypeId->Bool
 |0,_=>false
 |n+1,t=>match P.underlying t with
  |some .bool|some (.int _)=>true
  |some (.struct fs)=>(match zCK P fs.toList 0 with|some m=>Nat.beq m (P.cellsOf t)|none=>false)&&fs.toList.all fun f=>zCj P n f.type
  |some (.array m e)=>Nat.beq (m*P.cellsOf e) (P.cellsOf t)&&zCj P n e
  |_=>false
def zGb:∀ (sz:List Nat) (as:List (List Value)) (cs:List Value),sz.sum=cs.length->as.length=sz.length->
  (∀ (i:Nat) a s,as[i]?=some a->sz[i]?=some s->a=(cs.drop (sz.take i).sum).take s)->as.flatten=cs
 |[],[],cs,hs,_,_=>by
  have:cs=[]:=Gm.1 (by simpa using hs.symm);subst this;rfl
 |[],_::_,_,_,hl,_=>by simp at hl
 |_::_,[],_,_,hl,_=>by simp at hl
 |s::sz,a::as,cs,hs,hl,h=>by
  have h0:=h 0 a s rfl rfl;simp only[GK,List.sum_nil,GI]at h0;have ih:=zGb sz as (cs.drop s) (by simp at hs;simp;omega) (by simpa using hl) (fun i x y hx hy=>by
   have:=h (i+1) x y (by simpa using hx) (by simpa using hy);simpa [JF]using this)
  rw[Gd,ih,h0,GR]
section
variable {P:Program}{H:Type}{enc:TypeId×Value->H}{w:World}{B base:Nat}{spare:Nat->Bool}{held:Bool}
def zQh:∀ (n:Nat) (t:TypeId) (cs:List Value) (x:DataW H×List MemPlace),DataW.trod enc P w base spare held n t cs=some x->∀ m,zCj P m t=true->cs=zEv m x.1:=by
 intro n;induction n with
 |zero=>intro t cs x hx;simp[DataW.trod]at hx
 |succ n ih=>
  intro t cs x hx m hm;cases m with
  |zero=>cases hm
  |succ m=>
  cases hu:P.underlying t with
  |none=>simp[zCj,hu]at hm
  |some u=>
  cases u with
  |bool=>obtain⟨b,rfl,rfl⟩:=DataW.trod_bool hu hx;rfl
  |int k=>obtain⟨b,rfl,rfl,_⟩:=DataW.trod_int hu hx;rfl
  |struct fs=>
   obtain⟨xs,n',e,rfl,hl,nG,hf⟩:=DataW.trod_struct hu hx;cases e;simp only[zCj,hu,QI,QX]at hm;obtain⟨cC,bT⟩:=hm;cases fg:zCK P fs.toList 0 with
   |none=>simp[fg]at cC
   |some q=>
   simp only[fg]at cC;have hq:=QN cC;obtain⟨c1,c2⟩:=zCH fg;simp only[zEv];refine(zGb (fs.toList.map fun f=>P.cellsOf f.type) _ cs ω (by simp[nG]) fun i a s ha hs=> ?_).symm;simp only[GQ,QT]at ha hs;obtain⟨d,⟨y,hy,rfl⟩,rfl⟩:=ha;obtain⟨f,cI,rfl⟩:=hs;have h1:=hf i f (by simpa using cI);rw[hy]at h1;have:=c2 i f cI;rw[Q8]at this;rw[<-this];exact(ih _ _ _ h1 m (bT f (Gb cI))).symm
  |array k e=>
   obtain⟨xs,n',e',rfl,hl,nG,hf⟩:=DataW.trod_array hu hx;cases e';simp only[zCj,hu,QI]at hm;obtain⟨cC,bT⟩:=hm;have hq:=QN cC;simp only[zEv];have fP:∀ i,i<=k->((List.replicate k (P.cellsOf e)).take i).sum=i*P.cellsOf e:=fun i hi=>by
    rw[List.take_replicate,List.sum_replicate_nat,Gg hi]
   refine(zGb (List.replicate k (P.cellsOf e)) _ cs (by rw[List.sum_replicate_nat];omega) (by simp[nG]) fun i a s ha hs=> ?_).symm;simp only[GQ,QT]at ha;obtain⟨d,⟨y,hy,rfl⟩,rfl⟩:=ha;have fh:i<k:=by have:=(QS.1 hy).1;omega
   have xC:s=P.cellsOf e:=by rw[G3,QJ fh]at hs;exact(Qm hs).symm
   subst xC;have h1:=hf i fh;rw[hy]at h1;rw[fP i ω];exact(ih _ _ _ h1 m bT).symm
  |_=>simp[zCj,hu]at hm
def zFn{nm:String}{g:Nat}{t:TypeId}{cs:Array Value}{n m:Nat}{d:DataW H}{p:List MemPlace}(hg:P.globalNamed nm=some g)(hv:w.var? P nm=some cs)
  (hd:DataW.trod enc P w base spare held n t cs.toList=some (d,p)) (hm:zCj P m t=true):∃ elem fr,w.heap[g]?=some (.cells (zEv m d).toArray elem fr):=by
 have h1:=zQh n t _ _ hd m hm;simp only at h1;have h2:cs=(zEv m d).toArray:=by rw[<-h1]
 unfold World.var? at hv;rw[hg,QV]at hv;split at hv
 ·rename_i c elem fr hh;cases hv;exact⟨elem,fr,by rw[hh,h2]⟩
 ·cases hv
def zU9(hg:P.globals.size<=w.heap.size)(l:List (Nat×List Value))(hl:∀ x∈l,x.1<P.globals.size/\yk x.2=true/\∃ elem fr,w.heap[x.1]?=some (.cells x.2.toArray elem fr)):
  BP P w.heap.size (s0 P w) (Z3 P.globals.size l) w:=by
 refine⟨⟨fun g h=>⟨⟨g,0,match w.heap[g]? with|some (.cells c _ _)=>c.size|_=>0⟩,QJ h,rfl,rfl⟩,fun g pl hp=> ?_,fun g o hg=> ?_,fun g o g' o' pl bW hg ij ah hp dN hb=> ?_,QF _⟩,fun g o hg=> ?_,fun g hn=> ?_⟩
 ·unfold s0 at hp;split at hp
  ·cases hp;exact⟨by rw[zD0];assumption,by show g<w.heap.size;omega⟩
  ·cases hp
 ·obtain⟨cells,a,rfl⟩:=ZS _ l g o hg;obtain⟨b1,b2,elem,fr,b3⟩:=hl _ a;refine⟨⟨g,0,match w.heap[g]? with|some (.cells c _ _)=>c.size|_=>0⟩,QJ b1,?_,fun e=>by cases e⟩;refine⟨_,elem,fr,b3,by simp[b3],by simp only[b3];simp,fun i x hx=> ?_,fun e=>by cases e⟩;exact⟨x,by simpa using hx,VK _ (QX.1 b2 x (Gb hx))⟩
 ·obtain⟨c,a,rfl⟩:=ZS _ l g o hg;obtain⟨c',a',rfl⟩:=ZS _ l g' o' ij;exact⟨fun⟨x,_⟩=>Bool.noConfusion x,fun x=>Bool.noConfusion x,fun x=>Bool.noConfusion x⟩
 ·obtain⟨c,a,rfl⟩:=ZS _ l g o hg;exact⟨_,_,rfl⟩
 ·cases hq:(Z3 P.globals.size l).get g with
  |none=>rfl
  |some o=>
   obtain⟨c,a,rfl⟩:=ZS _ l g o hq;rw[zD0]at hn;have:=(hl _ a).1;simp only at this;omega
end
end Go.Am
