/- A part of the machine and of its soundness; proves no statement. -/
import Derived.Test.YtmejfcakhpihlaaGreatDoorAmC
import Derived.OpenShut
import Derived.ChangeOld
import Derived.LaidMore
import Derived.MakeChecks
import Derived.HandedShaped
set_option linter.all false
namespace Go.Am
open Go.RowKit
section
variable {P:Program}
def zMN:Value->Value->Bool
 | .int k a,.int k' b=>decide (k=k')&&a == b
 | .bool a,.bool b=>a == b
 |_,_=>false
def zFz:List Value->List Value->Bool
 |[],[]=>true
 |a::l,b::m=>zMN a b&&zFz l m
 |_,_=>false
def zBd(n:Nat):List (Nat×List Value)->WA
 |[]=>zPq n
 |(g,cells)::l=>{zBd n l with tab:=(zBd n l).tab.set g (.row cells false 0)}
def zQZ(h:WA)(l:List (Nat×List Value)):Bool:=l.all fun(g,cells)=>match h.get g with
 |some (.row c _ _)=>zFz c cells
 |_=>false
def zRt(l:List (Nat×List Value))(v:Value):List Value->WA->Option (Value×WA):=
 fun args h=>bif args.isEmpty&&zQZ h l then some (v,h)else none
theorem Y7(n:Nat):∀ (l:List (Nat×List Value)) (g:Nat) (o:Ws),(zBd n l).get g=some o->∃ cells,(g,cells)∈l/\o=.row cells false 0
 |[],g,o,h=>by
  have h:(WG.leaf:WG Ws).get g=some o:=h;cases h
 |(k,cells)::l,g,o,h=>by
  have h2:((zBd n l).tab.set k (.row cells false 0)).get g=some o:=h;rw[zT]at h2;by_cases e:g=k
  ·rw[QF e]at h2;subst e;exact⟨cells,by simp,(GL h2).symm⟩
  ·rw[QC e]at h2;obtain⟨c,a,b⟩:=Y7 n l g o h2;exact⟨c,by simp[a],b⟩
theorem zHM(n:Nat):∀ (l:List (Nat×List Value)),(zBd n l).n=n
 |[]=>rfl
 |_::l=>zHM n l
end
def Ev(p:Nat->Prop):Prop:=∃ N,∀ n,N<=n->p n
theorem Ev.mono{p q:Nat->Prop}(h:Ev p)(k:∀ n,p n->q n):Ev q:=let⟨N,a⟩:=h;⟨N,fun n hn=>k n (a n hn)⟩
theorem Ev.and{p q:Nat->Prop}(h:Ev p)(k:Ev q):Ev fun n=>p n/\q n:=
 let⟨N,a⟩:=h;let⟨M,b⟩:=k;⟨max N M,fun n hn=>⟨a n (by omega),b n (by omega)⟩⟩
theorem Ev.all{p:Nat->Prop}(h:∀ n,p n):Ev p:=⟨0,fun n _=>h n⟩
theorem Ev.up{p:Nat->Prop}(h:Ev fun n=>p (n+1)):Ev p:=
 let⟨N,a⟩:=h;⟨N+1,fun n hn=>by obtain⟨m,rfl⟩:∃ m,n=m+1:=⟨n-1,by omega⟩;exact a m (by omega)⟩
theorem Ev.get{p:Nat->Prop}(h:Ev p):∃ n,p n:=let⟨N,a⟩:=h;⟨N,a N (QE _)⟩
section
variable {P:Program}{tab:Wy}
def WX(P:Program)(tab:Wy)(c:WY)(fr:WR)(h:WA)(K:WP->WR->WA->Prop):Prop:=
 ∃ e af h',K e af h'/\Ev fun n=>(BI P tab n).exec c fr h=some (e,af,h')
def WC(P:Program)(tab:Wy)(f:FuncId)(args:List Value)(h:WA)(Q:Value->WA->Prop):Prop:=
 ∃ v h',Q v h'/\Ev fun n=>(BI P tab n).call f args h=some (v,h')
def WV(P:Program)(tab:Wy)(f:Value)(args:List Value)(h:WA)(Q:Value->WA->Prop):Prop:=
 ∃ v h',Q v h'/\Ev fun n=>zBZ (BI P tab n) f args h=some (v,h')
def WO(P:Program)(tab:Wy)(ops:List WF)(fr:WR)(h:WA)(Q:WR->WA->Prop):Prop:=
 ∃ af h',Q af h'/\Ev fun n=>ZA P (BI P tab n) ops fr h=some (af,h')
theorem WX.mono{c fr h K K'}(hx:WX P tab c fr h K)(hk:∀ e fr h,K e fr h->K' e fr h):WX P tab c fr h K':=
 let⟨e,af,h',a,b⟩:=hx;⟨e,af,h',hk _ _ _ a,b⟩
theorem WC.mono{f args h Q Q'}(hx:WC P tab f args h Q)(hk:∀ v h,Q v h->Q' v h):WC P tab f args h Q':=
 let⟨v,h',a,b⟩:=hx;⟨v,h',hk _ _ a,b⟩
theorem WV.mono{f args h Q Q'}(hx:WV P tab f args h Q)(hk:∀ v h,Q v h->Q' v h):WV P tab f args h Q':=
 let⟨v,h',a,b⟩:=hx;⟨v,h',hk _ _ a,b⟩
theorem WO.mono{ops fr h Q Q'}(hx:WO P tab ops fr h Q)(hk:∀ fr h,Q fr h->Q' fr h):WO P tab ops fr h Q':=
 let⟨v,h',a,b⟩:=hx;⟨v,h',hk _ _ a,b⟩
def zEY(P:Program)(tab:Wy)(b:WY)(K:WP->WR->WA->Prop):WP->WR->WA->Prop
 | .normal,fr,h=>WX P tab b fr h K
 | .exit i,fr,h=>K (.exit i) fr h
 | .goto l,fr,h=>K (.goto l) fr h
 | .ret,fr,h=>K .ret fr h
def YE(id:Nat)(K:WP->WR->WA->Prop):WP->WR->WA->Prop
 | .normal,fr,h=>K .normal fr h
 | .exit i,fr,h=>if i=id then K .normal fr h else K (.exit i) fr h
 | .goto l,fr,h=>K (.goto l) fr h
 | .ret,fr,h=>K .ret fr h
def zCd{α:Type}(μ:α->Nat)(I:α->WG Value->WA->Prop)(x:α)(ds:List Deferred)(rd:Option Nat)(K:WP->WR->WA->Prop):WP->WR->WA->Prop
 | .normal,fr,h=>fr.dfs=ds/\fr.round=rd/\∃ y,μ y<μ x/\I y fr.tm h
 | .exit i,fr,h=>K (.exit i) fr h
 | .goto l,fr,h=>K (.goto l) fr h
 | .ret,fr,h=>K .ret fr h
theorem Z3{b fr h K}(hx:WX P tab b fr h K):zEY P tab b K .normal fr h:=hx
theorem zEh{b i fr h K}(hx:K (.exit i) fr h):zEY P tab b K (.exit i) fr h:=hx
theorem zEr{b i fr h K}(hx:K (.goto i) fr h):zEY P tab b K (.goto i) fr h:=hx
theorem zFr{b fr h K}(hx:K .ret fr h):zEY P tab b K .ret fr h:=hx
theorem zB7{id fr h}{K:WP->WR->WA->Prop}(hx:K .normal fr h):YE id K .normal fr h:=hx
theorem zDr{id fr h}{K:WP->WR->WA->Prop}(hx:K .normal fr h):YE id K (.exit id) fr h:=by simp only[YE,Q6];exact hx
theorem zBa{i id fr h}{K:WP->WR->WA->Prop}(hi:Nat.beq i id=false)(hx:K (.exit i) fr h):YE id K (.exit i) fr h:=by
 have:¬i=id:=fun e=>by subst e;simp at hi
 simp only[YE,QC this];exact hx
theorem zDx{id l fr h}{K:WP->WR->WA->Prop}(hx:K (.goto l) fr h):YE id K (.goto l) fr h:=hx
theorem zEp{id fr h}{K:WP->WR->WA->Prop}(hx:K .ret fr h):YE id K .ret fr h:=hx
section
variable {α:Type}{μ:α->Nat}{I:α->WG Value->WA->Prop}{x:α}{ds:List Deferred}{rd:Option Nat}{K:WP->WR->WA->Prop}
theorem zA{t h}(y:α)(hm:μ y<μ x)(hx:I y t h):zCd μ I x ds rd K .normal ⟨t,ds,rd⟩ h:=⟨rfl,rfl,y,hm,hx⟩
theorem zE6{i fr h}(hx:K (.exit i) fr h):zCd μ I x ds rd K (.exit i) fr h:=hx
theorem zEd{i fr h}(hx:K (.goto i) fr h):zCd μ I x ds rd K (.goto i) fr h:=hx
theorem zFk{fr h}(hx:K .ret fr h):zCd μ I x ds rd K .ret fr h:=hx
end
theorem zx(n:Nat)(c fr h):(BI P tab (n+1)).exec c fr h=zv P (BI P tab n) c fr h:=rfl
theorem zFq(n:Nat)(f args h):(BI P tab (n+1)).call f args h=zDF P tab (BI P tab n) f args h:=rfl
theorem WX.skip{fr h K}(hx:K .normal fr h):WX P tab .skip fr h K:=⟨_,_,_,hx,Ev.up (Ev.all fun _=>rfl)⟩
theorem WX.label{l fr h K}(hx:K .normal fr h):WX P tab (.label l) fr h K:=⟨_,_,_,hx,Ev.up (Ev.all fun _=>rfl)⟩
theorem WX.exit{i fr h K}(hx:K (.exit i) fr h):WX P tab (.exit i) fr h K:=⟨_,_,_,hx,Ev.up (Ev.all fun _=>rfl)⟩
theorem WX.goto{i fr h K}(hx:K (.goto i) fr h):WX P tab (.goto i) fr h K:=⟨_,_,_,hx,Ev.up (Ev.all fun _=>rfl)⟩
theorem WX.ret{fr h K}(hx:K .ret fr h):WX P tab .ret fr h K:=⟨_,_,_,hx,Ev.up (Ev.all fun _=>rfl)⟩
theorem WX.region{ops fr h K}(hx:WO P tab ops fr h fun fr h=>K .normal fr h):WX P tab (.region ops) fr h K:=
 let⟨af,h',a,b⟩:=hx
 ⟨_,_,_,a,Ev.up (b.mono fun n e=>by rw[zx];simp only[zv,e,QJ])⟩
theorem WX.seq{a b fr h K}(hx:WX P tab a fr h (zEY P tab b K)):WX P tab (.seq a b) fr h K:=by
 obtain⟨e,af,h',k,ev⟩:=hx;cases e with
 |normal=>
  obtain⟨e2,lr,h2,k2,eE⟩:=k;exact⟨e2,lr,h2,k2,Ev.up ((ev.and eE).mono fun n ⟨e1,e2⟩=>by rw[zx];simp only[zv,e1,e2])⟩
 |exit i=>exact⟨_,_,_,k,Ev.up (ev.mono fun n e=>by rw[zx];simp only[zv,e])⟩
 |goto i=>exact⟨_,_,_,k,Ev.up (ev.mono fun n e=>by rw[zx];simp only[zv,e])⟩
 |ret=>exact⟨_,_,_,k,Ev.up (ev.mono fun n e=>by rw[zx];simp only[zv,e])⟩
theorem WX.cond{c x y fr h K}(b:Bool)(hb:ev fr.tm c=.bool b)(h1:b=true->WX P tab x fr h K)(h2:b=false->WX P tab y fr h K):WX P tab (.cond c x y) fr h K:=by
 cases b with
 |true=>obtain⟨e,af,h',k,ev⟩:=h1 rfl;exact⟨_,_,_,k,Ev.up (ev.mono fun n e=>by rw[zx];simp only[zv,hb,e])⟩
 |false=>obtain⟨e,af,h',k,ev⟩:=h2 rfl;exact⟨_,_,_,k,Ev.up (ev.mono fun n e=>by rw[zx];simp only[zv,hb,e])⟩
theorem Xb{c x y fr h K}(hb:ev fr.tm c=.bool true)(h1:WX P tab x fr h K):WX P tab (.cond c x y) fr h K:=WX.cond true hb (fun _=>h1) (fun h=>by cases h)
theorem Xa{c x y fr h K}(hb:ev fr.tm c=.bool false)(h1:WX P tab y fr h K):WX P tab (.cond c x y) fr h K:=WX.cond false hb (fun h=>by cases h) (fun _=>h1)
theorem WX.block{id b fr h K}(hx:WX P tab b fr h (YE id K)):WX P tab (.block id b) fr h K:=by
 obtain⟨e,af,h',k,ev⟩:=hx;cases e with
 |normal=>exact⟨_,_,_,k,Ev.up (ev.mono fun n e=>by rw[zx];simp only[zv,e])⟩
 |goto i=>exact⟨_,_,_,k,Ev.up (ev.mono fun n e=>by rw[zx];simp only[zv,e])⟩
 |ret=>exact⟨_,_,_,k,Ev.up (ev.mono fun n e=>by rw[zx];simp only[zv,e])⟩
 |exit i=>
  simp only[YE]at k;by_cases hi:i=id
  ·rw[QF hi]at k;exact⟨_,_,_,k,Ev.up (ev.mono fun n e=>by rw[zx];simp only[zv,e,QF hi])⟩
  ·rw[QC hi]at k;exact⟨_,_,_,k,Ev.up (ev.mono fun n e=>by rw[zx];simp only[zv,e,QC hi])⟩
theorem WX.loop{α:Type}(μ:α->Nat)(I:α->WG Value->WA->Prop)(x:α){b t ds rd h K}(h0:I x t h)
  (hb:∀ x t h,I x t h->WX P tab b ⟨t,ds,rd⟩ h (zCd μ I x ds rd K)):WX P tab (.loop b) ⟨t,ds,rd⟩ h K:=by
 generalize hm:μ x=m;induction m using Nat.strongRecOn generalizing x t h with
 |_ m ih=>
  obtain⟨e,af,h',k,ev⟩:=hb x t h h0;cases e with
  |normal=>
   obtain⟨k1,k2,y,k3,k4⟩:=k;obtain⟨t',eS,xo⟩:=af;simp only at k1 k2 k4;subst k1 k2;obtain⟨e2,lr,h2,kk,eE⟩:=ih (μ y) (by omega) y k4 rfl;exact⟨e2,lr,h2,kk,Ev.up ((ev.and eE).mono fun n ⟨e1,e2⟩=>by rw[zx];simp only[zv,e1,e2])⟩
  |exit i=>exact⟨_,_,_,k,Ev.up (ev.mono fun n e=>by rw[zx];simp only[zv,e])⟩
  |goto i=>exact⟨_,_,_,k,Ev.up (ev.mono fun n e=>by rw[zx];simp only[zv,e])⟩
  |ret=>exact⟨_,_,_,k,Ev.up (ev.mono fun n e=>by rw[zx];simp only[zv,e])⟩
def zRM{α:Type}(l:Nat)(μ:α->Nat)(I:α->WG Value->WA->Prop)(x:α)(ds:List Deferred)(rd:Option Nat)(K:WP->WR->WA->Prop):WP->WR->WA->Prop
 | .normal,fr,h=>K .normal fr h
 | .exit i,fr,h=>K (.exit i) fr h
 | .goto m,fr,h=>m=l/\fr.dfs=ds/\fr.round=rd/\∃ y,μ y<μ x/\I y fr.tm h
 | .ret,fr,h=>K .ret fr h
section
variable {α:Type}{l:Nat}{μ:α->Nat}{I:α->WG Value->WA->Prop}{x:α}{ds:List Deferred}{rd:Option Nat}{K:WP->WR->WA->Prop}
end
def zMg(M:WG Value->WA->Prop)(ds:List Deferred)(rd:Option Nat)(K:WP->WR->WA->Prop):WP->WR->WA->Prop
 | .normal,fr,h=>fr.dfs=ds/\fr.round=rd/\M fr.tm h
 | .exit i,fr,h=>K (.exit i) fr h
 | .goto l,fr,h=>K (.goto l) fr h
 | .ret,fr,h=>K .ret fr h
section
variable {M:WG Value->WA->Prop}{ds:List Deferred}{rd:Option Nat}{K:WP->WR->WA->Prop}
theorem zK{t h}(hx:M t h):zMg M ds rd K .normal ⟨t,ds,rd⟩ h:=⟨rfl,rfl,hx⟩
theorem zDA{fr h}(hx:K .ret fr h):zMg M ds rd K .ret fr h:=hx
end
def WD(P:Program)(tab:Wy)(ds:List Deferred)(h:WA)(Q:WA->Prop):Prop:=
 ∃ h',Q h'/\Ev fun n=>ZY (BI P tab n) ds h=some h'
theorem WD.nil{h}{Q:WA->Prop}(hx:Q h):WD P tab [] h Q:=⟨h,hx,Ev.all fun _=>rfl⟩
theorem WD.collected{g ds h}{Q:WA->Prop}(hg:h.get g=some (.deferred (some [])))(hx:WD P tab ds (h.set g (.deferred none)) Q):
  WD P tab ({target:= .collected g,args:=#[]}::ds) h Q:=by
 obtain⟨h',a,b⟩:=hx;exact⟨h',a,b.mono fun n e=>by simp only[ZY,hg,e]⟩
def zEe(P:Program)(tab:Wy)(rs:List (Nat×Option (Bool×Nat)))(Q:Value->WA->Prop):WP->WR->WA->Prop
 | .normal,fr,h=>WD P tab fr.dfs h fun h=>∃ vs,yY h fr.tm rs=some vs/\Q (one vs) h
 | .ret,fr,h=>WD P tab fr.dfs h fun h=>∃ vs,yY h fr.tm rs=some vs/\Q (one vs) h
 |_,_,_=>False
theorem zMB{rs Q t rd h}{vs:List Value}(hr:yY h t rs=some vs)(hx:Q (one vs) h):zEe P tab rs Q .ret ⟨t,[],rd⟩ h:=WD.nil ⟨vs,hr,hx⟩
theorem zH7{rs Q t rd h}{vs:List Value}(hr:yY h t rs=some vs)(hx:Q (one vs) h):zEe P tab rs Q .normal ⟨t,[],rd⟩ h:=WD.nil ⟨vs,hr,hx⟩
theorem WC.of{f args h Q nt rs body}(hs:tab.stub f=none)(hf:tab.code f=some ⟨nt,rs,body⟩)(hx:WX P tab body ⟨zFZ args 0 .leaf,[],none⟩ h (zEe P tab rs Q)):WC P tab f args h Q:=by
 obtain⟨e,af,h',k,ev⟩:=hx;cases e with
 |normal=>
  obtain⟨h2,⟨vs,k3,k4⟩,eE⟩:=k;exact⟨_,_,k4,Ev.up ((ev.and eE).mono fun n ⟨e1,e2⟩=>by rw[zFq];simp only[zDF,zDy,hs,hf,e1,cond_true,e2,k3])⟩
 |ret=>
  obtain⟨h2,⟨vs,k3,k4⟩,eE⟩:=k;exact⟨_,_,k4,Ev.up ((ev.and eE).mono fun n ⟨e1,e2⟩=>by rw[zFq];simp only[zDF,zDy,hs,hf,e1,cond_true,e2,k3])⟩
 |exit i=>exact k.elim
 |goto i=>exact k.elim
theorem WV.func{f first cap args h Q}(hx:WC P tab f (first.toList++args++cap.toList) h Q):WV P tab (.func (.func f) first cap) args h Q:=hx
theorem WO.nil{fr h Q}(hx:Q fr h):WO P tab [] fr h Q:=⟨_,_,hx,Ev.all fun _=>rfl⟩
theorem WO.cons{o l fr h Q}{bB:WR}{h1:WA}(e:Ev fun n=>yU P (BI P tab n) o fr h=some (bB,h1))(hx:WO P tab l bB h1 Q):WO P tab (o::l) fr h Q:=by
 obtain⟨af,h',a,b⟩:=hx;exact⟨_,_,a,(e.and b).mono fun n ⟨e1,e2⟩=>by simp only[ZA,e1,e2]⟩
def zA8:Wx->Bool
 | .call .. | .dfr .. | .dfrClear .. | .invoke .. | .recover=>false
 |_=>true
theorem zOq(ih:Ex){t h op}(hp:zA8 op=true):WN P ih t h op=WN P Ex.bot t h op:=by
 cases op<;>first|rfl|cases hp
theorem zCb(ih:Ex){t rd h op v h'}(hp:zA8 op=true)(e:WN P Ex.bot t h op=some (v,h')):yP P ih t rd h op=some (v,[],h'):=by
 rw[<-zOq ih hp]at e;cases op<;>first|(cases hp;done)|(simp only[yP,e])
theorem WO.op{d op l t ds rd h Q}(v:Value)(h':WA)(hp:zA8 op=true)(e:WN P Ex.bot t h op=some (v,h'))(hx:WO P tab l ⟨t.set d v,ds,rd⟩ h' Q):
  WO P tab (⟨some d,none,op⟩::l) ⟨t,ds,rd⟩ h Q:=
 WO.cons (Ev.all fun n=>by simp only[yU,zV,cond_true,zCb _ hp e,val,GJ]) hx
theorem Xv{d op l t ds rd h Q}{v:Value}{h':WA}(e:WN P Ex.bot t h op=some (v,h'))(hx:WO P tab l ⟨t.set d v,ds,rd⟩ h' Q)(hp:zA8 op=true:=by rfl):
  WO P tab (⟨some d,none,op⟩::l) ⟨t,ds,rd⟩ h Q:=WO.op v h' hp e hx
theorem VP{op l t ds rd h Q}(v:Value)(h':WA)(hp:zA8 op=true)(e:WN P Ex.bot t h op=some (v,h'))(hx:WO P tab l ⟨t,ds,rd⟩ h' Q):
  WO P tab (⟨none,none,op⟩::l) ⟨t,ds,rd⟩ h Q:=
 WO.cons (Ev.all fun n=>by simp only[yU,zV,cond_true,zCb _ hp e,val,GJ]) hx
theorem WO.call{d f args l t ds rd h Q}{as:List Value}(ha:args.map (ev t)=as)(hx:WC P tab f as h fun v h'=>WO P tab l ⟨t.set d v,ds,rd⟩ h' Q):
  WO P tab (⟨some d,none,.call (.func f) args⟩::l) ⟨t,ds,rd⟩ h Q:=by
 subst ha;obtain⟨v,h',a,b⟩:=hx;refine WO.cons (bB:=⟨t.set d v,ds,rd⟩) (h1:=h') (b.mono fun n e=> ?_) a;simp only[yU,zV,cond_true,yP,WN,ev,zBZ,GY,GJ];rw[e];rfl
theorem Xm{d f args l t ds rd h Q}{as:List Value}{fv:Value}(hf:ev t f=fv)(ha:args.map (ev t)=as)(hx:WV P tab fv as h fun v h'=>WO P tab l ⟨t.set d v,ds,rd⟩ h' Q):
  WO P tab (⟨some d,none,.call f args⟩::l) ⟨t,ds,rd⟩ h Q:=by
 subst ha;subst hf;obtain⟨v,h',a,b⟩:=hx;refine WO.cons (bB:=⟨t.set d v,ds,rd⟩) (h1:=h') (b.mono fun n e=> ?_) a;simp only[yU,zV,cond_true,yP,WN,e,val,GJ]
theorem XR{d j want op l t ds rd h Q}(hg:zC t j=.bool want)(hx:WO P tab (⟨d,none,op⟩::l) ⟨t,ds,rd⟩ h Q):WO P tab (⟨d,some (j,want),op⟩::l) ⟨t,ds,rd⟩ h Q:=by
 obtain⟨af,h',a,b⟩:=hx;refine⟨_,_,a,b.mono fun n e=> ?_⟩;rw[<-e];simp only[ZA,yU,zV,hg,beq_self_eq_true,cond_true]
theorem Vy{d j want op l t ds rd h Q}(hg:zC t j=.bool (!want))(hx:WO P tab l ⟨t.set d undef,ds,rd⟩ h Q):WO P tab (⟨some d,some (j,want),op⟩::l) ⟨t,ds,rd⟩ h Q:=by
 refine WO.cons (Ev.all fun n=> ?_) hx;simp only[yU,zV,hg];cases want<;>rfl
theorem XQ{d j want op l t ds rd h Q}(hg:zC t j=undef)(hx:WO P tab l ⟨t.set d undef,ds,rd⟩ h Q):WO P tab (⟨some d,some (j,want),op⟩::l) ⟨t,ds,rd⟩ h Q:=by
 refine WO.cons (Ev.all fun n=> ?_) hx;simp only[yU,zV,hg];rfl
theorem WO.invoke{d f name x args l t ds rd h Q}{ty:TypeId}{u:Value}{as:List Value}(hv:ev t x=.iface ty u)(hm:zBv P ty name=some f)(ha:args.map (ev t)=as)(hx:WC P tab f (u::as) h fun v h'=>WO P tab l ⟨t.set d v,ds,rd⟩ h' Q):
  WO P tab (⟨some d,none,.invoke x name args⟩::l) ⟨t,ds,rd⟩ h Q:=by
 subst ha;obtain⟨v,h',a,b⟩:=hx;refine WO.cons (bB:=⟨t.set d v,ds,rd⟩) (h1:=h') (b.mono fun n e=> ?_) a;simp only[yU,zV,cond_true,yP,WN,zAw,hv,hm,e,val,GJ]
theorem XF{d x l t ds rd h Q}{G rt ty:Nat}{b:Bool}(hv:ev t x=zGU G rt ty)(hb:Yr P G rt ty=some b)(hx:WO P tab l ⟨t.set d (.bool b),ds,rd⟩ h Q):
  WO P tab (⟨some d,none,.invoke x "Comparable" []⟩::l) ⟨t,ds,rd⟩ h Q:=
 WO.cons (Ev.all fun n=>by
  have:zAw P (BI P tab n) "Comparable" (zGU G rt ty) [] h=some (.bool b,h):=by
   simp only[zAw,zGv,List.isEmpty_nil,beq_self_eq_true,Qv,cond_true,hb,QJ]
  simp only[yU,zV,cond_true,yP,WN,hv,GP,this,val,GJ]) hx
end
attribute [irreducible] WX WC WV WO WD zEY YE zCd zRM zMg zEe Ev
abbrev I(n:Int):Value:= .int .i64 n
def Wf(h:WA):Prop:=∀ g,h.n<=g->h.get g=none
structure Ext(h h':WA):Prop where
 n:h.n<=h'.n
 get:∀ g,g<h.n->h'.get g=h.get g
 wf:Wf h->Wf h'
 mark:h'.mark=h.mark
 wr:h.mark<=h.n->h'.wr=h.wr
theorem Ext.refl(h:WA):Ext h h:=⟨QE _,fun _ _=>rfl,id,rfl,fun _=>rfl⟩
theorem Ext.trans{a b c:WA}(h:Ext a b)(k:Ext b c):Ext a c:=
 ⟨QP h.n k.n,fun g hg=>(k.get g (QI hg h.n)).trans (h.get g hg),fun w=>k.wf (h.wf w),k.mark.trans h.mark,fun hm=>(k.wr (by rw[h.mark];exact QP hm h.n)).trans (h.wr hm)⟩
theorem Ext.push{a b:WA}(h:Ext a b)(o:Ws):Ext a (b.push o):=
 h.trans ⟨Qr _,fun g hg=>by rw[zS,QC (Nat.ne_of_lt hg)],fun w g hg=>by
  rw[zS,QC (by simp[WA.push]at hg;omega)];exact w g (by simp[WA.push]at hg;omega),rfl,fun _=>rfl⟩
theorem zAO{h:WA}{g:Nat}(hg:h.mark<=g):h.log g=h.wr:=by
 have:Nat.ble h.mark g=true:=QH hg;simp[WA.log,this]
theorem Ext.set{a b:WA}(h:Ext a b){g:Nat}(hg:a.n<=g)(hb:g<b.n)(o:Ws):Ext a (b.set g o):=
 ⟨h.n,fun k hk=>by rw[zg,QC (by omega)];exact h.get k hk,fun w k hk=>by
  rw[zg,QC (by simp[WA.set]at hk;omega)];exact h.wf w k hk,h.mark,fun hm=>(zAO (by rw[h.mark];omega)).trans (h.wr hm)⟩
theorem Ext.kill{a b:WA}(h:Ext a b){g:Nat}(hg:a.n<=g):Ext a (b.kill g):=
 ⟨h.n,fun k hk=>by rw[yt,QC (by omega)];exact h.get k hk,fun w k hk=>by
  rw[yt];split
  ·rfl
  ·exact h.wf w k hk,h.mark,fun hm=>(zAO (by rw[h.mark];omega)).trans (h.wr hm)⟩
theorem Wf.lt{h:WA}(w:Wf h){g:Nat}{o:Ws}(hg:h.get g=some o):g<h.n:=by
 by_cases hn:h.n<=g
 ·rw[w g hn]at hg;cases hg
 ·omega
theorem Za{h:WA}{g:Nat}{cells own lo}(hg:h.get g=some (.row cells own lo)):yj h g=some cells:=by simp only[yj,hg]
theorem zJT{h:WA}{g:Nat}{cells}(hg:yj h g=some cells):∃ own lo,h.get g=some (.row cells own lo):=by
 unfold yj at hg;split at hg
 ·cases hg;exact⟨_,_,by assumption⟩
 ·cases hg
theorem Ext.row{h h':WA}(e:Ext h h'){g:Nat}(w:g<h.n){cells}(hg:yj h g=some cells):yj h' g=some cells:=by
 obtain⟨own,lo,a⟩:=zJT hg;exact Za ((e.get g w).trans a)
theorem ZD{cells:List Value}{off n:Nat}(h:off+n<=cells.length):cut cells off n=some ((cells.drop off).take n):=by
 have:Nat.ble (off+n) cells.length=true:=QH h;simp only[cut,this,cond_true]
theorem zDV{cells l:List Value}{off n:Nat}(h:cut cells off n=some l):off+n<=cells.length/\l=(cells.drop off).take n:=by
 unfold cut at h;cases hb:Nat.ble (off+n) cells.length with
 |true=>simp only[hb,cond_true,QA]at h;exact⟨QS hb,h.symm⟩
 |false=>simp only[hb,QU]at h;cases h
def Wi(c:Nat)(h:WA)(v:Value)(n:Nat)(cells:List Value):Prop:=
 cells.length=n*c/\((n=0/\(v=.slice none 0 0\/∃ a k,v=.slice (some a) 0 k))\/
  ∃ g off row,v=.slice (some ⟨g,off,none⟩) n c/\yj h g=some row/\cut row off (n*c)=some cells/\g<h.n)
def yB(v:Value)(j:Nat):Value:=match v with
 | .slice (some a) _ _=> .pointer (some ⟨a.block,a.off+j,none⟩)
 |_=>undef
section
variable {P:Program}{ih:Ex}{t:WG Value}{h h':WA}{v:Value}{c n:Nat}{cells:List Value}
theorem Wi.len(s:Wi c h v n cells):zMP v=some n:=by
 obtain⟨_,(⟨rfl,rfl|⟨a,k,rfl⟩⟩|⟨g,off,row,rfl,_,_,_⟩)⟩:=s<;>rfl
theorem Wi.ext(s:Wi c h v n cells)(e:Ext h h'):Wi c h' v n cells:=by
 obtain⟨a,b⟩:=s;refine⟨a,b.imp id ?_⟩;rintro⟨g,off,row,e1,e2,e3,e4⟩;exact⟨g,off,row,e1,e.row e4 e2,e3,QI e4 e.n⟩
theorem Wi.nil(c:Nat)(h:WA):Wi c h (.slice none 0 0) 0 []:=⟨by simp,.inl ⟨rfl,.inl rfl⟩⟩
theorem Wi.own{g:Nat}{lo:Nat}{own:Bool}(aL:g<h.n)(hg:h.get g=some (.row cells own lo))(hn:cells.length=n*c):Wi c h (.slice (some ⟨g,0,none⟩) n c) n cells:=
 ⟨hn,.inr ⟨g,0,cells,rfl,Za hg,by rw[ZD (by omega)];simp[<-hn],aL⟩⟩
theorem zEI{x:Operand}(s:Wi c h v n cells)(hx:ev t x=v):WN P ih t h (.len x)=some (I n,h):=by
 subst hx;simp[WN,s.len]
theorem zKF{x y:Operand}{i:Nat}(s:Wi c h v n cells)(hx:ev t x=v)(hy:BO (ev t y)=some i)(hi:i<n):WN P ih t h (.idx c x y)=some (yB v (i*c),h):=by
 obtain⟨_,(⟨rfl,_⟩|⟨g,off,row,rfl,_,_,_⟩)⟩:=s
 ·omega
 ·have:Nat.ble (i+1) n=true:=QH hi;simp[WN,hx,hy,this,yB]
theorem zEm{cells l row:List Value}{off n j m:Nat}(hc:cut row off n=some cells)(hl:cut cells j m=some l):cut row (off+j) m=some l:=by
 obtain⟨a,rfl⟩:=zDV hc;obtain⟨b,rfl⟩:=zDV hl;have hl:((row.drop off).take n).length=n:=by simp;omega
 rw[ZD (by omega)];congr 1;rw[List.drop_take,List.drop_drop,List.take_take,Gg (by omega)]
theorem zEt{x:Operand}{agg:Bool}{m j:Nat}{l:List Value}{r:Value}(s:Wi c h v n cells)(hx:ev t x=yB v j)(hl:cut cells j m=some l)(hm:0<m)(hr:zO agg l=some r):
  WN P ih t h (.load agg m x)=some (r,h):=by
 obtain⟨hn,(⟨rfl,_⟩|⟨g,off,row,rfl,h1,h2,_⟩)⟩:=s
 ·have:=(zDV hl).1;simp at hn;subst hn;simp at this;omega
 ·simp[WN,hx,yB,h1,zEm h2 hl,hr]
theorem zPB{cells:List Value}{j:Nat}{r:Value}(hj:cells[j]?=some r):cut cells j 1=some [r]:=by
 have aL:j<cells.length:=(QR.1 hj).1;rw[ZD (by omega),GU aL];simp only[Qo,GC];rw[(QR.1 hj).2]
theorem zLE{x:Operand}{j:Nat}{r:Value}(s:Wi c h v n cells)(hx:ev t x=yB v j)(hj:cells[j]?=some r):WN P ih t h (.load false 1 x)=some (r,h):=
 zEt s hx (zPB hj) Nat.one_pos rfl
theorem zPA{x:Operand}{off j:Nat}(hx:ev t x=yB v j)(hv:∃ a k m,v=.slice (some a) k m):WN P ih t h (.fld off x)=some (yB v (j+off),h):=by
 obtain⟨a,k,m,rfl⟩:=hv;simp[WN,hx,yB,Nat.add_assoc]
theorem Wi.some{i:Nat}(s:Wi c h v n cells)(hi:i<n):∃ a k m,v=.slice (some a) k m:=by
 obtain⟨hn,(⟨rfl,_⟩|⟨g,off,row,rfl,h1,h2,_⟩)⟩:=s
 ·omega
 ·exact⟨_,_,_,rfl⟩
theorem YF(s:Wi c h v n cells):yg c h v=some cells:=by
 obtain⟨hn,(⟨rfl,rfl|⟨a,k,rfl⟩⟩|⟨g,off,row,rfl,h1,h2,_⟩)⟩:=s
 ·simp at hn;subst hn;rfl
 ·simp at hn;subst hn;simp[yg]
 ·unfold yg;cases hb:Nat.beq n 0 with
  |true=>have:=QO hb;subst this;simp at hn;subst hn;rfl
  |false=>simp[h1,h2,hb]
end
def WQ(h:WA)(v:Value)(l:List Int):Prop:=Wi 1 h v l.length (l.map I)
section
variable {P:Program}{ih:Ex}{t:WG Value}{h h':WA}{v:Value}{l:List Int}
theorem WQ.ext(s:WQ h v l)(e:Ext h h'):WQ h' v l:=Wi.ext s e
theorem WQ.nil(h:WA):WQ h (.slice none 0 0) []:=Wi.nil 1 h
theorem WQ.own{g lo own}(aL:g<h.n)(hg:h.get g=some (.row (l.map I) own lo)):WQ h (.slice (some ⟨g,0,none⟩) l.length 1) l:=Wi.own aL hg (by simp)
theorem WQ.len{x:Operand}(s:WQ h v l)(hx:ev t x=v):WN P ih t h (.len x)=some (I l.length,h):=zEI s hx
theorem WQ.idx{x y:Operand}{i:Nat}(s:WQ h v l)(hx:ev t x=v)(hy:BO (ev t y)=some i)(hi:i<l.length):WN P ih t h (.idx 1 x y)=some (yB v i,h):=by
 have:=zKF (P:=P) (ih:=ih) s hx hy hi;rwa [G4]at this
theorem WQ.load{x:Operand}{i:Nat}{a:Int}(s:WQ h v l)(hx:ev t x=yB v i)(hi:l[i]?=some a):WN P ih t h (.load false 1 x)=some (I a,h):=
 zLE s hx (by simp[hi])
end
def Wq(h0 h:WA)(v:Value)(l:List Int):Prop:=∃ g,h0.n<=g/\g<h.n/\v=.slice (some ⟨g,0,none⟩) l.length 1/\h.get g=some (.row (l.map I) true 0)
theorem Wq.sl{h0 h v l}(o:Wq h0 h v l):WQ h v l:=by obtain⟨g,_,hl,rfl,hg⟩:=o;exact WQ.own hl hg
theorem Wq.ext{h0 h h' v l}(o:Wq h0 h v l)(e:Ext h h'):Wq h0 h' v l:=by
 obtain⟨g,a,b,c,d⟩:=o;exact⟨g,a,QI b e.n,c,(e.get g b).trans d⟩
theorem zOL(k:IntKind)(a b:Int):ZF .add (.int k a) (.int k b)=some (.int k (k.wrap (a+b))):=by simp[ZF]
theorem zMd(k:IntKind)(a b:Int):ZF .sub (.int k a) (.int k b)=some (.int k (k.wrap (a-b))):=by simp[ZF]
theorem zOM(k:IntKind)(a b:Int):ZF .mul (.int k a) (.int k b)=some (.int k (k.wrap (a*b))):=by simp[ZF]
theorem zMv(k:IntKind)(a b:Int):ZF .lss (.int k a) (.int k b)=some (.bool (decide (a<b))):=by simp[ZF]
theorem zNC(k:IntKind)(a b:Int):ZF .leq (.int k a) (.int k b)=some (.bool (decide (a<=b))):=by simp[ZF]
theorem zNb(k:IntKind)(a b:Int):ZF .gtr (.int k a) (.int k b)=some (.bool (decide (b<a))):=by simp[ZF]
theorem zNe(k:IntKind)(a b:Int):ZF .geq (.int k a) (.int k b)=some (.bool (decide (b<=a))):=by simp[ZF]
theorem zOJ(k:IntKind)(a b:Int):ZF .eql (.int k a) (.int k b)=some (.bool (decide (a=b))):=by
 simp[ZF];rw[GZ];simp
theorem zNw(k:IntKind)(a b:Int):ZF .neq (.int k a) (.int k b)=some (.bool (!decide (a=b))):=by
 simp[ZF];rw[GZ];simp
theorem zFS{n:Int}(h1: -9223372036854775808<=n)(h2:n<=9223372036854775807):IntKind.wrap .i64 n=n:=by
 simp[IntKind.wrap,IntKind.signed,IntKind.bits];omega
section
variable {P:Program}{ih:Ex}{t:WG Value}{h:WA}{v:Value}{l:List Int}
theorem XN{x:Operand}{i:Nat}(hx:ev t x=yB v i)(s:WQ h v l)(hi:i<l.length):WN P ih t h (.load false 1 x)=some (I (l.getD i 0),h):=
 s.load hx (by simp[List.getD,QB hi])
theorem Xf{x y:Operand}{i:Nat}(hx:ev t x=v)(hy:BO (ev t y)=some i)(s:WQ h v l)(hi:i<l.length):WN P ih t h (.idx 1 x y)=some (yB v i,h):=s.idx hx hy hi
theorem Xw{x:Operand}(hx:ev t x=v)(s:WQ h v l):WN P ih t h (.len x)=some (I l.length,h):=s.len hx
end
section
variable {P:Program}{tab:Wy}
def zN5(ops:List (WF×List Nat)):Bool:=ops.all fun x=>x.2.isEmpty&&Nat.ble (zI x.1.op) 1
theorem zCW{op:Wx}(h:Nat.ble (zI op) 1=true):(zI op=0\/zI op=1)/\zA8 op=true:=by
 cases op<;>first|exact⟨.inl rfl,rfl⟩|exact⟨.inr rfl,rfl⟩|cases h
theorem zJh{ih:Ex}{o:WF}{fr af:WR}{h h':WA}(hk:Nat.ble (zI o.op) 1=true)(hx:yU P ih o fr h=some (af,h'))(m:Nat)(wr:List Nat):
  h'=h/\yU P ih o fr {h with mark:=m,wr:=wr}=some (af,{h with mark:=m,wr:=wr}):=by
 obtain⟨k,hp⟩:=zCW hk;unfold yU at hx |-;cases hw:zV fr.tm o.guard with
 |false=>simp only[hw,QU,QA,QD]at hx |-;obtain⟨rfl,rfl⟩:=hx;refine⟨rfl,?_⟩;first|trivial|exact⟨rfl,rfl⟩
 |true=>
  simp only[hw,cond_true]at hx |-;cases ha:WN P ih fr.tm h o.op with
  |none=>
   have:yP P ih fr.tm fr.round h o.op=none:=by cases b7:o.op<;>simp_all [yP,zA8]
   simp[this]at hx
  |some q=>
   obtain⟨v,h2⟩:=q;have e1:=zEW k ha;obtain⟨rfl,_,e2⟩:=e1;have e3:WN P ih fr.tm {h2 with mark:=m,wr:=wr} o.op=some (v,{h2 with mark:=m,wr:=wr}):=e2 _ (fun _ _=> .inl rfl);have v1:∀ {h h':WA},WN P ih fr.tm h o.op=some (v,h')->yP P ih fr.tm fr.round h o.op=some (v,[],h'):=fun {h h'} e=>by
    cases b7:o.op<;>first|(rw[b7]at hp;cases hp;done)|(rw[b7]at e;simp only[yP,e])
   rw[v1 ha]at hx;rw[v1 e3];simp only[QA,QD]at hx |-;obtain⟨rfl,rfl⟩:=hx;refine⟨rfl,?_⟩;first|trivial|exact⟨rfl,rfl⟩
theorem zCm{ih:Ex}:∀ {ops:List (WF×List Nat)} {i g:Nat} {rs:List (Nat×Nat×Option (Nat×Nat×List Value))} {bs:List (Nat×Nat)} {fr af:WR} {h h':WA} (m:Nat) (wr:List Nat),zN5 ops=true->ZA P ih (ops.map (·.1)) fr h=some (af,h')->
  h'=h/\∃ m' CR,yH P ih ops i g [] rs bs fr {h with mark:=m,wr:=wr}=some (af,{h with mark:=m',wr:=CR},[]):=by
 intro ops;induction ops with
 |nil=>
  intro i g rs bs fr af h h' m wr _ hx;simp only[GP,ZA,QA,QD]at hx;obtain⟨rfl,rfl⟩:=hx;exact⟨rfl,m,wr,rfl⟩
 |cons x ops cI=>
  obtain⟨o,un⟩:=x;intro i g rs bs fr af h h' m wr hc hx;simp only[zN5,List.all_cons,QN]at hc;obtain⟨⟨iP,hk⟩,hc⟩:=hc;have iP:un=[]:=List.isEmpty_iff.1 iP;subst iP;simp only[Qm,ZA]at hx;cases ha:yU P ih o fr h with
  |none=>simp[ha]at hx
  |some q=>
   obtain⟨bB,h1⟩:=q;simp only[ha]at hx;obtain⟨rfl,e⟩:=zJh hk ha h1.n [];have cg:Nat.beq (zI o.op) 3=false:=by
    rcases(zCW hk).1 with k|k<;>rw[k]<;>rfl
   obtain⟨e1,m',CR,e2⟩:=cI (i:=i+1) (g:=g) (rs:=match zl fr.tm o with|some g=>(i,g,zAL fr.tm {h1 with mark:=h1.n,wr:=[]} o.op)::rs|none=>rs) (bs:=(i,h1.n)::bs) h1.n [] hc hx;refine⟨e1,m',CR,?_⟩;simp only[yH,yT,cg,QU];have e':yU P ih o fr {h1 with mark:=h1.n,wr:=[]}=some (bB,{h1 with mark:=h1.n,wr:=[]}):=e;rw[e'];simp only[List.all_nil,List.contains_nil,Qh,Q3,Qq,Qv,Qf,GP,GY];have hb:(bs.all fun _=>true)=true:=by simp
   have hr:(rs.all fun _=>true)=true:=by simp
   cases jy:zl fr.tm o with
   |none=>
    simp only[jy]at e2;simp only[hr,Qv,cond_true];exact e2
   |some g'=>
    simp only[jy]at e2;simp only[hb,hr,Qv,cond_true];exact e2
theorem Vc{ops fr h K}(hc:zN5 ops=true)(hx:WO P tab (ops.map (·.1)) fr h fun fr h=>K .normal fr h):WX P tab (.regionC ops) fr h K:=by
 unfold WO at hx;obtain⟨af,h',a,b⟩:=hx;have bW:(ops.filter fun x=>Nat.beq (zI x.1.op) 3).length=0:=by
  rw[Gm,List.filter_eq_nil_iff];intro x hx;have:=QX.1 hc x hx;simp only[QN]at this;rcases(zCW this.2).1 with k|k<;>rw[k]<;>simp
 have hh:h'=h:=by
  unfold Ev at b;obtain⟨N,b⟩:=b;exact(zCm (i:=0) (g:=0) (rs:=[]) (bs:=[]) 0 [] hc (b N (QE _))).1
 subst hh;unfold WX;refine⟨_,af,_,a,Ev.up (b.mono fun n e=> ?_)⟩;obtain⟨_,m',CR,e2⟩:=zCm (i:=0) (g:=h'.n) (rs:=[]) (bs:=[]) h'.mark h'.wr hc e;rw[zx];simp only[zv,Yo,bW,Nat.add_zero];rw[e2];simp
end
def WL(h0 h:WA)(v:Value)(l:List Int):Prop:=(v=.slice none 0 0/\l=[])\/Wq h0 h v l
theorem WL.sl{h0 h v l}(o:WL h0 h v l):WQ h v l:=by
 rcases o with⟨rfl,rfl⟩|o
 ·exact WQ.nil h
 ·exact o.sl
theorem WL.ext{h0 h h' v l}(o:WL h0 h v l)(e:Ext h h'):WL h0 h' v l:=o.imp id fun o=>o.ext e
theorem Wq.since{h0 h1 h v l}(o:Wq h1 h v l)(e:Ext h0 h1):Wq h0 h v l:=by
 obtain⟨g,a,b⟩:=o;exact⟨g,QP e.n a,b⟩
theorem WL.since{h0 h1 h v l}(o:WL h1 h v l)(e:Ext h0 h1):WL h0 h v l:=o.imp id fun o=>o.since e
def Bh(v:Value)(h h':WA):Prop:=h.n<=h'.n/\∀ g,g<h.n->(∀ a n c,v=.slice (some a) n c->a.block≠g)->h'.get g=h.get g
theorem zC7(l:List Int):zL (l.map I)=true:=by simp[zL]
section
variable {P:Program}{tab:Wy}{t:WG Value}{h h0:WA}{ds:List Deferred}{rd:Option Nat}{l:List WF}{Q:WR->WA->Prop}{d:Nat}
theorem Z1(h:WA)(o:Ws):Ext h (h.push o):=(Ext.refl h).push o
theorem zX(h:WA)(o:Ws):(h.push o).get h.n=some o:=by rw[zS,QF rfl]
theorem XT{n:Nat}{zero:List Value}{parts:List (Nat×Nat×Operand)}(xs:List Int)(hn:xs.length=n)(hf:Zy (zo zero n) (zu t parts)=some (xs.map I))
  (k:∀ v h',Ext h h'->Wq h h' v xs->WO P tab l ⟨t.set d v,ds,rd⟩ h' Q):WO P tab (⟨some d,none,.buildSlice n 1 zero parts⟩::l) ⟨t,ds,rd⟩ h Q:=by
 refine WO.op _ _ rfl (by simp only[WN,hf,QJ];rfl) (k _ _ (Z1 _ _) ⟨h.n,QE _,by simp[WA.push],by rw[hn],zX _ _⟩)
theorem zAh(l:List Int)(i:Nat)(a:Int)(hi:i<l.length):zh (l.map I) i [I a]=(l.set i a).map I:=by
 unfold zh;rw[<-List.map_take,QV,<-List.map_drop,List.set_eq_take_append_cons_drop,QF hi];simp
theorem XS{x y:Operand}{v:Value}{xs:List Int}{i:Nat}{a:Int}(hx:ev t x=yB v i)(hy:ev t y=I a)(o:Wq h0 h v xs)(e0:Ext h0 h)(hi:i<xs.length)
  (k:∀ h',Ext h0 h'->Wq h0 h' v (xs.set i a)->Bh v h h'->WO P tab l ⟨t,ds,rd⟩ h' Q):WO P tab (⟨none,none,.store 1 x y⟩::l) ⟨t,ds,rd⟩ h Q:=by
 obtain⟨g,g1,g2,rfl,g3⟩:=o;have aX:zr h ⟨g,i,none⟩ [I a]=some (h.set g (.row (zh (xs.map I) i [I a]) true 0)):=by
  have h1:Nat.ble (i+1) (xs.map I).length=true:=QH (by simp;omega);have h0:Nat.ble 0 i=true:=QH (QK _);simp only[zr,g3,QV,h1,h0,Qv];rfl
 rw[zAh _ _ _ hi]at aX;refine VP undef (h.set g (.row ((xs.set i a).map I) true 0)) rfl ?_ (k _ (e0.set g1 g2 _) ⟨g,g1,g2,by simp,by rw[zg,QF rfl]⟩ ⟨QE _,fun k _ hk=> ?_⟩)
 ·have hc:(I a).cells=#[I a]:=rfl;simp only[WN,hx,yB,hy,GH,hc,aX,QJ];rfl
 ·rw[zg,QC (fun e=>hk _ _ _ rfl e.symm)]
theorem XE{x y:Operand}{v w:Value}{xs ys:List Int}(hx:ev t x=v)(hy:ev t y=w)(o:WL h0 h v xs)(s:WQ h w ys)(e0:Ext h0 h)(aq:ys≠[])(hr:xs.length+ys.length<=4294967296)
  (k:∀ v' h',Ext h0 h'->Wq h0 h' v' (xs++ys)->Bh v h h'->WO P tab l ⟨t.set d v',ds,rd⟩ h' Q):WO P tab (⟨some d,none,.append 1 x y⟩::l) ⟨t,ds,rd⟩ h Q:=by
 have aT:=YF s;have a6:room=4294967296:=rfl;obtain⟨z,zs,rfl⟩:∃ z zs,ys=z::zs:=by
  cases ys with
  |nil=>exact absurd rfl aq
  |cons z zs=>exact⟨z,zs,rfl⟩
 have a9:zL (I z::zs.map I)=true:=zC7 (z::zs);have hlen:(I z::zs.map I).length / 1=(z::zs).length:=by simp
 rcases o with⟨rfl,rfl⟩|⟨g,g1,g2,rfl,g3⟩
 ·have h1:Nat.ble (z::zs).length room=true:=QH (by rw[a6];simpa using hr);refine WO.op (.slice (some ⟨h.n,0,none⟩) (z::zs).length 1) (h.push (.row ((z::zs).map I) true 0)) rfl ?_ (k _ _ (e0.push _) ⟨h.n,e0.n,by simp[WA.push],rfl,zX _ _⟩ ⟨Qr _,fun k hk _=> ?_⟩)
  ·simp only[WN,hx,hy,yb,aT,Qm,a9,hlen,h1,QW,cond_true,QU];rfl
  ·rw[zS,QC (by omega)]
 ·have h1:Nat.ble (xs.length+(z::zs).length) room=true:=QH (by rw[a6];exact hr);have h2:cut (xs.map I) 0 (xs.length*1)=some (xs.map I):=by rw[ZD (by simp)];simp[Q7]
  have hn:(h.kill g).n=h.n:=rfl;have h3:Nat.ble 0 (0+xs.length*1)=true:=QH (QK _);refine WO.op (.slice (some ⟨h.n,0,none⟩) (xs.length+(z::zs).length) 1) ((h.kill g).push (.row (xs.map I++(z::zs).map I) true (0-0))) rfl ?_
   (k _ _ ((e0.kill g1).push _) ⟨h.n,e0.n,by simp[WA.push,WA.kill],by simp,?_⟩ ⟨Qr _,fun k hk hv=> ?_⟩)
  ·simp only[WN,hx,hy,yb,aT,Qm,a9,hlen,h1,g3,h2,h3,QW,cond_true,QU];rfl
  ·have:=zX (h.kill g) (.row (xs.map I++(z::zs).map I) true (0-0));rw[hn]at this;rw[this];simp
  ·rw[zS,QC (by rw[hn];omega),yt,QC (fun e=>hv _ _ _ rfl e.symm)]
section
variable {P:Program}{tab:Wy}{t:WG Value}{h h0:WA}{ds:List Deferred}{rd:Option Nat}{l:List WF}{Q:WR->WA->Prop}{d:Nat}
end
def yE(p:Value)(j:Nat):Value:=match p with
 | .pointer (some a)=> .pointer (some ⟨a.block,a.off+j,none⟩)
 |_=>undef
def WB(h0 h:WA)(p:Value)(cells:List Value):Prop:=∃ g,h0.n<=g/\g<h.n/\p=.pointer (some ⟨g,0,none⟩)/\h.get g=some (.row cells true 0)
theorem WB.ext{h0 h h' p cells}(o:WB h0 h p cells)(e:Ext h h'):WB h0 h' p cells:=by
 obtain⟨g,a,b,c,d⟩:=o;exact⟨g,a,QI b e.n,c,(e.get g b).trans d⟩
theorem WB.since{h0 h1 h p cells}(o:WB h1 h p cells)(e:Ext h0 h1):WB h0 h p cells:=by
 obtain⟨g,a,b⟩:=o;exact⟨g,QP e.n a,b⟩
theorem WB.at0{h0 h p cells}(o:WB h0 h p cells):p=yE p 0:=by obtain⟨g,_,_,rfl,_⟩:=o;rfl
section
variable {P:Program}{tab:Wy}{ih:Ex}{t:WG Value}{h h0:WA}{ds:List Deferred}{rd:Option Nat}{l:List WF}{Q:WR->WA->Prop}{d:Nat}{p:Value}{cells:List Value}
theorem Ub{x:Operand}(cells:List Value)(hv:(ev t x).cells.toList=cells)(k:∀ p h',Ext h h'->WB h h' p cells->WO P tab l ⟨t.set d p,ds,rd⟩ h' Q):
  WO P tab (⟨some d,none,.box x⟩::l) ⟨t,ds,rd⟩ h Q:=by
 subst hv;exact WO.op _ _ rfl (by simp only[WN]) (k _ _ (Z1 _ _) ⟨h.n,QE _,by simp[WA.push],rfl,zX _ _⟩)
theorem XW{zero:List Value}(k:∀ p h',Ext h h'->WB h h' p zero->WO P tab l ⟨t.set d p,ds,rd⟩ h' Q):
  WO P tab (⟨some d,none,.alloc zero⟩::l) ⟨t,ds,rd⟩ h Q:=
 WO.op _ _ rfl (by simp only[WN]) (k _ _ (Z1 _ _) ⟨h.n,QE _,by simp[WA.push],rfl,zX _ _⟩)
theorem WB.idxArr{x y:Operand}{n c j i:Nat}(hx:ev t x=yE p j)(hy:BO (ev t y)=some i)(o:WB h0 h p cells)(hi:i<n):WN P ih t h (.idxArr n c x y)=some (yE p (j+i*c),h):=by
 obtain⟨g,_,_,rfl,_⟩:=o;have h1:Nat.ble (i+1) n=true:=QH hi;simp[WN,hx,hy,yE,h1]
theorem Vm{x y:Operand}{n c i:Nat}(hx:ev t x=p)(hy:BO (ev t y)=some i)(o:WB h0 h p cells)(hi:i<n):WN P ih t h (.idxArr n c x y)=some (yE p (i*c),h):=by
 have:=WB.idxArr (P:=P) (ih:=ih) (c:=c) (hx.trans o.at0) hy o hi;rwa [GH]at this
theorem WB.fld{x:Operand}{off j:Nat}(hx:ev t x=yE p j)(o:WB h0 h p cells):WN P ih t h (.fld off x)=some (yE p (j+off),h):=by
 obtain⟨g,_,_,rfl,_⟩:=o;simp[WN,hx,yE]
theorem XV{x:Operand}{off:Nat}(hx:ev t x=p)(o:WB h0 h p cells):WN P ih t h (.fld off x)=some (yE p off,h):=by
 have:=WB.fld (P:=P) (ih:=ih) (off:=off) (hx.trans o.at0) o;rwa [GH]at this
theorem WB.load{x:Operand}{agg:Bool}{n j:Nat}{r:Value}(hx:ev t x=yE p j)(o:WB h0 h p cells)(hr:(cut cells j n).bind (zO agg)=some r):WN P ih t h (.load agg n x)=some (r,h):=by
 obtain⟨g,_,_,rfl,hg⟩:=o;simp[WN,hx,yE,yj,hg,hr]
theorem Vl{x:Operand}{agg:Bool}{n:Nat}{r:Value}(hx:ev t x=p)(o:WB h0 h p cells)(hr:(cut cells 0 n).bind (zO agg)=some r):WN P ih t h (.load agg n x)=some (r,h):=
 WB.load (hx.trans o.at0) o hr
end
def BK(h0 h:WA)(m:Value)(es:List (Int×Int)):Prop:=
 ∃ g clock aM,h0.n<=g/\g<h.n/\m=.map (some g)/\h.get g=some (.map aM clock)/\aM.map (fun e=>(e.key,e.val))=es.map fun e=>(I e.1,I e.2)
theorem BK.ext{h0 h h' m es}(o:BK h0 h m es)(e:Ext h h'):BK h0 h' m es:=by
 obtain⟨g,c,aM,a,b,x,y,z⟩:=o;exact⟨g,c,aM,a,QI b e.n,x,(e.get g b).trans y,z⟩
theorem BK.upd{h0 h h' m es v xs}(o:BK h0 h m es)(s:WL h0 h v xs)(u:Bh v h h'):BK h0 h' m es:=by
 obtain⟨g,c,aM,a,b,x,y,z⟩:=o;refine⟨g,c,aM,a,QI b u.1,x,(u.2 g b fun q n k hv e=> ?_).trans y,z⟩;rcases s with⟨rfl,_⟩|⟨g2,_,_,rfl,w⟩
 ·cases hv
 ·cases hv;simp only at e;subst e;rw[y]at w;cases w
theorem zDY{n:Int}:∀ {aM:List MapEntry} {es:List (Int×Int)} (i:Nat),aM.map (fun e=>(e.key,e.val))=es.map (fun e=>(I e.1,I e.2))->es.lookup n=none->YT (I n) aM i=some none
 |[],[],_,_,_=>rfl
 |[],_::_,_,h,_=>by cases h
 |_::_,[],_,h,_=>by cases h
 |e::aM,(k,v)::es,i,h,hl=>by
  simp only[Qm,List.cons.injEq,QD]at h;rw[List.lookup_cons]at hl;split at hl
  ·cases hl
  ·rename_i hk;have:zDE (I n) e.key=some false:=by rw[h.1.1];simp only[zDE,Q6];rw[hk]
   simp only[YT,this];exact zDY (i+1) h.2 hl
theorem zFy{n v:Int}:∀ {aM:List MapEntry} {es:List (Int×Int)} (i:Nat),aM.map (fun e=>(e.key,e.val))=es.map (fun e=>(I e.1,I e.2))->es.lookup n=some v->∃ j,YT (I n) aM i=some (some (j,I v))
 |[],[],_,_,hl=>by cases hl
 |[],_::_,_,h,_=>by cases h
 |_::_,[],_,h,_=>by cases h
 |e::aM,(k,w)::es,i,h,hl=>by
  simp only[Qm,List.cons.injEq,QD]at h;rw[List.lookup_cons]at hl;split at hl
  ·rename_i hk;cases hl;have:zDE (I n) e.key=some true:=by rw[h.1.1];simp only[zDE,Q6];rw[hk]
   exact⟨i,by simp only[YT,this,h.1.2]⟩
  ·rename_i hk;have:zDE (I n) e.key=some false:=by rw[h.1.1];simp only[zDE,Q6];rw[hk]
   obtain⟨j,hj⟩:=zFy (i+1) h.2 hl;exact⟨j,by simp only[YT,this,hj]⟩
section
variable {P:Program}{tab:Wy}{t:WG Value}{h h0:WA}{ds:List Deferred}{rd:Option Nat}{l:List WF}{Q:WR->WA->Prop}{d:Nat}
theorem WO.mkMap(k:∀ m h',Ext h h'->BK h h' m []->WO P tab l ⟨t.set d m,ds,rd⟩ h' Q):WO P tab (⟨some d,none,.mkMap⟩::l) ⟨t,ds,rd⟩ h Q:=
 WO.op _ _ rfl (by simp only[WN]) (k _ _ (Z1 _ _) ⟨h.n,0,[],QE _,by simp[WA.push],rfl,zX _ _,rfl⟩)
def zNx(m:Value)(h h':WA):Prop:=h.n<=h'.n/\∀ g,g<h.n->m≠ .map (some g)->h'.get g=h.get g
theorem Wq.updM{h0 h h' m es v xs}(s:Wq h0 h v xs)(o:BK h0 h m es)(u:zNx m h h'):Wq h0 h' v xs:=by
 obtain⟨g,a,b,rfl,c⟩:=s;refine⟨g,a,QI b u.1,rfl,(u.2 g b fun e=> ?_).trans c⟩;obtain⟨g2,_,_,_,_,x,y,_⟩:=o;rw[x]at e;cases e;rw[c]at y;cases y
theorem WL.updM{h0 h h' m es v xs}(s:WL h0 h v xs)(o:BK h0 h m es)(u:zNx m h h'):WL h0 h' v xs:=s.imp id fun s=>s.updM o u
end
end
inductive Rd{H:Type}(P:Program)(h:WA):TypeId->List Value->DataW H->Prop
 |bool {t} (b:Bool) (ht:P.underlying t=some .bool):Rd P h t [.bool b] (.lit (.bool b))
 |int {t k} (n:Int) (ht:P.underlying t=some (.int k)) (wf:(Lit.int k n).wf=true):Rd P h t [.int k n] (.lit (.int k n))
 |string {t} (s:ByteArray) (ht:P.underlying t=some .string) (hs:s.size<=maxLen):Rd P h t [.string s] (.lit (.string s.data.toList))
 |snil {t e} (ht:P.underlying t=some (.slice e)):Rd P h t [.slice none 0 0] .nil
 |szero {t e} (a:Addr) (spare:List (DataW H)) (ht:P.underlying t=some (.slice e)):Rd P h t [.slice (some a) 0 (P.cellsOf e)] (.slice [] spare)
 |slice {t e} (g:Nat) (cells:List Value) (elems spare:List (DataW H)) (ht:P.underlying t=some (.slice e)) (hg:h.get g=some (.row cells false 0)) (hn:g<h.n) (hl:cells.length=elems.length*P.cellsOf e)
   (hm:elems.length<=maxLen) (hr:∀ (i:Nat) (d:DataW H),elems[i]?=some d->Rd P h e ((cells.drop (i*P.cellsOf e)).take (P.cellsOf e)) d):
   Rd P h t [.slice (some ⟨g,0,none⟩) elems.length (P.cellsOf e)] (.slice elems spare)
 |struct {t fs} (cells:List Value) (parts:List (DataW H)) (ht:P.underlying t=some (.struct fs)) (hl:cells.length=P.cellsOf t) (hp:parts.length=fs.size)
   (hr:∀ (i:Nat) (f:Field) (d:DataW H),fs[i]?=some f->parts[i]?=some d->Rd P h f.type ((cells.drop f.offset).take (P.cellsOf f.type)) d):Rd P h t cells (.agg parts)
 |array {t n e} (cells:List Value) (parts:List (DataW H)) (ht:P.underlying t=some (.array n e)) (hl:cells.length=P.cellsOf t) (hp:parts.length=n)
   (hr:∀ (i:Nat) (d:DataW H),parts[i]?=some d->Rd P h e ((cells.drop (i*P.cellsOf e)).take (P.cellsOf e)) d):Rd P h t cells (.agg parts)
theorem Rd.ext{H:Type}{P:Program}{h h':WA}{t:TypeId}{cells:List Value}{d:DataW H}(r:Rd P h t cells d)(e:Ext h h'):Rd P h' t cells d:=by
 induction r with
 |bool b ht=>exact .bool b ht
 |int n ht wf=>exact .int n ht wf
 |string s ht hs=>exact .string s ht hs
 |snil ht=>exact .snil ht
 |szero a sp ht=>exact .szero a sp ht
 |slice g cells elems sp ht hg hn hl hm _ ih=>exact .slice g cells elems sp ht ((e.get g hn).trans hg) (QI hn e.n) hl hm ih
 |struct cells parts ht hl hp _ ih=>exact .struct cells parts ht hl hp ih
 |array cells parts ht hl hp _ ih=>exact .array cells parts ht hl hp ih
def zBb(P:Program):List Field->Nat->Option Nat
 |[],n=>some n
 |f::l,n=>bif Nat.beq f.offset n then zBb P l (n+P.cellsOf f.type)else none
def zAG(P:Program):Nat->TypeId->Bool
 |0,_=>false
 |n+1,t=>match P.underlying t with
  |some .bool|some (.int _)|some .string=>true
  |some (.slice e)=>Nat.ble 1 (P.cellsOf e)&&zAG P n e
  |some (.struct fs)=>(match zBb P fs.toList 0 with|some m=>Nat.beq m (P.cellsOf t)|none=>false)&&fs.toList.all fun f=>zAG P n f.type
  |some (.array m e)=>Nat.beq (m*P.cellsOf e) (P.cellsOf t)&&zAG P n e
  |_=>false
def zM8(h:WA):Prop:=∀ g o,h.get g=some o->zCO o=false
section
variable {P:Program}{H:Type}{enc:TypeId×Value->H}{w:World}{B:Nat}
theorem zIj{σ:Nat->Option Pl}{h:WA}(hr:Wg P B σ h w)(bW:zM8 h)(dx:∀ g o,h.get g=some o->∃ c l,o=.row c false l){cells:List Value}{pl:Pl}(hb:pl.b<w.heap.size)
  (ho:Be P σ pl (.row cells false 0) w):
  Wg P B (Zu σ h.n pl) (h.push (.row cells false 0)) w/\zM8 (h.push (.row cells false 0))/\(∀ g o,(h.push (.row cells false 0)).get g=some o->∃ c l,o=.row c false l)/\Le σ (Zu σ h.n pl):=by
 have hle:Le σ (Zu σ h.n pl):=zBx hr pl;have bZ:h.get h.n=none:=by
  cases hg:h.get h.n with
  |none=>rfl
  |some o=>obtain⟨pl,h1,_⟩:=hr.live _ _ hg;have:=(hr.lt _ _ h1).1;omega
 have jz:∀ g o,(h.push (.row cells false 0)).get g=some o->∃ c l,o=.row c false l:=fun g o hg=>by
  rw[zS]at hg;split at hg
  ·cases hg;exact⟨_,_,rfl⟩
  ·exact dx g o hg
 refine⟨⟨fun g hg=> ?_,fun g p hg=> ?_,fun g o hg=> ?_,fun g o g' o' p p' hg jS _ _ _ _=> ?_,hr.le⟩,fun g o hg=> ?_,jz,hle⟩
 ·obtain⟨p,h1,h2⟩:=hr.globals g hg;exact⟨p,hle _ _ h1,h2⟩
 ·unfold Zu at hg;split at hg
  ·cases hg;rename_i e;subst e;exact⟨by simp[WA.push],hb⟩
  ·have:=hr.lt g p hg;exact⟨by simp[WA.push];omega,this.2⟩
 ·rw[zS]at hg;split at hg
  ·rename_i e;subst e;cases hg;exact⟨pl,yR _ _ _,ho.keep hle rfl,fun x=>by cases x⟩
  ·obtain⟨p,h1,h2,h3⟩:=hr.live g o hg;exact⟨p,hle _ _ h1,h2.keep hle rfl,h3⟩
 ·obtain⟨c,l,rfl⟩:=jz g o hg;obtain⟨c',l',rfl⟩:=jz g' o' jS;exact⟨fun⟨x,_⟩=>Bool.noConfusion x,fun x=>Bool.noConfusion x,fun x=>Bool.noConfusion x⟩
 ·obtain⟨c,l,rfl⟩:=jz g o hg;rfl
structure Bk(P:Program)(B:Nat)(σ:Nat->Option Pl)(h:WA)(w:World):Prop where
 rel:Wg P B σ h w
 rows:∀ g o,h.get g=some o->∃ c l,o=.row c false l
 wf:Wf h
theorem Bk.no{σ:Nat->Option Pl}{h:WA}(c:Bk P B σ h w):zM8 h:=fun g o hg=>by obtain⟨c,l,rfl⟩:=c.rows g o hg;rfl
theorem zEq:∀ {as:List (List Value)} {i:Nat} {a:List Value},as[i]?=some a->(as.flatten.drop ((as.take i).flatten.length)).take a.length=a
 |[],i,a,h=>by simp at h
 |x::as,0,a,h=>by simp at h;subst h;simp
 |x::as,i+1,a,h=>by
  simp at h;have:=zEq h;simp only[Qo,GW,QM];rw[List.drop_append,List.drop_of_length_le (by omega),GJ];have e:x.length+(as.take i).flatten.length-x.length=(as.take i).flatten.length:=by omega
  rw[e];exact this
theorem zEo{c:Nat}:∀ {as:List (List Value)},(∀ a∈as,a.length=c)->as.flatten.length=as.length*c
 |[],_=>by simp
 |x::as,h=>by
  have:=zEo (as:=as) (fun a ha=>h a (by simp[ha]));simp only[GW,QM,GF,this,h x (by simp)];rw[Gv];omega
theorem zBY(R:TypeId->List Value->DataW H->Prop)
  (one:∀ t cs d,R t cs d->∀ σ h,Bk P B σ h w->∃ σ' h' dc,Bk P B σ' h' w/\Ext h h'/\Le σ σ'/\WW σ' dc cs/\Rd P h' t dc d):
  ∀ (l:List (TypeId×List Value×DataW H)),(∀ p∈l,R p.1 p.2.1 p.2.2)->∀ σ h,Bk P B σ h w->
   ∃ (σ':Nat->Option Pl) (h':WA) (as:List (List Value)),Bk P B σ' h' w/\Ext h h'/\Le σ σ'/\as.length=l.length/\∀ (i:Nat) (a:List Value) (p:TypeId×List Value×DataW H),as[i]?=some a->l[i]?=some p->WW σ' a p.2.1/\Rd P h' p.1 a p.2.2:=by
 intro l;induction l with
 |nil=>intro _ σ h hc;exact⟨σ,h,[],hc,Ext.refl h,.refl _,rfl,fun i a p ha=>by simp at ha⟩
 |cons p l ih=>
  intro hl σ h hc;obtain⟨σ1,h1,a1,c1,e1,l1,r1,d1⟩:=one _ _ _ (hl p (by simp)) σ h hc;obtain⟨σ2,h2,as,c2,e2,l2,n2,r2⟩:=ih (fun q hq=>hl q (by simp[hq])) σ1 h1 c1;refine⟨σ2,h2,a1::as,c2,e1.trans e2,l1.trans l2,by simp[n2],fun i a q ha hq=> ?_⟩;cases i with
  |zero=>simp at ha hq;subst ha hq;exact⟨r1.mono l2,d1.ext e2⟩
  |succ i=>simp at ha hq;exact r2 i a q ha hq
theorem zGI{σ:Nat->Option Pl}:∀ {as cs:List (List Value)},as.length=cs.length->(∀ (i:Nat) a c,as[i]?=some a->cs[i]?=some c->WW σ a c)->WW σ as.flatten cs.flatten
 |[],[],_,_=>WW.nil _
 |a::as,c::cs,hl,h=>by
  simp only[GW];exact(h 0 a c rfl rfl).append (zGI (by simpa using hl) fun i x y hx hy=>h (i+1) x y (by simpa using hx) (by simpa using hy))
 |[],_::_,hl,_=>by simp at hl
 |_::_,[],hl,_=>by simp at hl
theorem zKT(a:Addr)(ha:a.spot=none)(i:Nat):a.add i=⟨a.block,a.off+i,none⟩:=by
 unfold Addr.add;split
 ·rename_i e;subst e;obtain⟨b,o,s⟩:=a;simp only at ha;subst ha;rfl
 ·rfl
theorem zJY{σ:Nat->Option Pl}:∀ (sz:List Nat) (as:List (List Value)) (cs:List Value),sz.sum=cs.length->as.length=sz.length->
  (∀ (i:Nat) a s,as[i]?=some a->sz[i]?=some s->WW σ a ((cs.drop (sz.take i).sum).take s))->
  WW σ as.flatten cs/\∀ (i:Nat) a s,as[i]?=some a->sz[i]?=some s->a.length=s/\(as.flatten.drop (sz.take i).sum).take s=a
 |[],[],cs,hs,_,_=>by
  have:cs=[]:=Gm.1 (by simpa using hs.symm);subst this;exact⟨WW.nil _,fun i a s ha=>by simp at ha⟩
 |[],_::_,_,_,hl,_=>by simp at hl
 |_::_,[],_,_,hl,_=>by simp at hl
 |s::sz,a::as,cs,hs,hl,h=>by
  have h0:=h 0 a s rfl rfl;simp only[GC,List.sum_nil,Q2]at h0;have CS:sz.sum+s=cs.length:=by simp at hs;omega
  have al:a.length=s:=by rw[h0.1];simp;omega
  obtain⟨i1,i2⟩:=zJY sz as (cs.drop s) (by simp;omega) (by simpa using hl) (fun i x y hx hy=>by
   have:=h (i+1) x y (by simpa using hx) (by simpa using hy);simpa [List.drop_drop]using this)
  refine⟨?_,fun i x y hx hy=> ?_⟩
  ·have:=h0.append i1;simpa using this
  ·cases i with
   |zero=>
    simp at hx hy;subst hx hy;refine⟨al,?_⟩;simp only[GC,List.sum_nil,Q2,GW];rw[<-al];simp
   |succ i=>
    simp at hx hy;obtain⟨j1,j2⟩:=i2 i x y hx hy;refine⟨j1,?_⟩;simp only[Qo,JE,GW];rw[List.drop_append,List.drop_of_length_le (by omega),GJ];have e:s+(sz.take i).sum-a.length=(sz.take i).sum:=by omega
    rw[e];exact j2
theorem zBO:∀ {l:List Field} {n m:Nat},zBb P l n=some m->m=n+(l.map fun f=>P.cellsOf f.type).sum/\
  ∀ (i:Nat) (f:Field),l[i]?=some f->f.offset=n+((l.map fun f=>P.cellsOf f.type).take i).sum
 |[],n,m,h=>by simp[zBb]at h;subst h;exact⟨by simp,fun i f hf=>by simp at hf⟩
 |f::l,n,m,h=>by
  unfold zBb at h;cases hb:Nat.beq f.offset n with
  |false=>simp[hb]at h
  |true=>
   have cY:=QO hb;simp only[hb,cond_true]at h;obtain⟨h1,h2⟩:=zBO h;refine⟨by rw[h1];simp;omega,fun i g hg=> ?_⟩;cases i with
   |zero=>simp at hg;subst hg;simpa using cY
   |succ i=>simp at hg;rw[h2 i g hg];simp;omega
theorem zQm(L:List Value)(off c:Nat)(f:Nat->List Value):∀ len,(∀ i,i<len->f i=(L.drop (off+i*c)).take c)->((List.range len).map f).flatten=(L.drop off).take (len*c):=by
 intro len;induction len with
 |zero=>intro _;simp
 |succ n ih=>
  intro h;rw[G3,Qx,List.flatten_append,ih (fun i hi=>h i (by omega))];simp only[Qm,GP,GW,List.flatten_nil,GY];rw[h n (by omega),G8,List.take_add,List.drop_drop]
theorem zIk:∀ (n:Nat) (t:TypeId) (cs:List Value) (x:DataW H×List MemPlace),DataW.trod enc P w 0 (fun _=>true) true n t cs=some x->∀ (m:Nat),zAG P m t=true->
  ∀ (σ:Nat->Option Pl) (h:WA),Bk P B σ h w->∃ (σ':Nat->Option Pl) (h':WA) (dc:List Value),Bk P B σ' h' w/\Ext h h'/\Le σ σ'/\WW σ' dc cs/\Rd P h' t dc x.1:=by
 intro n;induction n with
 |zero=>intro t cs x hx;simp[DataW.trod]at hx
 |succ n ih=>
  intro t cs x hx m hm σ h hc;have one:∀ t cs (d:DataW H),(∃ x,DataW.trod enc P w 0 (fun _=>true) true n t cs=some x/\x.1=d/\∃ m,zAG P m t=true)->∀ σ h,Bk P B σ h w->
    ∃ (σ':Nat->Option Pl) (h':WA) (dc:List Value),Bk P B σ' h' w/\Ext h h'/\Le σ σ'/\WW σ' dc cs/\Rd P h' t dc d:=fun t cs d ⟨x,h1,h2,m,h3⟩ σ h hc=>by
   subst h2;exact ih t cs x h1 m h3 σ h hc
  cases m with
  |zero=>cases hm
  |succ m=>
  cases hu:P.underlying t with
  |none=>simp[zAG,hu]at hm
  |some u=>
  cases u with
  |bool=>
   obtain⟨b,rfl,rfl⟩:=DataW.trod_bool hu hx;exact⟨σ,h,_,hc,Ext.refl h,.refl _,.cons (.bool b) (.nil _),.bool b hu⟩
  |int k=>
   obtain⟨b,rfl,rfl,wf⟩:=DataW.trod_int hu hx;exact⟨σ,h,_,hc,Ext.refl h,.refl _,.cons (.int k b) (.nil _),.int b hu wf⟩
  |string=>
   obtain⟨b,rfl,rfl,wf⟩:=DataW.trod_string hu hx;exact⟨σ,h,_,hc,Ext.refl h,.refl _,.cons (.string b) (.nil _),.string b hu wf⟩
  |struct fs=>
   obtain⟨xs,n',e,rfl,hl,qQ,hf⟩:=DataW.trod_struct hu hx;cases e;simp only[zAG,hu,QN,QX]at hm;obtain⟨cH,cS⟩:=hm;cases iR:zBb P fs.toList 0 with
   |none=>simp[iR]at cH
   |some q=>
   simp only[iR]at cH;have hq:=QO cH;obtain⟨c1,c2⟩:=zBO iR;let l:List (TypeId×List Value×DataW H):=(fs.toList.zip xs).map fun p=>(p.1.type,(cs.drop p.1.offset).take (P.cellsOf p.1.type),p.2.1)
   have hlen:l.length=fs.size:=by simp[l,qQ]
   have bq:∀ (i:Nat) p,l[i]?=some p->∃ f y,fs[i]?=some f/\xs[i]?=some y/\p=(f.type,(cs.drop f.offset).take (P.cellsOf f.type),y.1):=fun i p hp=>by
    simp only[l,GQ,QQ]at hp;obtain⟨⟨f,y⟩,h1,h2⟩:=hp;rw[List.getElem?_zip_eq_some]at h1;exact⟨f,y,by simpa using h1.1,h1.2,h2.symm⟩
   obtain⟨σ',h',as,k1,k2,k3,k4,k5⟩:=zBY _ one l (fun p hp=>by
    obtain⟨i,hi⟩:=Gt.1 hp;obtain⟨f,y,h1,h2,rfl⟩:=bq i p hi;exact⟨y,by rw[hf i f h1,h2],rfl,m,cS f (Gl (by simpa using h1))⟩) σ h hc
   have hsz:∀ (i:Nat) s,(fs.toList.map fun f=>P.cellsOf f.type)[i]?=some s->∃ f y,fs[i]?=some f/\xs[i]?=some y/\s=P.cellsOf f.type/\l[i]?=some (f.type,(cs.drop f.offset).take (P.cellsOf f.type),y.1):=fun i s hs=>by
    simp only[GQ,QQ]at hs;obtain⟨f,h1,h2⟩:=hs;have hi:i<fs.size:=by simpa using(QR.1 h1).1
    have hy:xs[i]?=some (xs[i]'(by omega)):=QB _;refine⟨f,_,by simpa using h1,hy,h2.symm,?_⟩;simp only[l,GQ];have hz:(fs.toList.zip xs)[i]?=some (f,xs[i]'(by omega)):=List.getElem?_zip_eq_some.2 ⟨h1,hy⟩;rw[hz];rfl
   obtain⟨p1,p2⟩:=zJY (σ:=σ') (fs.toList.map fun f=>P.cellsOf f.type) as cs (by omega) (by rw[k4,hlen];simp) (fun i a s ha hs=>by
    obtain⟨f,y,h1,h2,rfl,h3⟩:=hsz i s hs;have:=(k5 i a _ ha h3).1;rw[c2 i f (by simpa using h1),GH]at this;exact this)
   refine⟨σ',h',as.flatten,k1,k2,k3,p1,.struct _ _ hu (by rw[p1.1];exact hl) (by simpa using qQ) fun i f d fI hd=> ?_⟩;simp only[GQ,QQ]at hd;obtain⟨y,hy,rfl⟩:=hd;have hs:(fs.toList.map fun f=>P.cellsOf f.type)[i]?=some (P.cellsOf f.type):=by simp[fI]
   obtain⟨f',y',h1,h2,h4,h3⟩:=hsz i _ hs;rw[fI]at h1;cases h1;rw[hy]at h2;cases h2;have hi:i<as.length:=by rw[k4];exact(QR.1 h3).1
   have ha:as[i]?=some as[i]:=QB _;have e1:=(p2 i _ _ ha hs).2;rw[c2 i f (by simpa using fI),GH,e1];exact(k5 i _ _ ha h3).2
  |array k e=>
   obtain⟨xs,n',e',rfl,hl,qQ,hf⟩:=DataW.trod_array hu hx;cases e';simp only[zAG,hu,QN]at hm;obtain⟨cH,cS⟩:=hm;have hq:=QO cH;let l:List (TypeId×List Value×DataW H):=(List.range k).map fun i=>(e,(cs.drop (i*P.cellsOf e)).take (P.cellsOf e),((xs[i]?).map (·.1)).getD .nil)
   have bq:∀ (i:Nat),i<k->∃ y,xs[i]?=some y/\l[i]?=some (e,(cs.drop (i*P.cellsOf e)).take (P.cellsOf e),y.1):=fun i hi=>by
    have hy:xs[i]?=some (xs[i]'(by omega)):=QB _;exact⟨_,hy,by simp[l,hi,hy]⟩
   obtain⟨σ',h',as,k1,k2,k3,k4,k5⟩:=zBY _ one l (fun p hp=>by
    obtain⟨i,hi⟩:=Gt.1 hp;have gg:i<k:=by have:=(QR.1 hi).1;simpa [l]using this
    obtain⟨y,h1,h2⟩:=bq i gg;rw[h2]at hi;cases hi;exact⟨y,by rw[hf i gg,h1],rfl,m,cS⟩) σ h hc
   have eh:∀ i,i<=k->((List.replicate k (P.cellsOf e)).take i).sum=i*P.cellsOf e:=fun i hi=>by
    rw[List.take_replicate,List.sum_replicate_nat,Gg hi]
   obtain⟨p1,p2⟩:=zJY (σ:=σ') (List.replicate k (P.cellsOf e)) as cs (by rw[List.sum_replicate_nat];omega) (by rw[k4];simp[l]) (fun i a s ha hs=>by
    have gg:i<k:=by have:=(QR.1 hs).1;simpa using this
    obtain⟨y,h1,h2⟩:=bq i gg;have CS:s=P.cellsOf e:=by rw[JG,QF gg]at hs;exact(GL hs).symm
    subst CS;rw[eh i (by omega)];exact(k5 i a _ ha h2).1)
   refine⟨σ',h',as.flatten,k1,k2,k3,p1,.array _ _ hu (by rw[p1.1];exact hl) (by simpa using qQ) fun i d hd=> ?_⟩;simp only[GQ,QQ]at hd;obtain⟨y,hy,rfl⟩:=hd;have gg:i<k:=by have:=(QR.1 hy).1;omega
   obtain⟨y',h1,h2⟩:=bq i gg;rw[hy]at h1;cases h1;have hi:i<as.length:=by rw[k4];exact(QR.1 h2).1
   have ha:as[i]?=some as[i]:=QB _;have e1:=(p2 i _ (P.cellsOf e) ha (by simp[gg])).2;rw[eh i (by omega)]at e1;rw[e1];exact(k5 i _ _ ha h2).2
  |slice e=>
   simp only[zAG,hu,QN]at hm;obtain⟨cH,cS⟩:=hm;have nB:1<=P.cellsOf e:=QS cH;rcases DataW.trod_slice hu hx with⟨rfl,rfl⟩|⟨a,len,cap,elems,rest,n',e',rfl,rfl,_,jv,aY,jA,fO,fq,_⟩
   ·exact⟨σ,h,_,hc,Ext.refl h,.refl _,.cons .snil (.nil _),.snil hu⟩
   cases e';obtain⟨sJ,Ns⟩:=fq rfl;by_cases wY:cap=0
   ·subst wY;have:len=0:=by omega
    subst this;have:elems=[]:=Gm.1 jA;subst this;exact⟨σ,h,_,hc,Ext.refl h,.refl _,.cons (.szero a a _) (.nil _),.szero a _ hu⟩
   ·generalize lZ:P.cellsOf e=c at *;have aF:∀ i,i<cap->∃ cs,w.cells? 0 (a.add (i*c)) c=some cs:=fun i hi=>by
     by_cases dG:i<len
     ·have:=fO i dG;rw[QB (by omega)]at this;obtain⟨cs,h1,_⟩:=Option.bind_eq_some_iff.1 this;exact⟨cs,h1⟩
     ·have:=Ns (i-len) (by omega);rw[QB (by omega),show len+(i-len)=i by omega]at this;obtain⟨cs,h1,_⟩:=Option.bind_eq_some_iff.1 this;exact⟨cs,h1⟩
    have l9:a.spot=none:=by
     obtain⟨cs,h1⟩:=aF 0 (by omega);obtain⟨_,h2,h3⟩:=World.cells?_some h1;have h4:=h3 0 (by omega);rw[Nat.zero_mul]at h4;have h5:(a.add 0).add 0=a:=by simp[Addr.add]
     rw[h5,QB (by omega)]at h4;exact World.cell?_spot h4
    have sM:∀ i j,(a.add i).add j=⟨a.block,a.off+i+j,none⟩:=fun i j=>by
     rw[zKT a l9,zKT _ rfl]
    obtain⟨cV,elem,fr,dP⟩:∃ cV elem fr,w.heap[a.block]?=some (.cells cV elem fr):=by
     obtain⟨cs,h1⟩:=aF 0 (by omega);obtain⟨_,h2,h3⟩:=World.cells?_some h1;have h4:=h3 0 (by omega);rw[sM,QB (by omega)]at h4;unfold World.cell? at h4;split at h4
     ·exact⟨_,_,_,by assumption⟩
     ·cases h4
    have dY:∀ k,w.cell? ⟨a.block,k,none⟩=cV[k]?:=fun k=>by simp[World.cell?,dP]
    have iS:∀ i,i<cap->w.cells? 0 (a.add (i*c)) c=some ((cV.toList.drop (a.off+i*c)).take c)/\a.off+i*c+c<=cV.size:=fun i hi=>by
     obtain⟨cs,h1⟩:=aF i hi;obtain⟨_,h2,h3⟩:=World.cells?_some h1;have hb:a.off+i*c+c<=cV.size:=by
      have h4:=h3 (c-1) (by omega);rw[sM,dY,QB (by omega)]at h4;have:=(G1.1 h4).1;omega
     refine⟨?_,hb⟩;rw[h1];congr 1;apply List.ext_getElem?;intro j;by_cases hj:j<c
     ·rw[<-h3 j hj,sM,dY,GM,QF hj,Gf];simp
     ·rw[JA (by omega),JA (by simp;omega)]
    have hbound:a.off+cap*c<=cV.size:=by
     have:=(iS (cap-1) (by omega)).2;have e2:(cap-1)*c+c=cap*c:=by
      rw[<-G8];congr 1;omega
     omega
    let l:List (TypeId×List Value×DataW H):=(List.range len).map fun i=>(e,(cV.toList.drop (a.off+i*c)).take c,((elems[i]?).map (·.1)).getD .nil)
    have bq:∀ (i:Nat),i<len->∃ y,elems[i]?=some y/\l[i]?=some (e,(cV.toList.drop (a.off+i*c)).take c,y.1):=fun i hi=>by
     have hy:elems[i]?=some (elems[i]'(by omega)):=QB _;exact⟨_,hy,by simp[l,hi,hy]⟩
    obtain⟨σ',h',as,k1,k2,k3,k4,k5⟩:=zBY _ one l (fun p hp=>by
     obtain⟨i,hi⟩:=Gt.1 hp;have gg:i<len:=by have:=(QR.1 hi).1;simpa [l]using this
     obtain⟨y,h1,h2⟩:=bq i gg;rw[h2]at hi;cases hi;have:=fO i gg;rw[(iS i (by omega)).1,h1]at this;exact⟨y,this,rfl,m,cS⟩) σ h hc
    have hlen:as.length=len:=by rw[k4];simp[l]
    have jT:∀ (i:Nat) x,as[i]?=some x->i<len/\x.length=c:=fun i x hx=>by
     have hi:i<len:=by have:=(QR.1 hx).1;omega
     obtain⟨y,_,h2⟩:=bq i hi;have:=(k5 i x _ hx h2).1.1;refine⟨hi,?_⟩;rw[this];have:=(iS i (by omega)).2;simp;omega
    have cG:as.flatten.length=len*c:=by
     rw[zEo (c:=c) (fun x hx=>by obtain⟨i,hi⟩:=Gt.1 hx;exact(jT i x hi).2),hlen]
    have lM:WW σ' as.flatten ((cV.toList.drop a.off).take (len*c)):=by
     rw[<-zQm cV.toList a.off c (fun i=>(cV.toList.drop (a.off+i*c)).take c) len (fun i _=>rfl)];refine zGI (by simp[hlen]) fun i x y hx hy=> ?_;obtain⟨hi,_⟩:=jT i x hx;obtain⟨z,_,h2⟩:=bq i hi;have nA:y=(cV.toList.drop (a.off+i*c)).take c:=by
      rw[GQ,List.getElem?_range hi]at hy;exact(GL hy).symm
     rw[nA];exact(k5 i x _ hx h2).1
    let pl:Pl:=⟨a.block,a.off,cV.size⟩
    have Nt:len*c<=cap*c:=GK c jv;have pq:Be P σ' pl (.row as.flatten false 0) w:=by
     refine⟨cV,elem,fr,dP,rfl,by show a.off+as.flatten.length<=cV.size;omega,fun i v hv=> ?_,fun x=>by cases x⟩;have hi:i<len*c:=by have:=(QR.1 hv).1;omega
     obtain⟨y,hy,Nu⟩:=lM.get hv;rw[GM,QF hi,Gf]at hy;exact⟨y,by simpa using hy,Nu⟩
    obtain⟨r1,_,r3,r4⟩:=zIj k1.rel k1.no k1.rows (cells:=as.flatten) (pl:=pl) (G1.1 dP).1 pq;refine⟨Zu σ' h'.n pl,h'.push (.row as.flatten false 0),[.slice (some ⟨h'.n,0,none⟩) (elems.map (·.1)).length c],⟨r1,r3,(Z1 h' _).wf k1.wf⟩,k2.trans (Z1 h' _),k3.trans r4,?_,?_⟩
    ·refine .cons ?_ (.nil _);obtain⟨b,o,sp⟩:=a;simp only at l9;subst l9;have:=WI.slice (σ:=Zu σ' h'.n pl) (g:=h'.n) (off:=0) (len:=len) (c:=c) (cap:=cap) (pl:=pl) (yR _ _ _) (by omega) jv hbound;simpa [pl,jA]using this
    ·subst lZ;refine .slice h'.n as.flatten _ _ hu (zX _ _) (by simp[WA.push]) (by rw[cG];simp[jA]) (by simp[jA];omega) fun i d hd=> ?_;simp only[GQ,QQ]at hd;obtain⟨y,hy,rfl⟩:=hd;have hi:i<len:=by have:=(QR.1 hy).1;omega
     obtain⟨y',h1,h2⟩:=bq i hi;rw[hy]at h1;cases h1;have ha:as[i]?=some (as[i]'(by omega)):=QB _;have hp:=zEq ha;have gQ:(as.take i).flatten.length=i*P.cellsOf e:=by
      rw[zEo (c:=P.cellsOf e) (fun x hx=>by
       obtain⟨j,hj⟩:=Gt.1 (Q5 hx);exact(jT j x hj).2)]
      simp[Gg (by omega:i<=as.length)]
     rw[gQ,(jT i _ ha).2]at hp;rw[hp];exact(k5 i _ _ ha h2).2.ext (Z1 h' _)
  |_=>simp[zAG,hu]at hm
end
section
variable {P:Program}{H:Type}{enc:TypeId×Value->H}{w:World}{B:Nat}{σ:Nat->Option Pl}{h:WA}
theorem zKm{tab:Wy}(gf:P.follows .mixedOrders=true)(dQ:tab.Ok P)(hc:Bk P B σ h w){f:FuncId}{args:List Value}{as:Array Value}(hl:WW σ args as.toList)
  (hx:WC P tab f args h fun r _=>r=.bool true):Calls P f as w fun e w'=>e=.returned (.bool true)/\Below B w w':=by
 unfold WC at hx;obtain⟨v,h',rfl,ev⟩:=hx;obtain⟨n,hn⟩:=ev.get;exact zLx gf dQ (n:=n) (by rw[hn];rfl) hc.rel hl
theorem zLb{t:TypeId}{v:Value}{d:DataW H}{p:List MemPlace}(hd:DataW.Trod enc P w 0 (fun _=>true) true t v d p)(m:Nat)(hm:zAG P m t=true)(hc:Bk P B σ h w):
  ∃ (σ':Nat->Option Pl) (h':WA) (dc:List Value),Bk P B σ' h' w/\Ext h h'/\Le σ σ'/\WW σ' dc v.cells.toList/\Rd P h' t dc d:=by
 obtain⟨n,hn⟩:=hd;exact zIk n t _ _ hn m hm σ h hc
theorem YP{t:TypeId}{k:IntKind}{dc:List Value}{d:DataW H}(r:Rd P h t dc d)(ht:P.underlying t=some (.int k)):∃ n,dc=[.int k n]/\(Lit.int k n).wf=true:=by
 cases r with
 |int n aR wf=>rw[ht]at aR;cases aR;exact⟨n,rfl,wf⟩
 |bool _ aR=>rw[ht]at aR;cases aR
 |string _ aR=>rw[ht]at aR;cases aR
 |snil aR=>rw[ht]at aR;cases aR
 |szero _ _ aR=>rw[ht]at aR;cases aR
 |slice _ _ _ _ aR=>rw[ht]at aR;cases aR
 |struct _ _ aR=>rw[ht]at aR;cases aR
 |array _ _ aR=>rw[ht]at aR;cases aR
theorem zE4{t e:TypeId}{dc:List Value}{d:DataW H}(r:Rd P h t dc d)(ht:P.underlying t=some (.slice e)):
  (dc=[.slice none 0 0]/\d=.nil)\/(∃ a sp,dc=[.slice (some a) 0 (P.cellsOf e)]/\d=.slice [] sp)\/
  ∃ g cells elems sp,dc=[.slice (some ⟨g,0,none⟩) elems.length (P.cellsOf e)]/\d=.slice elems sp/\h.get g=some (.row cells false 0)/\g<h.n/\cells.length=elems.length*P.cellsOf e/\elems.length<=maxLen/\
   ∀ (i:Nat) (d:DataW H),elems[i]?=some d->Rd P h e ((cells.drop (i*P.cellsOf e)).take (P.cellsOf e)) d:=by
 cases r with
 |int n aR wf=>rw[ht]at aR;cases aR
 |bool _ aR=>rw[ht]at aR;cases aR
 |string _ aR=>rw[ht]at aR;cases aR
 |snil aR=>exact .inl ⟨rfl,rfl⟩
 |szero a sp aR=>rw[ht]at aR;cases aR;exact .inr (.inl ⟨a,sp,rfl,rfl⟩)
 |slice g cells elems sp aR hg hn hl hm hr=>rw[ht]at aR;cases aR;exact .inr (.inr ⟨g,cells,elems,sp,rfl,rfl,hg,hn,hl,hm,hr⟩)
 |struct _ _ aR=>rw[ht]at aR;cases aR
 |array _ _ aR=>rw[ht]at aR;cases aR
theorem zPE{t e:TypeId}{dc:List Value}{d:DataW H}(r:Rd P h t dc d)(ht:P.underlying t=some (.slice e))(he:P.underlying e=some (.int .i64))(hc:P.cellsOf e=1):
  ∃ av l,dc=[av]/\WQ h av l/\(l.length:Int)<=9223372036854775807/\∀ a∈l,(Lit.int .i64 a).wf=true:=by
 rcases zE4 r ht with⟨rfl,_⟩|⟨a,sp,rfl,_⟩|⟨g,cells,elems,sp,rfl,rfl,hg,hn,hl,hm,hr⟩
 ·exact⟨_,[],rfl,WQ.nil h,by simp,fun a ha=>by cases ha⟩
 ·refine⟨_,[],rfl,?_,by simp,fun a ha=>by cases ha⟩;exact⟨by simp,.inl ⟨rfl,.inr ⟨_,_,rfl⟩⟩⟩
 ·rw[hc]at hl hr |-;simp only[G4]at hl hr;have key:∀ i,i<cells.length->∃ n,cells[i]?=some (I n)/\(Lit.int .i64 n).wf=true:=fun i hi=>by
   have hd:elems[i]?=some (elems[i]'(by omega)):=QB _;obtain⟨n,e1,e2⟩:=YP (hr i _ hd) he;rw[GU hi,Qo,GC]at e1;exact⟨n,by rw[QB hi];simpa using e1,e2⟩
  obtain⟨l,rfl,hw⟩:∃ l:List Int,cells=l.map I/\∀ a∈l,(Lit.int .i64 a).wf=true:=by
   clear hg hl hr;induction cells with
   |nil=>exact⟨[],rfl,fun a ha=>by cases ha⟩
   |cons x xs ih=>
    obtain⟨n,e1,e2⟩:=key 0 (by simp);obtain⟨l,rfl,e3⟩:=ih fun i hi=>by
     have:=key (i+1) (by simpa using hi);simpa using this
    simp at e1;subst e1;exact⟨n::l,rfl,fun a ha=>by
     rcases GG.1 ha with rfl|ha
     ·exact e2
     ·exact e3 a ha⟩
  have hle:elems.length=l.length:=by simpa using hl.symm
  rw[hle];refine⟨_,l,rfl,WQ.own hn hg,?_,hw⟩;unfold maxLen at hm;omega
theorem zJi{t:TypeId}{v:Value}{r:Reach}{base:Nat}(ht:(∃ n e,P.underlying t=some (.array n e))\/∃ fs,P.underlying t=some (.struct fs))(hv:Value.okWide P w r base t v):∃ cs,v=.agg cs:=by
 unfold Value.okWide at hv;rcases ht with⟨n,e,ht⟩|⟨fs,ht⟩
 ·rw[ht]at hv;obtain⟨cs,h1,_⟩:=hv;exact⟨cs,h1⟩
 ·rw[ht]at hv;obtain⟨cs,h1,_⟩:=hv;exact⟨cs,h1⟩
theorem zPg{σ:Nat->Option Pl}{l:List Value}{cs:Array Value}(hl:WW σ l (Value.agg cs).cells.toList):WI σ (.agg l.toArray) (.agg cs):=by
 have:=Vd hl;simpa [Value.cells]using this
end
def zFA{H:Type}:Nat->DataW H->List Value
 |_,.lit (.bool b)=>[.bool b]
 |_,.lit (.int k n)=>[.int k n]
 |n+1,.agg parts=>(parts.map (zFA n)).flatten
 |_,_=>[]
def zCz(P:Program):Nat->TypeId->Bool
 |0,_=>false
 |n+1,t=>match P.underlying t with
  |some .bool|some (.int _)=>true
  |some (.struct fs)=>(match zBb P fs.toList 0 with|some m=>Nat.beq m (P.cellsOf t)|none=>false)&&fs.toList.all fun f=>zCz P n f.type
  |some (.array m e)=>Nat.beq (m*P.cellsOf e) (P.cellsOf t)&&zCz P n e
  |_=>false
theorem zEy:∀ (sz:List Nat) (as:List (List Value)) (cs:List Value),sz.sum=cs.length->as.length=sz.length->
  (∀ (i:Nat) a s,as[i]?=some a->sz[i]?=some s->a=(cs.drop (sz.take i).sum).take s)->as.flatten=cs
 |[],[],cs,hs,_,_=>by
  have:cs=[]:=Gm.1 (by simpa using hs.symm);subst this;rfl
 |[],_::_,_,_,hl,_=>by simp at hl
 |_::_,[],_,_,hl,_=>by simp at hl
 |s::sz,a::as,cs,hs,hl,h=>by
  have h0:=h 0 a s rfl rfl;simp only[GC,List.sum_nil,Q2]at h0;have ih:=zEy sz as (cs.drop s) (by simp at hs;simp;omega) (by simpa using hl) (fun i x y hx hy=>by
   have:=h (i+1) x y (by simpa using hx) (by simpa using hy);simpa [List.drop_drop]using this)
  rw[GW,ih,h0,GS]
section
variable {P:Program}{H:Type}{enc:TypeId×Value->H}{w:World}{B base:Nat}{spare:Nat->Bool}{held:Bool}
theorem zNa:∀ (n:Nat) (t:TypeId) (cs:List Value) (x:DataW H×List MemPlace),DataW.trod enc P w base spare held n t cs=some x->∀ m,zCz P m t=true->cs=zFA m x.1:=by
 intro n;induction n with
 |zero=>intro t cs x hx;simp[DataW.trod]at hx
 |succ n ih=>
  intro t cs x hx m hm;cases m with
  |zero=>cases hm
  |succ m=>
  cases hu:P.underlying t with
  |none=>simp[zCz,hu]at hm
  |some u=>
  cases u with
  |bool=>obtain⟨b,rfl,rfl⟩:=DataW.trod_bool hu hx;rfl
  |int k=>obtain⟨b,rfl,rfl,_⟩:=DataW.trod_int hu hx;rfl
  |struct fs=>
   obtain⟨xs,n',e,rfl,hl,qQ,hf⟩:=DataW.trod_struct hu hx;cases e;simp only[zCz,hu,QN,QX]at hm;obtain⟨cH,cS⟩:=hm;cases iR:zBb P fs.toList 0 with
   |none=>simp[iR]at cH
   |some q=>
   simp only[iR]at cH;have hq:=QO cH;obtain⟨c1,c2⟩:=zBO iR;simp only[zFA];refine(zEy (fs.toList.map fun f=>P.cellsOf f.type) _ cs (by omega) (by simp[qQ]) fun i a s ha hs=> ?_).symm;simp only[GQ,QQ]at ha hs;obtain⟨d,⟨y,hy,rfl⟩,rfl⟩:=ha;obtain⟨f,fI,rfl⟩:=hs;have h1:=hf i f (by simpa using fI);rw[hy]at h1;have:=c2 i f fI;rw[GH]at this;rw[<-this];exact(ih _ _ _ h1 m (cS f (Gl fI))).symm
  |array k e=>
   obtain⟨xs,n',e',rfl,hl,qQ,hf⟩:=DataW.trod_array hu hx;cases e';simp only[zCz,hu,QN]at hm;obtain⟨cH,cS⟩:=hm;have hq:=QO cH;simp only[zFA];have eh:∀ i,i<=k->((List.replicate k (P.cellsOf e)).take i).sum=i*P.cellsOf e:=fun i hi=>by
    rw[List.take_replicate,List.sum_replicate_nat,Gg hi]
   refine(zEy (List.replicate k (P.cellsOf e)) _ cs (by rw[List.sum_replicate_nat];omega) (by simp[qQ]) fun i a s ha hs=> ?_).symm;simp only[GQ,QQ]at ha;obtain⟨d,⟨y,hy,rfl⟩,rfl⟩:=ha;have gg:i<k:=by have:=(QR.1 hy).1;omega
   have CS:s=P.cellsOf e:=by rw[JG,QF gg]at hs;exact(GL hs).symm
   subst CS;have h1:=hf i gg;rw[hy]at h1;rw[eh i (by omega)];exact(ih _ _ _ h1 m cS).symm
  |_=>simp[zCz,hu]at hm
theorem zJm{nm:String}{g:Nat}{t:TypeId}{cs:Array Value}{n m:Nat}{d:DataW H}{p:List MemPlace}(hg:P.globalNamed nm=some g)(hv:w.var? P nm=some cs)
  (hd:DataW.trod enc P w base spare held n t cs.toList=some (d,p)) (hm:zCz P m t=true):∃ elem fr,w.heap[g]?=some (.cells (zFA m d).toArray elem fr):=by
 have h1:=zNa n t _ _ hd m hm;simp only at h1;have h2:cs=(zFA m d).toArray:=by rw[<-h1]
 unfold World.var? at hv;rw[hg,Qb]at hv;split at hv
 ·rename_i c elem fr hh;cases hv;exact⟨elem,fr,by rw[hh,h2]⟩
 ·cases hv
theorem zRQ(hg:P.globals.size<=w.heap.size)(l:List (Nat×List Value))(hl:∀ x∈l,x.1<P.globals.size/\Zr x.2=true/\∃ elem fr,w.heap[x.1]?=some (.cells x.2.toArray elem fr)):
  Bk P w.heap.size (s0 P w) (zBd P.globals.size l) w:=by
 refine⟨⟨fun g h=>⟨⟨g,0,match w.heap[g]? with|some (.cells c _ _)=>c.size|_=>0⟩,QF h,rfl,rfl⟩,fun g pl hp=> ?_,fun g o hg=> ?_,fun g o g' o' pl cP hg jS aq hp f9 hb=> ?_,QE _⟩,fun g o hg=> ?_,fun g hn=> ?_⟩
 ·unfold s0 at hp;split at hp
  ·cases hp;exact⟨by rw[zHM];assumption,by show g<w.heap.size;omega⟩
  ·cases hp
 ·obtain⟨cells,a,rfl⟩:=Y7 _ l g o hg;obtain⟨b1,b2,elem,fr,b3⟩:=hl _ a;refine⟨⟨g,0,match w.heap[g]? with|some (.cells c _ _)=>c.size|_=>0⟩,QF b1,?_,fun e=>by cases e⟩;refine⟨_,elem,fr,b3,by simp[b3],by simp only[b3];simp,fun i x hx=> ?_,fun e=>by cases e⟩;exact⟨x,by simpa using hx,VO _ (QX.1 b2 x (Gl hx))⟩
 ·obtain⟨c,a,rfl⟩:=Y7 _ l g o hg;obtain⟨c',a',rfl⟩:=Y7 _ l g' o' jS;exact⟨fun⟨x,_⟩=>Bool.noConfusion x,fun x=>Bool.noConfusion x,fun x=>Bool.noConfusion x⟩
 ·obtain⟨c,a,rfl⟩:=Y7 _ l g o hg;exact⟨_,_,rfl⟩
 ·cases hq:(zBd P.globals.size l).get g with
  |none=>rfl
  |some o=>
   obtain⟨c,a,rfl⟩:=Y7 _ l g o hq;rw[zHM]at hn;have:=(hl _ a).1;simp only at this;omega
end
end Go.Am
