/- A part of the machine and of its soundness; proves no statement. -/
import Derived.Test.YtfnndahpddkniaaGreatDoorAmC
import Derived.OpenShut
import Derived.ChangeOld
import Derived.LaidMore
import Derived.MakeChecks
import Derived.HandedShaped
set_option linter.all false
namespace Go.Am
open Go.RowKit
section
variable {P:Program}
def zA5(n:Nat):List (Nat×List Value)->U0
 |[]=>zOn n
 |(g,cells)::l=>{zA5 n l with tab:=(zA5 n l).tab.set g (.row cells false 0)}
theorem Yi(n:Nat):∀ (l:List (Nat×List Value)) (g:Nat) (o:Wa),(zA5 n l).get g=some o->∃ cells,(g,cells)∈l/\o=.row cells false 0
 |[],g,o,h=>by
  have h:(U5.leaf:U5 Wa).get g=some o:=h;cases h
 |(k,cells)::l,g,o,h=>by
  have h2:((zA5 n l).tab.set k (.row cells false 0)).get g=some o:=h;rw[zQ]at h2;by_cases e:g=k
  ·rw[QF e]at h2;subst e;exact⟨cells,by simp,(GJ h2).symm⟩
  ·rw[QC e]at h2;obtain⟨c,a,b⟩:=Yi n l g o h2;exact⟨c,by simp[a],b⟩
theorem zFw(n:Nat):∀ (l:List (Nat×List Value)),(zA5 n l).n=n
 |[]=>rfl
 |_::l=>zFw n l
end
def Ev(p:Nat->Prop):Prop:=∃ N,∀ n,N<=n->p n
theorem Ev.mono{p q:Nat->Prop}(h:Ev p)(k:∀ n,p n->q n):Ev q:=let⟨N,a⟩:=h;⟨N,fun n hn=>k n (a n hn)⟩
theorem Ev.and{p q:Nat->Prop}(h:Ev p)(k:Ev q):Ev fun n=>p n/\q n:=
 let⟨N,a⟩:=h;let⟨M,b⟩:=k;⟨max N M,fun n hn=>⟨a n (by omega),b n (by omega)⟩⟩
theorem Ev.all{p:Nat->Prop}(h:∀ n,p n):Ev p:=⟨0,fun n _=>h n⟩
theorem Ev.up{p:Nat->Prop}(h:Ev fun n=>p (n+1)):Ev p:=
 let⟨N,a⟩:=h;⟨N+1,fun n hn=>by obtain⟨m,rfl⟩:∃ m,n=m+1:=⟨n-1,by omega⟩;exact a m (by omega)⟩
theorem Ev.get{p:Nat->Prop}(h:Ev p):∃ n,p n:=let⟨N,a⟩:=h;⟨N,a N (QE _)⟩
section
variable {P:Program}{tab:Wo}
def WX(P:Program)(tab:Wo)(c:WK)(fr:WH)(h:U0)(K:WF->WH->U0->Prop):Prop:=
 ∃ e fr' h',K e fr' h'/\Ev fun n=>(BI P tab n).exec c fr h=some (e,fr',h')
def WC(P:Program)(tab:Wo)(f:FuncId)(args:List Value)(h:U0)(Q:Value->U0->Prop):Prop:=
 ∃ v h',Q v h'/\Ev fun n=>(BI P tab n).call f args h=some (v,h')
def WV(P:Program)(tab:Wo)(f:Value)(args:List Value)(h:U0)(Q:Value->U0->Prop):Prop:=
 ∃ v h',Q v h'/\Ev fun n=>zBE (BI P tab n) f args h=some (v,h')
def WO(P:Program)(tab:Wo)(ops:List U3)(fr:WH)(h:U0)(Q:WH->U0->Prop):Prop:=
 ∃ fr' h',Q fr' h'/\Ev fun n=>yr P (BI P tab n) ops fr h=some (fr',h')
theorem WX.mono{c fr h K K'}(hx:WX P tab c fr h K)(hk:∀ e fr h,K e fr h->K' e fr h):WX P tab c fr h K':=
 let⟨e,fr',h',a,b⟩:=hx;⟨e,fr',h',hk _ _ _ a,b⟩
theorem WC.mono{f args h Q Q'}(hx:WC P tab f args h Q)(hk:∀ v h,Q v h->Q' v h):WC P tab f args h Q':=
 let⟨v,h',a,b⟩:=hx;⟨v,h',hk _ _ a,b⟩
theorem WV.mono{f args h Q Q'}(hx:WV P tab f args h Q)(hk:∀ v h,Q v h->Q' v h):WV P tab f args h Q':=
 let⟨v,h',a,b⟩:=hx;⟨v,h',hk _ _ a,b⟩
def zEe(P:Program)(tab:Wo)(b:WK)(K:WF->WH->U0->Prop):WF->WH->U0->Prop
 | .normal,fr,h=>WX P tab b fr h K
 | .exit i,fr,h=>K (.exit i) fr h
 | .goto l,fr,h=>K (.goto l) fr h
 | .ret,fr,h=>K .ret fr h
def zAB(id:Nat)(K:WF->WH->U0->Prop):WF->WH->U0->Prop
 | .normal,fr,h=>K .normal fr h
 | .exit i,fr,h=>if i=id then K .normal fr h else K (.exit i) fr h
 | .goto l,fr,h=>K (.goto l) fr h
 | .ret,fr,h=>K .ret fr h
def zCZ{α:Type}(μ:α->Nat)(I:α->U5 Value->U0->Prop)(x:α)(ds:List Deferred)(rd:Option Nat)(K:WF->WH->U0->Prop):WF->WH->U0->Prop
 | .normal,fr,h=>fr.dfs=ds/\fr.round=rd/\∃ y,μ y<μ x/\I y fr.tm h
 | .exit i,fr,h=>K (.exit i) fr h
 | .goto l,fr,h=>K (.goto l) fr h
 | .ret,fr,h=>K .ret fr h
theorem Zk{b fr h K}(hx:WX P tab b fr h K):zEe P tab b K .normal fr h:=hx
theorem zEk{b i fr h K}(hx:K (.exit i) fr h):zEe P tab b K (.exit i) fr h:=hx
theorem zEF{b i fr h K}(hx:K (.goto i) fr h):zEe P tab b K (.goto i) fr h:=hx
theorem zFA{b fr h K}(hx:K .ret fr h):zEe P tab b K .ret fr h:=hx
theorem zBg{id fr h}{K:WF->WH->U0->Prop}(hx:K .normal fr h):zAB id K .normal fr h:=hx
theorem zC1{id fr h}{K:WF->WH->U0->Prop}(hx:K .normal fr h):zAB id K (.exit id) fr h:=by simp only[zAB,Q0];exact hx
theorem zAy{i id fr h}{K:WF->WH->U0->Prop}(hi:Nat.beq i id=false)(hx:K (.exit i) fr h):zAB id K (.exit i) fr h:=by
 have:¬i=id:=fun e=>by subst e;simp at hi
 simp only[zAB,QC this];exact hx
theorem zDH{id l fr h}{K:WF->WH->U0->Prop}(hx:K (.goto l) fr h):zAB id K (.goto l) fr h:=hx
theorem zEK{id fr h}{K:WF->WH->U0->Prop}(hx:K .ret fr h):zAB id K .ret fr h:=hx
section
variable {α:Type}{μ:α->Nat}{I:α->U5 Value->U0->Prop}{x:α}{ds:List Deferred}{rd:Option Nat}{K:WF->WH->U0->Prop}
theorem zA{t h}(y:α)(hm:μ y<μ x)(hx:I y t h):zCZ μ I x ds rd K .normal ⟨t,ds,rd⟩ h:=⟨rfl,rfl,y,hm,hx⟩
theorem zEB{i fr h}(hx:K (.exit i) fr h):zCZ μ I x ds rd K (.exit i) fr h:=hx
theorem zDv{i fr h}(hx:K (.goto i) fr h):zCZ μ I x ds rd K (.goto i) fr h:=hx
theorem zFS{fr h}(hx:K .ret fr h):zCZ μ I x ds rd K .ret fr h:=hx
end
theorem zp(n:Nat)(c fr h):(BI P tab (n+1)).exec c fr h=zl P (BI P tab n) c fr h:=rfl
theorem zFN(n:Nat)(f args h):(BI P tab (n+1)).call f args h=zCY P tab (BI P tab n) f args h:=rfl
theorem WX.skip{fr h K}(hx:K .normal fr h):WX P tab .skip fr h K:=⟨_,_,_,hx,Ev.up (Ev.all fun _=>rfl)⟩
theorem WX.label{l fr h K}(hx:K .normal fr h):WX P tab (.label l) fr h K:=⟨_,_,_,hx,Ev.up (Ev.all fun _=>rfl)⟩
theorem WX.exit{i fr h K}(hx:K (.exit i) fr h):WX P tab (.exit i) fr h K:=⟨_,_,_,hx,Ev.up (Ev.all fun _=>rfl)⟩
theorem WX.goto{i fr h K}(hx:K (.goto i) fr h):WX P tab (.goto i) fr h K:=⟨_,_,_,hx,Ev.up (Ev.all fun _=>rfl)⟩
theorem WX.ret{fr h K}(hx:K .ret fr h):WX P tab .ret fr h K:=⟨_,_,_,hx,Ev.up (Ev.all fun _=>rfl)⟩
theorem WX.region{ops fr h K}(hx:WO P tab ops fr h fun fr h=>K .normal fr h):WX P tab (.region ops) fr h K:=
 let⟨fr',h',a,b⟩:=hx
 ⟨_,_,_,a,Ev.up (b.mono fun n e=>by rw[zp];simp only[zl,e,QI])⟩
theorem WX.seq{a b fr h K}(hx:WX P tab a fr h (zEe P tab b K)):WX P tab (.seq a b) fr h K:=by
 obtain⟨e,fr',h',k,ev⟩:=hx;cases e with
 |normal=>
  obtain⟨e2,fr2,h2,k2,ev2⟩:=k;exact⟨e2,fr2,h2,k2,Ev.up ((ev.and ev2).mono fun n ⟨e1,e2⟩=>by rw[zp];simp only[zl,e1,e2])⟩
 |exit i=>exact⟨_,_,_,k,Ev.up (ev.mono fun n e=>by rw[zp];simp only[zl,e])⟩
 |goto i=>exact⟨_,_,_,k,Ev.up (ev.mono fun n e=>by rw[zp];simp only[zl,e])⟩
 |ret=>exact⟨_,_,_,k,Ev.up (ev.mono fun n e=>by rw[zp];simp only[zl,e])⟩
theorem WX.cond{c x y fr h K}(b:Bool)(hb:ev fr.tm c=.bool b)(h1:b=true->WX P tab x fr h K)(h2:b=false->WX P tab y fr h K):WX P tab (.cond c x y) fr h K:=by
 cases b with
 |true=>obtain⟨e,fr',h',k,ev⟩:=h1 rfl;exact⟨_,_,_,k,Ev.up (ev.mono fun n e=>by rw[zp];simp only[zl,hb,e])⟩
 |false=>obtain⟨e,fr',h',k,ev⟩:=h2 rfl;exact⟨_,_,_,k,Ev.up (ev.mono fun n e=>by rw[zp];simp only[zl,hb,e])⟩
theorem Xo{c x y fr h K}(hb:ev fr.tm c=.bool true)(h1:WX P tab x fr h K):WX P tab (.cond c x y) fr h K:=WX.cond true hb (fun _=>h1) (fun h=>by cases h)
theorem XT{c x y fr h K}(hb:ev fr.tm c=.bool false)(h1:WX P tab y fr h K):WX P tab (.cond c x y) fr h K:=WX.cond false hb (fun h=>by cases h) (fun _=>h1)
theorem WX.block{id b fr h K}(hx:WX P tab b fr h (zAB id K)):WX P tab (.block id b) fr h K:=by
 obtain⟨e,fr',h',k,ev⟩:=hx;cases e with
 |normal=>exact⟨_,_,_,k,Ev.up (ev.mono fun n e=>by rw[zp];simp only[zl,e])⟩
 |goto i=>exact⟨_,_,_,k,Ev.up (ev.mono fun n e=>by rw[zp];simp only[zl,e])⟩
 |ret=>exact⟨_,_,_,k,Ev.up (ev.mono fun n e=>by rw[zp];simp only[zl,e])⟩
 |exit i=>
  simp only[zAB]at k;by_cases hi:i=id
  ·rw[QF hi]at k;exact⟨_,_,_,k,Ev.up (ev.mono fun n e=>by rw[zp];simp only[zl,e,QF hi])⟩
  ·rw[QC hi]at k;exact⟨_,_,_,k,Ev.up (ev.mono fun n e=>by rw[zp];simp only[zl,e,QC hi])⟩
theorem WX.loop{α:Type}(μ:α->Nat)(I:α->U5 Value->U0->Prop)(x:α){b t ds rd h K}(h0:I x t h)
  (hb:∀ x t h,I x t h->WX P tab b ⟨t,ds,rd⟩ h (zCZ μ I x ds rd K)):WX P tab (.loop b) ⟨t,ds,rd⟩ h K:=by
 generalize hm:μ x=m;induction m using Nat.strongRecOn generalizing x t h with
 |_ m ih=>
  obtain⟨e,fr',h',k,ev⟩:=hb x t h h0;cases e with
  |normal=>
   obtain⟨k1,k2,y,k3,k4⟩:=k;obtain⟨t',ds',rd'⟩:=fr';simp only at k1 k2 k4;subst k1 k2;obtain⟨e2,fr2,h2,kk,ev2⟩:=ih (μ y) (by omega) y k4 rfl;exact⟨e2,fr2,h2,kk,Ev.up ((ev.and ev2).mono fun n ⟨e1,e2⟩=>by rw[zp];simp only[zl,e1,e2])⟩
  |exit i=>exact⟨_,_,_,k,Ev.up (ev.mono fun n e=>by rw[zp];simp only[zl,e])⟩
  |goto i=>exact⟨_,_,_,k,Ev.up (ev.mono fun n e=>by rw[zp];simp only[zl,e])⟩
  |ret=>exact⟨_,_,_,k,Ev.up (ev.mono fun n e=>by rw[zp];simp only[zl,e])⟩
def zQG{α:Type}(l:Nat)(μ:α->Nat)(I:α->U5 Value->U0->Prop)(x:α)(ds:List Deferred)(rd:Option Nat)(K:WF->WH->U0->Prop):WF->WH->U0->Prop
 | .normal,fr,h=>K .normal fr h
 | .exit i,fr,h=>K (.exit i) fr h
 | .goto m,fr,h=>m=l/\fr.dfs=ds/\fr.round=rd/\∃ y,μ y<μ x/\I y fr.tm h
 | .ret,fr,h=>K .ret fr h
section
variable {α:Type}{l:Nat}{μ:α->Nat}{I:α->U5 Value->U0->Prop}{x:α}{ds:List Deferred}{rd:Option Nat}{K:WF->WH->U0->Prop}
end
def zEv(M:U5 Value->U0->Prop)(ds:List Deferred)(rd:Option Nat)(K:WF->WH->U0->Prop):WF->WH->U0->Prop
 | .normal,fr,h=>fr.dfs=ds/\fr.round=rd/\M fr.tm h
 | .exit i,fr,h=>K (.exit i) fr h
 | .goto l,fr,h=>K (.goto l) fr h
 | .ret,fr,h=>K .ret fr h
section
variable {M:U5 Value->U0->Prop}{ds:List Deferred}{rd:Option Nat}{K:WF->WH->U0->Prop}
theorem zE{t h}(hx:M t h):zEv M ds rd K .normal ⟨t,ds,rd⟩ h:=⟨rfl,rfl,hx⟩
theorem zCb{fr h}(hx:K .ret fr h):zEv M ds rd K .ret fr h:=hx
end
def WD(P:Program)(tab:Wo)(ds:List Deferred)(h:U0)(Q:U0->Prop):Prop:=
 ∃ h',Q h'/\Ev fun n=>ZK (BI P tab n) ds h=some h'
theorem WD.nil{h}{Q:U0->Prop}(hx:Q h):WD P tab [] h Q:=⟨h,hx,Ev.all fun _=>rfl⟩
theorem WD.collected{g ds h}{Q:U0->Prop}(hg:h.get g=some (.deferred (some [])))(hx:WD P tab ds (h.set g (.deferred none)) Q):
  WD P tab ({target:= .collected g,args:=#[]}::ds) h Q:=by
 obtain⟨h',a,b⟩:=hx;exact⟨h',a,b.mono fun n e=>by simp only[ZK,hg,e]⟩
def zDn(P:Program)(tab:Wo)(rs:List (Nat×Option (Bool×Nat)))(Q:Value->U0->Prop):WF->WH->U0->Prop
 | .normal,fr,h=>WD P tab fr.dfs h fun h=>∃ vs,yN h fr.tm rs=some vs/\Q (one vs) h
 | .ret,fr,h=>WD P tab fr.dfs h fun h=>∃ vs,yN h fr.tm rs=some vs/\Q (one vs) h
 |_,_,_=>False
theorem zLh{rs Q t rd h}{vs:List Value}(hr:yN h t rs=some vs)(hx:Q (one vs) h):zDn P tab rs Q .ret ⟨t,[],rd⟩ h:=WD.nil ⟨vs,hr,hx⟩
theorem zHn{rs Q t rd h}{vs:List Value}(hr:yN h t rs=some vs)(hx:Q (one vs) h):zDn P tab rs Q .normal ⟨t,[],rd⟩ h:=WD.nil ⟨vs,hr,hx⟩
theorem WC.of{f args h Q nt rs body}(hs:tab.stub f=none)(hf:tab.code f=some ⟨nt,rs,body⟩)(hx:WX P tab body ⟨zE5 args 0 .leaf,[],none⟩ h (zDn P tab rs Q)):WC P tab f args h Q:=by
 obtain⟨e,fr',h',k,ev⟩:=hx;cases e with
 |normal=>
  obtain⟨h2,⟨vs,k3,k4⟩,ev2⟩:=k;exact⟨_,_,k4,Ev.up ((ev.and ev2).mono fun n ⟨e1,e2⟩=>by rw[zFN];simp only[zCY,zDJ,hs,hf,e1,cond_true,e2,k3])⟩
 |ret=>
  obtain⟨h2,⟨vs,k3,k4⟩,ev2⟩:=k;exact⟨_,_,k4,Ev.up ((ev.and ev2).mono fun n ⟨e1,e2⟩=>by rw[zFN];simp only[zCY,zDJ,hs,hf,e1,cond_true,e2,k3])⟩
 |exit i=>exact k.elim
 |goto i=>exact k.elim
theorem WV.func{f first cap args h Q}(hx:WC P tab f (first.toList++args++cap.toList) h Q):WV P tab (.func (.func f) first cap) args h Q:=hx
theorem WO.nil{fr h Q}(hx:Q fr h):WO P tab [] fr h Q:=⟨_,_,hx,Ev.all fun _=>rfl⟩
theorem WO.cons{o l fr h Q}{fr1:WH}{h1:U0}(e:Ev fun n=>yK P (BI P tab n) o fr h=some (fr1,h1))(hx:WO P tab l fr1 h1 Q):WO P tab (o::l) fr h Q:=by
 obtain⟨fr',h',a,b⟩:=hx;exact⟨_,_,a,(e.and b).mono fun n ⟨e1,e2⟩=>by simp only[yr,e1,e2]⟩
def zAo:Wn->Bool
 | .call .. | .dfr .. | .dfrClear .. | .invoke .. | .recover=>false
 |_=>true
theorem zOd(ih:Ex){t h op}(hp:zAo op=true):U8 P ih t h op=U8 P Ex.bot t h op:=by
 cases op<;>first|rfl|cases hp
theorem zB7(ih:Ex){t rd h op v h'}(hp:zAo op=true)(e:U8 P Ex.bot t h op=some (v,h')):yC P ih t rd h op=some (v,[],h'):=by
 rw[<-zOd ih hp]at e;cases op<;>first|(cases hp;done)|(simp only[yC,e])
theorem WO.op{d op l t ds rd h Q}(v:Value)(h':U0)(hp:zAo op=true)(e:U8 P Ex.bot t h op=some (v,h'))(hx:WO P tab l ⟨t.set d v,ds,rd⟩ h' Q):
  WO P tab (⟨some d,none,op⟩::l) ⟨t,ds,rd⟩ h Q:=
 WO.cons (Ev.all fun n=>by simp only[yK,zS,cond_true,zB7 _ hp e,val,GK]) hx
theorem Xp{d op l t ds rd h Q}{v:Value}{h':U0}(e:U8 P Ex.bot t h op=some (v,h'))(hx:WO P tab l ⟨t.set d v,ds,rd⟩ h' Q)(hp:zAo op=true:=by rfl):
  WO P tab (⟨some d,none,op⟩::l) ⟨t,ds,rd⟩ h Q:=WO.op v h' hp e hx
theorem VU{op l t ds rd h Q}(v:Value)(h':U0)(hp:zAo op=true)(e:U8 P Ex.bot t h op=some (v,h'))(hx:WO P tab l ⟨t,ds,rd⟩ h' Q):
  WO P tab (⟨none,none,op⟩::l) ⟨t,ds,rd⟩ h Q:=
 WO.cons (Ev.all fun n=>by simp only[yK,zS,cond_true,zB7 _ hp e,val,GK]) hx
theorem WO.call{d f args l t ds rd h Q}{as:List Value}(ha:args.map (ev t)=as)(hx:WC P tab f as h fun v h'=>WO P tab l ⟨t.set d v,ds,rd⟩ h' Q):
  WO P tab (⟨some d,none,.call (.func f) args⟩::l) ⟨t,ds,rd⟩ h Q:=by
 subst ha;obtain⟨v,h',a,b⟩:=hx;refine WO.cons (fr1:=⟨t.set d v,ds,rd⟩) (h1:=h') (b.mono fun n e=> ?_) a;simp only[yK,zS,cond_true,yC,U8,ev,zBE,List.append_nil,GK];rw[e];rfl
theorem Xu{d f args l t ds rd h Q}{as:List Value}{fv:Value}(hf:ev t f=fv)(ha:args.map (ev t)=as)(hx:WV P tab fv as h fun v h'=>WO P tab l ⟨t.set d v,ds,rd⟩ h' Q):
  WO P tab (⟨some d,none,.call f args⟩::l) ⟨t,ds,rd⟩ h Q:=by
 subst ha;subst hf;obtain⟨v,h',a,b⟩:=hx;refine WO.cons (fr1:=⟨t.set d v,ds,rd⟩) (h1:=h') (b.mono fun n e=> ?_) a;simp only[yK,zS,cond_true,yC,U8,e,val,GK]
theorem XM{d j want op l t ds rd h Q}(hg:zB t j=.bool want)(hx:WO P tab (⟨d,none,op⟩::l) ⟨t,ds,rd⟩ h Q):WO P tab (⟨d,some (j,want),op⟩::l) ⟨t,ds,rd⟩ h Q:=by
 obtain⟨fr',h',a,b⟩:=hx;refine⟨_,_,a,b.mono fun n e=> ?_⟩;rw[<-e];simp only[yr,yK,zS,hg,beq_self_eq_true,cond_true]
theorem V3{d j want op l t ds rd h Q}(hg:zB t j=.bool (!want))(hx:WO P tab l ⟨t.set d undef,ds,rd⟩ h Q):WO P tab (⟨some d,some (j,want),op⟩::l) ⟨t,ds,rd⟩ h Q:=by
 refine WO.cons (Ev.all fun n=> ?_) hx;simp only[yK,zS,hg];cases want<;>rfl
theorem XJ{d j want op l t ds rd h Q}(hg:zB t j=undef)(hx:WO P tab l ⟨t.set d undef,ds,rd⟩ h Q):WO P tab (⟨some d,some (j,want),op⟩::l) ⟨t,ds,rd⟩ h Q:=by
 refine WO.cons (Ev.all fun n=> ?_) hx;simp only[yK,zS,hg];rfl
theorem WO.invoke{d f name x args l t ds rd h Q}{ty:TypeId}{u:Value}{as:List Value}(hv:ev t x=.iface ty u)(hm:zBM P ty name=some f)(ha:args.map (ev t)=as)(hx:WC P tab f (u::as) h fun v h'=>WO P tab l ⟨t.set d v,ds,rd⟩ h' Q):
  WO P tab (⟨some d,none,.invoke x name args⟩::l) ⟨t,ds,rd⟩ h Q:=by
 subst ha;obtain⟨v,h',a,b⟩:=hx;refine WO.cons (fr1:=⟨t.set d v,ds,rd⟩) (h1:=h') (b.mono fun n e=> ?_) a;simp only[yK,zS,cond_true,yC,U8,zAm,hv,hm,e,val,GK]
theorem XA{d x l t ds rd h Q}{G rt ty:Nat}{b:Bool}(hv:ev t x=zF2 G rt ty)(hb:YX P G rt ty=some b)(hx:WO P tab l ⟨t.set d (.bool b),ds,rd⟩ h Q):
  WO P tab (⟨some d,none,.invoke x "Comparable" []⟩::l) ⟨t,ds,rd⟩ h Q:=
 WO.cons (Ev.all fun n=>by
  have:zAm P (BI P tab n) "Comparable" (zF2 G rt ty) [] h=some (.bool b,h):=by
   simp only[zAm,zGe,List.isEmpty_nil,beq_self_eq_true,Qt,cond_true,hb,QI]
  simp only[yK,zS,cond_true,yC,U8,hv,Gb,this,val,GK]) hx
end
attribute [irreducible] WX WC WV WO WD zEe zAB zCZ zQG zEv zDn Ev
abbrev I(n:Int):Value:= .int .i64 n
def Wf(h:U0):Prop:=∀ g,h.n<=g->h.get g=none
structure Ext(h h':U0):Prop where
 n:h.n<=h'.n
 get:∀ g,g<h.n->h'.get g=h.get g
 wf:Wf h->Wf h'
 mark:h'.mark=h.mark
 wr:h.mark<=h.n->h'.wr=h.wr
theorem Ext.refl(h:U0):Ext h h:=⟨QE _,fun _ _=>rfl,id,rfl,fun _=>rfl⟩
theorem Ext.trans{a b c:U0}(h:Ext a b)(k:Ext b c):Ext a c:=
 ⟨QU h.n k.n,fun g hg=>(k.get g (QM hg h.n)).trans (h.get g hg),fun w=>k.wf (h.wf w),k.mark.trans h.mark,fun hm=>(k.wr (by rw[h.mark];exact QU hm h.n)).trans (h.wr hm)⟩
theorem Ext.push{a b:U0}(h:Ext a b)(o:Wa):Ext a (b.push o):=
 h.trans ⟨GU _,fun g hg=>by rw[zT,QC (Nat.ne_of_lt hg)],fun w g hg=>by
  rw[zT,QC (by simp[U0.push]at hg;omega)];exact w g (by simp[U0.push]at hg;omega),rfl,fun _=>rfl⟩
theorem Y8{h:U0}{g:Nat}(hg:h.mark<=g):h.log g=h.wr:=by
 have:Nat.ble h.mark g=true:=QG hg;simp[U0.log,this]
theorem Ext.set{a b:U0}(h:Ext a b){g:Nat}(hg:a.n<=g)(hb:g<b.n)(o:Wa):Ext a (b.set g o):=
 ⟨h.n,fun k hk=>by rw[zt,QC (by omega)];exact h.get k hk,fun w k hk=>by
  rw[zt,QC (by simp[U0.set]at hk;omega)];exact h.wf w k hk,h.mark,fun hm=>(Y8 (by rw[h.mark];omega)).trans (h.wr hm)⟩
theorem Ext.kill{a b:U0}(h:Ext a b){g:Nat}(hg:a.n<=g):Ext a (b.kill g):=
 ⟨h.n,fun k hk=>by rw[yl,QC (by omega)];exact h.get k hk,fun w k hk=>by
  rw[yl];split
  ·rfl
  ·exact h.wf w k hk,h.mark,fun hm=>(Y8 (by rw[h.mark];omega)).trans (h.wr hm)⟩
theorem Wf.lt{h:U0}(w:Wf h){g:Nat}{o:Wa}(hg:h.get g=some o):g<h.n:=by
 by_cases hn:h.n<=g
 ·rw[w g hn]at hg;cases hg
 ·omega
theorem ZW{h:U0}{g:Nat}{cells own lo}(hg:h.get g=some (.row cells own lo)):yW h g=some cells:=by simp only[yW,hg]
theorem zH9{h:U0}{g:Nat}{cells}(hg:yW h g=some cells):∃ own lo,h.get g=some (.row cells own lo):=by
 unfold yW at hg;split at hg
 ·cases hg;exact⟨_,_,by assumption⟩
 ·cases hg
theorem Ext.row{h h':U0}(e:Ext h h'){g:Nat}(w:g<h.n){cells}(hg:yW h g=some cells):yW h' g=some cells:=by
 obtain⟨own,lo,a⟩:=zH9 hg;exact ZW ((e.get g w).trans a)
theorem ZG{cells:List Value}{off n:Nat}(h:off+n<=cells.length):cut cells off n=some ((cells.drop off).take n):=by
 have:Nat.ble (off+n) cells.length=true:=QG h;simp only[cut,this,cond_true]
theorem zDs{cells l:List Value}{off n:Nat}(h:cut cells off n=some l):off+n<=cells.length/\l=(cells.drop off).take n:=by
 unfold cut at h;cases hb:Nat.ble (off+n) cells.length with
 |true=>simp only[hb,cond_true,QA]at h;exact⟨QP hb,h.symm⟩
 |false=>simp only[hb,QV]at h;cases h
def WW(c:Nat)(h:U0)(v:Value)(n:Nat)(cells:List Value):Prop:=
 cells.length=n*c/\((n=0/\(v=.slice none 0 0\/∃ a k,v=.slice (some a) 0 k))\/
  ∃ g off row,v=.slice (some ⟨g,off,none⟩) n c/\yW h g=some row/\cut row off (n*c)=some cells/\g<h.n)
def zv(v:Value)(j:Nat):Value:=match v with
 | .slice (some a) _ _=> .pointer (some ⟨a.block,a.off+j,none⟩)
 |_=>undef
section
variable {P:Program}{ih:Ex}{t:U5 Value}{h h':U0}{v:Value}{c n:Nat}{cells:List Value}
theorem WW.len(s:WW c h v n cells):zLd v=some n:=by
 obtain⟨_,(⟨rfl,rfl|⟨a,k,rfl⟩⟩|⟨g,off,row,rfl,_,_,_⟩)⟩:=s<;>rfl
theorem WW.ext(s:WW c h v n cells)(e:Ext h h'):WW c h' v n cells:=by
 obtain⟨a,b⟩:=s;refine⟨a,b.imp id ?_⟩;rintro⟨g,off,row,e1,e2,e3,e4⟩;exact⟨g,off,row,e1,e.row e4 e2,e3,QM e4 e.n⟩
theorem WW.nil(c:Nat)(h:U0):WW c h (.slice none 0 0) 0 []:=⟨by simp,.inl ⟨rfl,.inl rfl⟩⟩
theorem WW.own{g:Nat}{lo:Nat}{own:Bool}(hlt:g<h.n)(hg:h.get g=some (.row cells own lo))(hn:cells.length=n*c):WW c h (.slice (some ⟨g,0,none⟩) n c) n cells:=
 ⟨hn,.inr ⟨g,0,cells,rfl,ZW hg,by rw[ZG (by omega)];simp[<-hn],hlt⟩⟩
theorem zDZ{x:Operand}(s:WW c h v n cells)(hx:ev t x=v):U8 P ih t h (.len x)=some (I n,h):=by
 subst hx;simp[U8,s.len]
theorem zJ2{x y:Operand}{i:Nat}(s:WW c h v n cells)(hx:ev t x=v)(hy:BE (ev t y)=some i)(hi:i<n):U8 P ih t h (.idx c x y)=some (zv v (i*c),h):=by
 obtain⟨_,(⟨rfl,_⟩|⟨g,off,row,rfl,_,_,_⟩)⟩:=s
 ·omega
 ·have:Nat.ble (i+1) n=true:=QG hi;simp[U8,hx,hy,this,zv]
theorem zD3{cells l row:List Value}{off n j m:Nat}(hc:cut row off n=some cells)(hl:cut cells j m=some l):cut row (off+j) m=some l:=by
 obtain⟨a,rfl⟩:=zDs hc;obtain⟨b,rfl⟩:=zDs hl;have hl:((row.drop off).take n).length=n:=by simp;omega
 rw[ZG (by omega)];congr 1;rw[List.drop_take,List.drop_drop,List.take_take,Ge (by omega)]
theorem zD2{x:Operand}{agg:Bool}{m j:Nat}{l:List Value}{r:Value}(s:WW c h v n cells)(hx:ev t x=zv v j)(hl:cut cells j m=some l)(hm:0<m)(hr:zM agg l=some r):
  U8 P ih t h (.load agg m x)=some (r,h):=by
 obtain⟨hn,(⟨rfl,_⟩|⟨g,off,row,rfl,h1,h2,_⟩)⟩:=s
 ·have:=(zDs hl).1;simp at hn;subst hn;simp at this;omega
 ·simp[U8,hx,zv,h1,zD3 h2 hl,hr]
theorem zNx{cells:List Value}{j:Nat}{r:Value}(hj:cells[j]?=some r):cut cells j 1=some [r]:=by
 have hlt:j<cells.length:=(QS.1 hj).1;rw[ZG (by omega),GO hlt];simp only[Qm,Q5];rw[(QS.1 hj).2]
theorem zKc{x:Operand}{j:Nat}{r:Value}(s:WW c h v n cells)(hx:ev t x=zv v j)(hj:cells[j]?=some r):U8 P ih t h (.load false 1 x)=some (r,h):=
 zD2 s hx (zNx hj) Nat.one_pos rfl
theorem zOS{x:Operand}{off j:Nat}(hx:ev t x=zv v j)(hv:∃ a k m,v=.slice (some a) k m):U8 P ih t h (.fld off x)=some (zv v (j+off),h):=by
 obtain⟨a,k,m,rfl⟩:=hv;simp[U8,hx,zv,JI]
theorem WW.some{i:Nat}(s:WW c h v n cells)(hi:i<n):∃ a k m,v=.slice (some a) k m:=by
 obtain⟨hn,(⟨rfl,_⟩|⟨g,off,row,rfl,h1,h2,_⟩)⟩:=s
 ·omega
 ·exact⟨_,_,_,rfl⟩
theorem Zv(s:WW c h v n cells):yT c h v=some cells:=by
 obtain⟨hn,(⟨rfl,rfl|⟨a,k,rfl⟩⟩|⟨g,off,row,rfl,h1,h2,_⟩)⟩:=s
 ·simp at hn;subst hn;rfl
 ·simp at hn;subst hn;simp[yT]
 ·unfold yT;cases hb:Nat.beq n 0 with
  |true=>have:=QL hb;subst this;simp at hn;subst hn;rfl
  |false=>simp[h1,h2,hb]
end
def WJ(h:U0)(v:Value)(l:List Int):Prop:=WW 1 h v l.length (l.map I)
section
variable {P:Program}{ih:Ex}{t:U5 Value}{h h':U0}{v:Value}{l:List Int}
theorem WJ.ext(s:WJ h v l)(e:Ext h h'):WJ h' v l:=WW.ext s e
theorem WJ.nil(h:U0):WJ h (.slice none 0 0) []:=WW.nil 1 h
theorem WJ.own{g lo own}(hlt:g<h.n)(hg:h.get g=some (.row (l.map I) own lo)):WJ h (.slice (some ⟨g,0,none⟩) l.length 1) l:=WW.own hlt hg (by simp)
theorem WJ.len{x:Operand}(s:WJ h v l)(hx:ev t x=v):U8 P ih t h (.len x)=some (I l.length,h):=zDZ s hx
theorem WJ.idx{x y:Operand}{i:Nat}(s:WJ h v l)(hx:ev t x=v)(hy:BE (ev t y)=some i)(hi:i<l.length):U8 P ih t h (.idx 1 x y)=some (zv v i,h):=by
 have:=zJ2 (P:=P) (ih:=ih) s hx hy hi;rwa [JF]at this
theorem WJ.load{x:Operand}{i:Nat}{a:Int}(s:WJ h v l)(hx:ev t x=zv v i)(hi:l[i]?=some a):U8 P ih t h (.load false 1 x)=some (I a,h):=
 zKc s hx (by simp[hi])
end
def WT(h0 h:U0)(v:Value)(l:List Int):Prop:=∃ g,h0.n<=g/\g<h.n/\v=.slice (some ⟨g,0,none⟩) l.length 1/\h.get g=some (.row (l.map I) true 0)
theorem WT.sl{h0 h v l}(o:WT h0 h v l):WJ h v l:=by obtain⟨g,_,hl,rfl,hg⟩:=o;exact WJ.own hl hg
theorem WT.ext{h0 h h' v l}(o:WT h0 h v l)(e:Ext h h'):WT h0 h' v l:=by
 obtain⟨g,a,b,c,d⟩:=o;exact⟨g,a,QM b e.n,c,(e.get g b).trans d⟩
theorem zNL(k:IntKind)(a b:Int):ye .add (.int k a) (.int k b)=some (.int k (k.wrap (a+b))):=by simp[ye]
theorem zLc(k:IntKind)(a b:Int):ye .sub (.int k a) (.int k b)=some (.int k (k.wrap (a-b))):=by simp[ye]
theorem zLt(k:IntKind)(a b:Int):ye .mul (.int k a) (.int k b)=some (.int k (k.wrap (a*b))):=by simp[ye]
theorem zMR(k:IntKind)(a b:Int):ye .lss (.int k a) (.int k b)=some (.bool (decide (a<b))):=by simp[ye]
theorem zNa(k:IntKind)(a b:Int):ye .leq (.int k a) (.int k b)=some (.bool (decide (a<=b))):=by simp[ye]
theorem zMf(k:IntKind)(a b:Int):ye .gtr (.int k a) (.int k b)=some (.bool (decide (b<a))):=by simp[ye]
theorem zLi(k:IntKind)(a b:Int):ye .geq (.int k a) (.int k b)=some (.bool (decide (b<=a))):=by simp[ye]
theorem zLj(k:IntKind)(a b:Int):ye .eql (.int k a) (.int k b)=some (.bool (decide (a=b))):=by
 simp[ye];rw[GV];simp
theorem zNA(k:IntKind)(a b:Int):ye .neq (.int k a) (.int k b)=some (.bool (!decide (a=b))):=by
 simp[ye];rw[GV];simp
theorem zEO{n:Int}(h1: -9223372036854775808<=n)(h2:n<=9223372036854775807):IntKind.wrap .i64 n=n:=by
 simp[IntKind.wrap,IntKind.signed,IntKind.bits];omega
section
variable {P:Program}{ih:Ex}{t:U5 Value}{h:U0}{v:Value}{l:List Int}
theorem XL{x:Operand}{i:Nat}(hx:ev t x=zv v i)(s:WJ h v l)(hi:i<l.length):U8 P ih t h (.load false 1 x)=some (I (l.getD i 0),h):=
 s.load hx (by simp[List.getD,QB hi])
theorem Xe{x y:Operand}{i:Nat}(hx:ev t x=v)(hy:BE (ev t y)=some i)(s:WJ h v l)(hi:i<l.length):U8 P ih t h (.idx 1 x y)=some (zv v i,h):=s.idx hx hy hi
theorem Xq{x:Operand}(hx:ev t x=v)(s:WJ h v l):U8 P ih t h (.len x)=some (I l.length,h):=s.len hx
end
section
variable {P:Program}{tab:Wo}
def zLx(ops:List (U3×List Nat)):Bool:=ops.all fun x=>x.2.isEmpty&&Nat.ble (zH x.1.op) 1
theorem zBl{op:Wn}(h:Nat.ble (zH op) 1=true):(zH op=0\/zH op=1)/\zAo op=true:=by
 cases op<;>first|exact⟨.inl rfl,rfl⟩|exact⟨.inr rfl,rfl⟩|cases h
theorem zH8{ih:Ex}{o:U3}{fr fr':WH}{h h':U0}(hk:Nat.ble (zH o.op) 1=true)(hx:yK P ih o fr h=some (fr',h'))(m:Nat)(wr:List Nat):
  h'=h/\yK P ih o fr {h with mark:=m,wr:=wr}=some (fr',{h with mark:=m,wr:=wr}):=by
 obtain⟨k,hp⟩:=zBl hk;unfold yK at hx |-;cases hw:zS fr.tm o.guard with
 |false=>simp only[hw,QV,QA,QD]at hx |-;obtain⟨rfl,rfl⟩:=hx;refine⟨rfl,?_⟩;first|trivial|exact⟨rfl,rfl⟩
 |true=>
  simp only[hw,cond_true]at hx |-;cases ha:U8 P ih fr.tm h o.op with
  |none=>
   have:yC P ih fr.tm fr.round h o.op=none:=by cases hop:o.op<;>simp_all [yC,zAo]
   simp[this]at hx
  |some q=>
   obtain⟨v,h2⟩:=q;have e1:=zEj k ha;obtain⟨rfl,_,e2⟩:=e1;have e3:U8 P ih fr.tm {h2 with mark:=m,wr:=wr} o.op=some (v,{h2 with mark:=m,wr:=wr}):=e2 _ (fun _ _=> .inl rfl);have v1:∀ {h h':U0},U8 P ih fr.tm h o.op=some (v,h')->yC P ih fr.tm fr.round h o.op=some (v,[],h'):=fun {h h'} e=>by
    cases hop:o.op<;>first|(rw[hop]at hp;cases hp;done)|(rw[hop]at e;simp only[yC,e])
   rw[v1 ha]at hx;rw[v1 e3];simp only[QA,QD]at hx |-;obtain⟨rfl,rfl⟩:=hx;refine⟨rfl,?_⟩;first|trivial|exact⟨rfl,rfl⟩
theorem zCP{ih:Ex}:∀ {ops:List (U3×List Nat)} {i g:Nat} {rs:List (Nat×Nat×Option (Nat×Nat×List Value))} {bs:List (Nat×Nat)} {fr fr':WH} {h h':U0} (m:Nat) (wr:List Nat),zLx ops=true->yr P ih (ops.map (·.1)) fr h=some (fr',h')->
  h'=h/\∃ m' wr',yU P ih ops i g [] rs bs fr {h with mark:=m,wr:=wr}=some (fr',{h with mark:=m',wr:=wr'},[]):=by
 intro ops;induction ops with
 |nil=>
  intro i g rs bs fr fr' h h' m wr _ hx;simp only[Gb,yr,QA,QD]at hx;obtain⟨rfl,rfl⟩:=hx;exact⟨rfl,m,wr,rfl⟩
 |cons x ops ihl=>
  obtain⟨o,un⟩:=x;intro i g rs bs fr fr' h h' m wr hc hx;simp only[zLx,List.all_cons,QJ]at hc;obtain⟨⟨hun,hk⟩,hc⟩:=hc;have hun:un=[]:=List.isEmpty_iff.1 hun;subst hun;simp only[Qr,yr]at hx;cases ha:yK P ih o fr h with
  |none=>simp[ha]at hx
  |some q=>
   obtain⟨fr1,h1⟩:=q;simp only[ha]at hx;obtain⟨rfl,e⟩:=zH8 hk ha h1.n [];have hk3:Nat.beq (zH o.op) 3=false:=by
    rcases(zBl hk).1 with k|k<;>rw[k]<;>rfl
   obtain⟨e1,m',wr',e2⟩:=ihl (i:=i+1) (g:=g) (rs:=match zh fr.tm o with|some g=>(i,g,zAR fr.tm {h1 with mark:=h1.n,wr:=[]} o.op)::rs|none=>rs) (bs:=(i,h1.n)::bs) h1.n [] hc hx;refine⟨e1,m',wr',?_⟩;simp only[yU,yb,hk3,QV];have e':yK P ih o fr {h1 with mark:=h1.n,wr:=[]}=some (fr1,{h1 with mark:=h1.n,wr:=[]}):=e;rw[e'];simp only[List.all_nil,List.contains_nil,Qg,Qy,Qs,Qt,Qf,Gb,List.append_nil];have hb:(bs.all fun _=>true)=true:=by simp
   have hr:(rs.all fun _=>true)=true:=by simp
   cases hra:zh fr.tm o with
   |none=>
    simp only[hra]at e2;simp only[hr,Qt,cond_true];exact e2
   |some g'=>
    simp only[hra]at e2;simp only[hb,hr,Qt,cond_true];exact e2
theorem Ve{ops fr h K}(hc:zLx ops=true)(hx:WO P tab (ops.map (·.1)) fr h fun fr h=>K .normal fr h):WX P tab (.regionC ops) fr h K:=by
 unfold WO at hx;obtain⟨fr',h',a,b⟩:=hx;have hno:(ops.filter fun x=>Nat.beq (zH x.1.op) 3).length=0:=by
  rw[Gi,List.filter_eq_nil_iff];intro x hx;have:=QY.1 hc x hx;simp only[QJ]at this;rcases(zBl this.2).1 with k|k<;>rw[k]<;>simp
 have hh:h'=h:=by
  unfold Ev at b;obtain⟨N,b⟩:=b;exact(zCP (i:=0) (g:=0) (rs:=[]) (bs:=[]) 0 [] hc (b N (QE _))).1
 subst hh;unfold WX;refine⟨_,fr',_,a,Ev.up (b.mono fun n e=> ?_)⟩;obtain⟨_,m',wr',e2⟩:=zCP (i:=0) (g:=h'.n) (rs:=[]) (bs:=[]) h'.mark h'.wr hc e;rw[zp];simp only[zl,Ye,hno,Nat.add_zero];rw[e2];simp
end
def U7(h0 h:U0)(v:Value)(l:List Int):Prop:=(v=.slice none 0 0/\l=[])\/WT h0 h v l
theorem U7.sl{h0 h v l}(o:U7 h0 h v l):WJ h v l:=by
 rcases o with⟨rfl,rfl⟩|o
 ·exact WJ.nil h
 ·exact o.sl
theorem U7.ext{h0 h h' v l}(o:U7 h0 h v l)(e:Ext h h'):U7 h0 h' v l:=o.imp id fun o=>o.ext e
theorem WT.since{h0 h1 h v l}(o:WT h1 h v l)(e:Ext h0 h1):WT h0 h v l:=by
 obtain⟨g,a,b⟩:=o;exact⟨g,QU e.n a,b⟩
theorem U7.since{h0 h1 h v l}(o:U7 h1 h v l)(e:Ext h0 h1):U7 h0 h v l:=o.imp id fun o=>o.since e
def BP(v:Value)(h h':U0):Prop:=h.n<=h'.n/\∀ g,g<h.n->(∀ a n c,v=.slice (some a) n c->a.block≠g)->h'.get g=h.get g
theorem zCA(l:List Int):zK (l.map I)=true:=by simp[zK]
section
variable {P:Program}{tab:Wo}{t:U5 Value}{h h0:U0}{ds:List Deferred}{rd:Option Nat}{l:List U3}{Q:WH->U0->Prop}{d:Nat}
theorem Zj(h:U0)(o:Wa):Ext h (h.push o):=(Ext.refl h).push o
theorem zU(h:U0)(o:Wa):(h.push o).get h.n=some o:=by rw[zT,QF rfl]
theorem XH{n:Nat}{zero:List Value}{parts:List (Nat×Nat×Operand)}(xs:List Int)(hn:xs.length=n)(hf:Zg (zg zero n) (zw t parts)=some (xs.map I))
  (k:∀ v h',Ext h h'->WT h h' v xs->WO P tab l ⟨t.set d v,ds,rd⟩ h' Q):WO P tab (⟨some d,none,.buildSlice n 1 zero parts⟩::l) ⟨t,ds,rd⟩ h Q:=by
 refine WO.op _ _ rfl (by simp only[U8,hf,QI];rfl) (k _ _ (Zj _ _) ⟨h.n,QE _,by simp[U0.push],by rw[hn],zU _ _⟩)
theorem zAQ(l:List Int)(i:Nat)(a:Int)(hi:i<l.length):zi (l.map I) i [I a]=(l.set i a).map I:=by
 unfold zi;rw[<-List.map_take,QX,<-List.map_drop,List.set_eq_take_append_cons_drop,QF hi];simp
theorem XN{x y:Operand}{v:Value}{xs:List Int}{i:Nat}{a:Int}(hx:ev t x=zv v i)(hy:ev t y=I a)(o:WT h0 h v xs)(e0:Ext h0 h)(hi:i<xs.length)
  (k:∀ h',Ext h0 h'->WT h0 h' v (xs.set i a)->BP v h h'->WO P tab l ⟨t,ds,rd⟩ h' Q):WO P tab (⟨none,none,.store 1 x y⟩::l) ⟨t,ds,rd⟩ h Q:=by
 obtain⟨g,g1,g2,rfl,g3⟩:=o;have hst:zo h ⟨g,i,none⟩ [I a]=some (h.set g (.row (zi (xs.map I) i [I a]) true 0)):=by
  have h1:Nat.ble (i+1) (xs.map I).length=true:=QG (by simp;omega);have h0:Nat.ble 0 i=true:=QG (QK _);simp only[zo,g3,QX,h1,h0,Qt];rfl
 rw[zAQ _ _ _ hi]at hst;refine VU undef (h.set g (.row ((xs.set i a).map I) true 0)) rfl ?_ (k _ (e0.set g1 g2 _) ⟨g,g1,g2,by simp,by rw[zt,QF rfl]⟩ ⟨QE _,fun k _ hk=> ?_⟩)
 ·have hc:(I a).cells=#[I a]:=rfl;simp only[U8,hx,zv,hy,GC,hc,hst,QI];rfl
 ·rw[zt,QC (fun e=>hk _ _ _ rfl e.symm)]
theorem XC{x y:Operand}{v w:Value}{xs ys:List Int}(hx:ev t x=v)(hy:ev t y=w)(o:U7 h0 h v xs)(s:WJ h w ys)(e0:Ext h0 h)(hne:ys≠[])(hr:xs.length+ys.length<=4294967296)
  (k:∀ v' h',Ext h0 h'->WT h0 h' v' (xs++ys)->BP v h h'->WO P tab l ⟨t.set d v',ds,rd⟩ h' Q):WO P tab (⟨some d,none,.append 1 x y⟩::l) ⟨t,ds,rd⟩ h Q:=by
 have hsrc:=Zv s;have hroom:room=4294967296:=rfl;obtain⟨z,zs,rfl⟩:∃ z zs,ys=z::zs:=by
  cases ys with
  |nil=>exact absurd rfl hne
  |cons z zs=>exact⟨z,zs,rfl⟩
 have hone:zK (I z::zs.map I)=true:=zCA (z::zs);have hlen:(I z::zs.map I).length / 1=(z::zs).length:=by simp
 rcases o with⟨rfl,rfl⟩|⟨g,g1,g2,rfl,g3⟩
 ·have h1:Nat.ble (z::zs).length room=true:=QG (by rw[hroom];simpa using hr);refine WO.op (.slice (some ⟨h.n,0,none⟩) (z::zs).length 1) (h.push (.row ((z::zs).map I) true 0)) rfl ?_ (k _ _ (e0.push _) ⟨h.n,e0.n,by simp[U0.push],rfl,zU _ _⟩ ⟨GU _,fun k hk _=> ?_⟩)
  ·simp only[U8,hx,hy,yP,hsrc,Qr,hone,hlen,h1,QW,cond_true,QV];rfl
  ·rw[zT,QC (by omega)]
 ·have h1:Nat.ble (xs.length+(z::zs).length) room=true:=QG (by rw[hroom];exact hr);have h2:cut (xs.map I) 0 (xs.length*1)=some (xs.map I):=by rw[ZG (by simp)];simp[Q9]
  have hn:(h.kill g).n=h.n:=rfl;have h3:Nat.ble 0 (0+xs.length*1)=true:=QG (QK _);refine WO.op (.slice (some ⟨h.n,0,none⟩) (xs.length+(z::zs).length) 1) ((h.kill g).push (.row (xs.map I++(z::zs).map I) true (0-0))) rfl ?_
   (k _ _ ((e0.kill g1).push _) ⟨h.n,e0.n,by simp[U0.push,U0.kill],by simp,?_⟩ ⟨GU _,fun k hk hv=> ?_⟩)
  ·simp only[U8,hx,hy,yP,hsrc,Qr,hone,hlen,h1,g3,h2,h3,QW,cond_true,QV];rfl
  ·have:=zU (h.kill g) (.row (xs.map I++(z::zs).map I) true (0-0));rw[hn]at this;rw[this];simp
  ·rw[zT,QC (by rw[hn];omega),yl,QC (fun e=>hv _ _ _ rfl e.symm)]
section
variable {P:Program}{tab:Wo}{t:U5 Value}{h h0:U0}{ds:List Deferred}{rd:Option Nat}{l:List U3}{Q:WH->U0->Prop}{d:Nat}
end
def yG(p:Value)(j:Nat):Value:=match p with
 | .pointer (some a)=> .pointer (some ⟨a.block,a.off+j,none⟩)
 |_=>undef
def U1(h0 h:U0)(p:Value)(cells:List Value):Prop:=∃ g,h0.n<=g/\g<h.n/\p=.pointer (some ⟨g,0,none⟩)/\h.get g=some (.row cells true 0)
theorem U1.ext{h0 h h' p cells}(o:U1 h0 h p cells)(e:Ext h h'):U1 h0 h' p cells:=by
 obtain⟨g,a,b,c,d⟩:=o;exact⟨g,a,QM b e.n,c,(e.get g b).trans d⟩
theorem U1.since{h0 h1 h p cells}(o:U1 h1 h p cells)(e:Ext h0 h1):U1 h0 h p cells:=by
 obtain⟨g,a,b⟩:=o;exact⟨g,QU e.n a,b⟩
theorem U1.at0{h0 h p cells}(o:U1 h0 h p cells):p=yG p 0:=by obtain⟨g,_,_,rfl,_⟩:=o;rfl
section
variable {P:Program}{tab:Wo}{ih:Ex}{t:U5 Value}{h h0:U0}{ds:List Deferred}{rd:Option Nat}{l:List U3}{Q:WH->U0->Prop}{d:Nat}{p:Value}{cells:List Value}
theorem UM{x:Operand}(cells:List Value)(hv:(ev t x).cells.toList=cells)(k:∀ p h',Ext h h'->U1 h h' p cells->WO P tab l ⟨t.set d p,ds,rd⟩ h' Q):
  WO P tab (⟨some d,none,.box x⟩::l) ⟨t,ds,rd⟩ h Q:=by
 subst hv;exact WO.op _ _ rfl (by simp only[U8]) (k _ _ (Zj _ _) ⟨h.n,QE _,by simp[U0.push],rfl,zU _ _⟩)
theorem XQ{zero:List Value}(k:∀ p h',Ext h h'->U1 h h' p zero->WO P tab l ⟨t.set d p,ds,rd⟩ h' Q):
  WO P tab (⟨some d,none,.alloc zero⟩::l) ⟨t,ds,rd⟩ h Q:=
 WO.op _ _ rfl (by simp only[U8]) (k _ _ (Zj _ _) ⟨h.n,QE _,by simp[U0.push],rfl,zU _ _⟩)
theorem U1.idxArr{x y:Operand}{n c j i:Nat}(hx:ev t x=yG p j)(hy:BE (ev t y)=some i)(o:U1 h0 h p cells)(hi:i<n):U8 P ih t h (.idxArr n c x y)=some (yG p (j+i*c),h):=by
 obtain⟨g,_,_,rfl,_⟩:=o;have h1:Nat.ble (i+1) n=true:=QG hi;simp[U8,hx,hy,yG,h1]
theorem Vm{x y:Operand}{n c i:Nat}(hx:ev t x=p)(hy:BE (ev t y)=some i)(o:U1 h0 h p cells)(hi:i<n):U8 P ih t h (.idxArr n c x y)=some (yG p (i*c),h):=by
 have:=U1.idxArr (P:=P) (ih:=ih) (c:=c) (hx.trans o.at0) hy o hi;rwa [GC]at this
theorem U1.fld{x:Operand}{off j:Nat}(hx:ev t x=yG p j)(o:U1 h0 h p cells):U8 P ih t h (.fld off x)=some (yG p (j+off),h):=by
 obtain⟨g,_,_,rfl,_⟩:=o;simp[U8,hx,yG]
theorem XP{x:Operand}{off:Nat}(hx:ev t x=p)(o:U1 h0 h p cells):U8 P ih t h (.fld off x)=some (yG p off,h):=by
 have:=U1.fld (P:=P) (ih:=ih) (off:=off) (hx.trans o.at0) o;rwa [GC]at this
theorem U1.load{x:Operand}{agg:Bool}{n j:Nat}{r:Value}(hx:ev t x=yG p j)(o:U1 h0 h p cells)(hr:(cut cells j n).bind (zM agg)=some r):U8 P ih t h (.load agg n x)=some (r,h):=by
 obtain⟨g,_,_,rfl,hg⟩:=o;simp[U8,hx,yG,yW,hg,hr]
theorem Vj{x:Operand}{agg:Bool}{n:Nat}{r:Value}(hx:ev t x=p)(o:U1 h0 h p cells)(hr:(cut cells 0 n).bind (zM agg)=some r):U8 P ih t h (.load agg n x)=some (r,h):=
 U1.load (hx.trans o.at0) o hr
end
def BC(h0 h:U0)(m:Value)(es:List (Int×Int)):Prop:=
 ∃ g clock es',h0.n<=g/\g<h.n/\m=.map (some g)/\h.get g=some (.map es' clock)/\es'.map (fun e=>(e.key,e.val))=es.map fun e=>(I e.1,I e.2)
theorem BC.ext{h0 h h' m es}(o:BC h0 h m es)(e:Ext h h'):BC h0 h' m es:=by
 obtain⟨g,c,es',a,b,x,y,z⟩:=o;exact⟨g,c,es',a,QM b e.n,x,(e.get g b).trans y,z⟩
theorem BC.upd{h0 h h' m es v xs}(o:BC h0 h m es)(s:U7 h0 h v xs)(u:BP v h h'):BC h0 h' m es:=by
 obtain⟨g,c,es',a,b,x,y,z⟩:=o;refine⟨g,c,es',a,QM b u.1,x,(u.2 g b fun q n k hv e=> ?_).trans y,z⟩;rcases s with⟨rfl,_⟩|⟨g2,_,_,rfl,w⟩
 ·cases hv
 ·cases hv;simp only at e;subst e;rw[y]at w;cases w
theorem zCm{n:Int}:∀ {es':List MapEntry} {es:List (Int×Int)} (i:Nat),es'.map (fun e=>(e.key,e.val))=es.map (fun e=>(I e.1,I e.2))->es.lookup n=none->Z7 (I n) es' i=some none
 |[],[],_,_,_=>rfl
 |[],_::_,_,h,_=>by cases h
 |_::_,[],_,h,_=>by cases h
 |e::es',(k,v)::es,i,h,hl=>by
  simp only[Qr,List.cons.injEq,QD]at h;rw[List.lookup_cons]at hl;split at hl
  ·cases hl
  ·rename_i hk;have:zCS (I n) e.key=some false:=by rw[h.1.1];simp only[zCS,Q0];rw[hk]
   simp only[Z7,this];exact zCm (i+1) h.2 hl
theorem zFV{n v:Int}:∀ {es':List MapEntry} {es:List (Int×Int)} (i:Nat),es'.map (fun e=>(e.key,e.val))=es.map (fun e=>(I e.1,I e.2))->es.lookup n=some v->∃ j,Z7 (I n) es' i=some (some (j,I v))
 |[],[],_,_,hl=>by cases hl
 |[],_::_,_,h,_=>by cases h
 |_::_,[],_,h,_=>by cases h
 |e::es',(k,w)::es,i,h,hl=>by
  simp only[Qr,List.cons.injEq,QD]at h;rw[List.lookup_cons]at hl;split at hl
  ·rename_i hk;cases hl;have:zCS (I n) e.key=some true:=by rw[h.1.1];simp only[zCS,Q0];rw[hk]
   exact⟨i,by simp only[Z7,this,h.1.2]⟩
  ·rename_i hk;have:zCS (I n) e.key=some false:=by rw[h.1.1];simp only[zCS,Q0];rw[hk]
   obtain⟨j,hj⟩:=zFV (i+1) h.2 hl;exact⟨j,by simp only[Z7,this,hj]⟩
section
variable {P:Program}{tab:Wo}{t:U5 Value}{h h0:U0}{ds:List Deferred}{rd:Option Nat}{l:List U3}{Q:WH->U0->Prop}{d:Nat}
theorem WO.mkMap(k:∀ m h',Ext h h'->BC h h' m []->WO P tab l ⟨t.set d m,ds,rd⟩ h' Q):WO P tab (⟨some d,none,.mkMap⟩::l) ⟨t,ds,rd⟩ h Q:=
 WO.op _ _ rfl (by simp only[U8]) (k _ _ (Zj _ _) ⟨h.n,0,[],QE _,by simp[U0.push],rfl,zU _ _,rfl⟩)
def zMG(m:Value)(h h':U0):Prop:=h.n<=h'.n/\∀ g,g<h.n->m≠ .map (some g)->h'.get g=h.get g
theorem WT.updM{h0 h h' m es v xs}(s:WT h0 h v xs)(o:BC h0 h m es)(u:zMG m h h'):WT h0 h' v xs:=by
 obtain⟨g,a,b,rfl,c⟩:=s;refine⟨g,a,QM b u.1,rfl,(u.2 g b fun e=> ?_).trans c⟩;obtain⟨g2,_,_,_,_,x,y,_⟩:=o;rw[x]at e;cases e;rw[c]at y;cases y
theorem U7.updM{h0 h h' m es v xs}(s:U7 h0 h v xs)(o:BC h0 h m es)(u:zMG m h h'):U7 h0 h' v xs:=s.imp id fun s=>s.updM o u
end
end
inductive Rd{H:Type}(P:Program)(h:U0):TypeId->List Value->DataW H->Prop
 |bool {t} (b:Bool) (ht:P.underlying t=some .bool):Rd P h t [.bool b] (.lit (.bool b))
 |int {t k} (n:Int) (ht:P.underlying t=some (.int k)) (wf:(Lit.int k n).wf=true):Rd P h t [.int k n] (.lit (.int k n))
 |string {t} (s:ByteArray) (ht:P.underlying t=some .string) (hs:s.size<=maxLen):Rd P h t [.string s] (.lit (.string s.data.toList))
 |snil {t e} (ht:P.underlying t=some (.slice e)):Rd P h t [.slice none 0 0] .nil
 |szero {t e} (a:Addr) (spare:List (DataW H)) (ht:P.underlying t=some (.slice e)):Rd P h t [.slice (some a) 0 (P.cellsOf e)] (.slice [] spare)
 |slice {t e} (g:Nat) (cells:List Value) (elems spare:List (DataW H)) (ht:P.underlying t=some (.slice e)) (hg:h.get g=some (.row cells false 0)) (hn:g<h.n) (hl:cells.length=elems.length*P.cellsOf e)
   (hm:elems.length<=maxLen) (hr:∀ (i:Nat) (d:DataW H),elems[i]?=some d->Rd P h e ((cells.drop (i*P.cellsOf e)).take (P.cellsOf e)) d):
   Rd P h t [.slice (some ⟨g,0,none⟩) elems.length (P.cellsOf e)] (.slice elems spare)
 |struct {t fs} (cells:List Value) (parts:List (DataW H)) (ht:P.underlying t=some (.struct fs)) (hl:cells.length=P.cellsOf t) (hp:parts.length=fs.size)
   (hr:∀ (i:Nat) (f:Field) (d:DataW H),fs[i]?=some f->parts[i]?=some d->Rd P h f.type ((cells.drop f.offset).take (P.cellsOf f.type)) d):Rd P h t cells (.agg parts)
 |array {t n e} (cells:List Value) (parts:List (DataW H)) (ht:P.underlying t=some (.array n e)) (hl:cells.length=P.cellsOf t) (hp:parts.length=n)
   (hr:∀ (i:Nat) (d:DataW H),parts[i]?=some d->Rd P h e ((cells.drop (i*P.cellsOf e)).take (P.cellsOf e)) d):Rd P h t cells (.agg parts)
theorem Rd.ext{H:Type}{P:Program}{h h':U0}{t:TypeId}{cells:List Value}{d:DataW H}(r:Rd P h t cells d)(e:Ext h h'):Rd P h' t cells d:=by
 induction r with
 |bool b ht=>exact .bool b ht
 |int n ht wf=>exact .int n ht wf
 |string s ht hs=>exact .string s ht hs
 |snil ht=>exact .snil ht
 |szero a sp ht=>exact .szero a sp ht
 |slice g cells elems sp ht hg hn hl hm _ ih=>exact .slice g cells elems sp ht ((e.get g hn).trans hg) (QM hn e.n) hl hm ih
 |struct cells parts ht hl hp _ ih=>exact .struct cells parts ht hl hp ih
 |array cells parts ht hl hp _ ih=>exact .array cells parts ht hl hp ih
def zBB(P:Program):List Field->Nat->Option Nat
 |[],n=>some n
 |f::l,n=>bif Nat.beq f.offset n then zBB P l (n+P.cellsOf f.type)else none
def Yp(P:Program):Nat->TypeId->Bool
 |0,_=>false
 |n+1,t=>match P.underlying t with
  |some .bool|some (.int _)|some .string=>true
  |some (.slice e)=>Nat.ble 1 (P.cellsOf e)&&Yp P n e
  |some (.struct fs)=>(match zBB P fs.toList 0 with|some m=>Nat.beq m (P.cellsOf t)|none=>false)&&fs.toList.all fun f=>Yp P n f.type
  |some (.array m e)=>Nat.beq (m*P.cellsOf e) (P.cellsOf t)&&Yp P n e
  |_=>false
def zMY(h:U0):Prop:=∀ g o,h.get g=some o->zBw o=false
section
variable {P:Program}{H:Type}{enc:TypeId×Value->H}{w:World}{B:Nat}
theorem zIF{σ:Nat->Option Pl}{h:U0}(hr:WN P B σ h w)(hno:zMY h)(hrow:∀ g o,h.get g=some o->∃ c l,o=.row c false l){cells:List Value}{pl:Pl}(hb:pl.b<w.heap.size)
  (ho:BR P σ pl (.row cells false 0) w):
  WN P B (Zh σ h.n pl) (h.push (.row cells false 0)) w/\zMY (h.push (.row cells false 0))/\(∀ g o,(h.push (.row cells false 0)).get g=some o->∃ c l,o=.row c false l)/\Le σ (Zh σ h.n pl):=by
 have hle:Le σ (Zh σ h.n pl):=zBS hr pl;have hnone:h.get h.n=none:=by
  cases hg:h.get h.n with
  |none=>rfl
  |some o=>obtain⟨pl,h1,_⟩:=hr.live _ _ hg;have:=(hr.lt _ _ h1).1;omega
 have hrows:∀ g o,(h.push (.row cells false 0)).get g=some o->∃ c l,o=.row c false l:=fun g o hg=>by
  rw[zT]at hg;split at hg
  ·cases hg;exact⟨_,_,rfl⟩
  ·exact hrow g o hg
 refine⟨⟨fun g hg=> ?_,fun g p hg=> ?_,fun g o hg=> ?_,fun g o g' o' p p' hg hg' _ _ _ _=> ?_,hr.le⟩,fun g o hg=> ?_,hrows,hle⟩
 ·obtain⟨p,h1,h2⟩:=hr.globals g hg;exact⟨p,hle _ _ h1,h2⟩
 ·unfold Zh at hg;split at hg
  ·cases hg;rename_i e;subst e;exact⟨by simp[U0.push],hb⟩
  ·have:=hr.lt g p hg;exact⟨by simp[U0.push];omega,this.2⟩
 ·rw[zT]at hg;split at hg
  ·rename_i e;subst e;cases hg;exact⟨pl,yE _ _ _,ho.keep hle rfl,fun x=>by cases x⟩
  ·obtain⟨p,h1,h2,h3⟩:=hr.live g o hg;exact⟨p,hle _ _ h1,h2.keep hle rfl,h3⟩
 ·obtain⟨c,l,rfl⟩:=hrows g o hg;obtain⟨c',l',rfl⟩:=hrows g' o' hg';exact⟨fun⟨x,_⟩=>Bool.noConfusion x,fun x=>Bool.noConfusion x,fun x=>Bool.noConfusion x⟩
 ·obtain⟨c,l,rfl⟩:=hrows g o hg;rfl
structure BZ(P:Program)(B:Nat)(σ:Nat->Option Pl)(h:U0)(w:World):Prop where
 rel:WN P B σ h w
 rows:∀ g o,h.get g=some o->∃ c l,o=.row c false l
 wf:Wf h
theorem BZ.no{σ:Nat->Option Pl}{h:U0}(c:BZ P B σ h w):zMY h:=fun g o hg=>by obtain⟨c,l,rfl⟩:=c.rows g o hg;rfl
theorem zEm:∀ {as:List (List Value)} {i:Nat} {a:List Value},as[i]?=some a->(as.flatten.drop ((as.take i).flatten.length)).take a.length=a
 |[],i,a,h=>by simp at h
 |x::as,0,a,h=>by simp at h;subst h;simp
 |x::as,i+1,a,h=>by
  simp at h;have:=zEm h;simp only[Qm,GR,QR];rw[List.drop_append,List.drop_of_length_le (by omega),GK];have e:x.length+(as.take i).flatten.length-x.length=(as.take i).flatten.length:=by omega
  rw[e];exact this
theorem zEH{c:Nat}:∀ {as:List (List Value)},(∀ a∈as,a.length=c)->as.flatten.length=as.length*c
 |[],_=>by simp
 |x::as,h=>by
  have:=zEH (as:=as) (fun a ha=>h a (by simp[ha]));simp only[GR,QR,GE,this,h x (by simp)];rw[Gx];omega
theorem zA0(R:TypeId->List Value->DataW H->Prop)
  (one:∀ t cs d,R t cs d->∀ σ h,BZ P B σ h w->∃ σ' h' acs,BZ P B σ' h' w/\Ext h h'/\Le σ σ'/\WI σ' acs cs/\Rd P h' t acs d):
  ∀ (l:List (TypeId×List Value×DataW H)),(∀ p∈l,R p.1 p.2.1 p.2.2)->∀ σ h,BZ P B σ h w->
   ∃ (σ':Nat->Option Pl) (h':U0) (as:List (List Value)),BZ P B σ' h' w/\Ext h h'/\Le σ σ'/\as.length=l.length/\∀ (i:Nat) (a:List Value) (p:TypeId×List Value×DataW H),as[i]?=some a->l[i]?=some p->WI σ' a p.2.1/\Rd P h' p.1 a p.2.2:=by
 intro l;induction l with
 |nil=>intro _ σ h hc;exact⟨σ,h,[],hc,Ext.refl h,.refl _,rfl,fun i a p ha=>by simp at ha⟩
 |cons p l ih=>
  intro hl σ h hc;obtain⟨σ1,h1,a1,c1,e1,l1,r1,d1⟩:=one _ _ _ (hl p (by simp)) σ h hc;obtain⟨σ2,h2,as,c2,e2,l2,n2,r2⟩:=ih (fun q hq=>hl q (by simp[hq])) σ1 h1 c1;refine⟨σ2,h2,a1::as,c2,e1.trans e2,l1.trans l2,by simp[n2],fun i a q ha hq=> ?_⟩;cases i with
  |zero=>simp at ha hq;subst ha hq;exact⟨r1.mono l2,d1.ext e2⟩
  |succ i=>simp at ha hq;exact r2 i a q ha hq
theorem zFZ{σ:Nat->Option Pl}:∀ {as cs:List (List Value)},as.length=cs.length->(∀ (i:Nat) a c,as[i]?=some a->cs[i]?=some c->WI σ a c)->WI σ as.flatten cs.flatten
 |[],[],_,_=>WI.nil _
 |a::as,c::cs,hl,h=>by
  simp only[GR];exact(h 0 a c rfl rfl).append (zFZ (by simpa using hl) fun i x y hx hy=>h (i+1) x y (by simpa using hx) (by simpa using hy))
 |[],_::_,hl,_=>by simp at hl
 |_::_,[],hl,_=>by simp at hl
theorem zJ1(a:Addr)(ha:a.spot=none)(i:Nat):a.add i=⟨a.block,a.off+i,none⟩:=by
 unfold Addr.add;split
 ·rename_i e;subst e;obtain⟨b,o,s⟩:=a;simp only at ha;subst ha;rfl
 ·rfl
theorem zH3{σ:Nat->Option Pl}:∀ (sz:List Nat) (as:List (List Value)) (cs:List Value),sz.sum=cs.length->as.length=sz.length->
  (∀ (i:Nat) a s,as[i]?=some a->sz[i]?=some s->WI σ a ((cs.drop (sz.take i).sum).take s))->
  WI σ as.flatten cs/\∀ (i:Nat) a s,as[i]?=some a->sz[i]?=some s->a.length=s/\(as.flatten.drop (sz.take i).sum).take s=a
 |[],[],cs,hs,_,_=>by
  have:cs=[]:=Gi.1 (by simpa using hs.symm);subst this;exact⟨WI.nil _,fun i a s ha=>by simp at ha⟩
 |[],_::_,_,_,hl,_=>by simp at hl
 |_::_,[],_,_,hl,_=>by simp at hl
 |s::sz,a::as,cs,hs,hl,h=>by
  have h0:=h 0 a s rfl rfl;simp only[Q5,List.sum_nil,Q3]at h0;have hs':sz.sum+s=cs.length:=by simp at hs;omega
  have al:a.length=s:=by rw[h0.1];simp;omega
  obtain⟨i1,i2⟩:=zH3 sz as (cs.drop s) (by simp;omega) (by simpa using hl) (fun i x y hx hy=>by
   have:=h (i+1) x y (by simpa using hx) (by simpa using hy);simpa [List.drop_drop]using this)
  refine⟨?_,fun i x y hx hy=> ?_⟩
  ·have:=h0.append i1;simpa using this
  ·cases i with
   |zero=>
    simp at hx hy;subst hx hy;refine⟨al,?_⟩;simp only[Q5,List.sum_nil,Q3,GR];rw[<-al];simp
   |succ i=>
    simp at hx hy;obtain⟨j1,j2⟩:=i2 i x y hx hy;refine⟨j1,?_⟩;simp only[Qm,Gy,GR];rw[List.drop_append,List.drop_of_length_le (by omega),GK];have e:s+(sz.take i).sum-a.length=(sz.take i).sum:=by omega
    rw[e];exact j2
theorem zBH:∀ {l:List Field} {n m:Nat},zBB P l n=some m->m=n+(l.map fun f=>P.cellsOf f.type).sum/\
  ∀ (i:Nat) (f:Field),l[i]?=some f->f.offset=n+((l.map fun f=>P.cellsOf f.type).take i).sum
 |[],n,m,h=>by simp[zBB]at h;subst h;exact⟨by simp,fun i f hf=>by simp at hf⟩
 |f::l,n,m,h=>by
  unfold zBB at h;cases hb:Nat.beq f.offset n with
  |false=>simp[hb]at h
  |true=>
   have hb':=QL hb;simp only[hb,cond_true]at h;obtain⟨h1,h2⟩:=zBH h;refine⟨by rw[h1];simp;omega,fun i g hg=> ?_⟩;cases i with
   |zero=>simp at hg;subst hg;simpa using hb'
   |succ i=>simp at hg;rw[h2 i g hg];simp;omega
theorem zO9(L:List Value)(off c:Nat)(f:Nat->List Value):∀ len,(∀ i,i<len->f i=(L.drop (off+i*c)).take c)->((List.range len).map f).flatten=(L.drop off).take (len*c):=by
 intro len;induction len with
 |zero=>intro _;simp
 |succ n ih=>
  intro h;rw[List.range_succ,GB,List.flatten_append,ih (fun i hi=>h i (by omega))];simp only[Qr,Gb,GR,List.flatten_nil,List.append_nil];rw[h n (by omega),G4,List.take_add,List.drop_drop]
theorem zIE:∀ (n:Nat) (t:TypeId) (cs:List Value) (x:DataW H×List MemPlace),DataW.trod enc P w 0 (fun _=>true) true n t cs=some x->∀ (m:Nat),Yp P m t=true->
  ∀ (σ:Nat->Option Pl) (h:U0),BZ P B σ h w->∃ (σ':Nat->Option Pl) (h':U0) (acs:List Value),BZ P B σ' h' w/\Ext h h'/\Le σ σ'/\WI σ' acs cs/\Rd P h' t acs x.1:=by
 intro n;induction n with
 |zero=>intro t cs x hx;simp[DataW.trod]at hx
 |succ n ih=>
  intro t cs x hx m hm σ h hc;have one:∀ t cs (d:DataW H),(∃ x,DataW.trod enc P w 0 (fun _=>true) true n t cs=some x/\x.1=d/\∃ m,Yp P m t=true)->∀ σ h,BZ P B σ h w->
    ∃ (σ':Nat->Option Pl) (h':U0) (acs:List Value),BZ P B σ' h' w/\Ext h h'/\Le σ σ'/\WI σ' acs cs/\Rd P h' t acs d:=fun t cs d ⟨x,h1,h2,m,h3⟩ σ h hc=>by
   subst h2;exact ih t cs x h1 m h3 σ h hc
  cases m with
  |zero=>cases hm
  |succ m=>
  cases hu:P.underlying t with
  |none=>simp[Yp,hu]at hm
  |some u=>
  cases u with
  |bool=>
   obtain⟨b,rfl,rfl⟩:=DataW.trod_bool hu hx;exact⟨σ,h,_,hc,Ext.refl h,.refl _,.cons (.bool b) (.nil _),.bool b hu⟩
  |int k=>
   obtain⟨b,rfl,rfl,wf⟩:=DataW.trod_int hu hx;exact⟨σ,h,_,hc,Ext.refl h,.refl _,.cons (.int k b) (.nil _),.int b hu wf⟩
  |string=>
   obtain⟨b,rfl,rfl,wf⟩:=DataW.trod_string hu hx;exact⟨σ,h,_,hc,Ext.refl h,.refl _,.cons (.string b) (.nil _),.string b hu wf⟩
  |struct fs=>
   obtain⟨xs,n',e,rfl,hl,hxs,hf⟩:=DataW.trod_struct hu hx;cases e;simp only[Yp,hu,QJ,QY]at hm;obtain⟨hm1,hm2⟩:=hm;cases hcon:zBB P fs.toList 0 with
   |none=>simp[hcon]at hm1
   |some q=>
   simp only[hcon]at hm1;have hq:=QL hm1;obtain⟨c1,c2⟩:=zBH hcon;let l:List (TypeId×List Value×DataW H):=(fs.toList.zip xs).map fun p=>(p.1.type,(cs.drop p.1.offset).take (P.cellsOf p.1.type),p.2.1)
   have hlen:l.length=fs.size:=by simp[l,hxs]
   have hget:∀ (i:Nat) p,l[i]?=some p->∃ f y,fs[i]?=some f/\xs[i]?=some y/\p=(f.type,(cs.drop f.offset).take (P.cellsOf f.type),y.1):=fun i p hp=>by
    simp only[l,GT,QO]at hp;obtain⟨⟨f,y⟩,h1,h2⟩:=hp;rw[List.getElem?_zip_eq_some]at h1;exact⟨f,y,by simpa using h1.1,h1.2,h2.symm⟩
   obtain⟨σ',h',as,k1,k2,k3,k4,k5⟩:=zA0 _ one l (fun p hp=>by
    obtain⟨i,hi⟩:=Gp.1 hp;obtain⟨f,y,h1,h2,rfl⟩:=hget i p hi;exact⟨y,by rw[hf i f h1,h2],rfl,m,hm2 f (Gg (by simpa using h1))⟩) σ h hc
   have hsz:∀ (i:Nat) s,(fs.toList.map fun f=>P.cellsOf f.type)[i]?=some s->∃ f y,fs[i]?=some f/\xs[i]?=some y/\s=P.cellsOf f.type/\l[i]?=some (f.type,(cs.drop f.offset).take (P.cellsOf f.type),y.1):=fun i s hs=>by
    simp only[GT,QO]at hs;obtain⟨f,h1,h2⟩:=hs;have hi:i<fs.size:=by simpa using(QS.1 h1).1
    have hy:xs[i]?=some (xs[i]'(by omega)):=QB _;refine⟨f,_,by simpa using h1,hy,h2.symm,?_⟩;simp only[l,GT];have hz:(fs.toList.zip xs)[i]?=some (f,xs[i]'(by omega)):=List.getElem?_zip_eq_some.2 ⟨h1,hy⟩;rw[hz];rfl
   obtain⟨p1,p2⟩:=zH3 (σ:=σ') (fs.toList.map fun f=>P.cellsOf f.type) as cs (by omega) (by rw[k4,hlen];simp) (fun i a s ha hs=>by
    obtain⟨f,y,h1,h2,rfl,h3⟩:=hsz i s hs;have:=(k5 i a _ ha h3).1;rw[c2 i f (by simpa using h1),GC]at this;exact this)
   refine⟨σ',h',as.flatten,k1,k2,k3,p1,.struct _ _ hu (by rw[p1.1];exact hl) (by simpa using hxs) fun i f d hfi hd=> ?_⟩;simp only[GT,QO]at hd;obtain⟨y,hy,rfl⟩:=hd;have hs:(fs.toList.map fun f=>P.cellsOf f.type)[i]?=some (P.cellsOf f.type):=by simp[hfi]
   obtain⟨f',y',h1,h2,h4,h3⟩:=hsz i _ hs;rw[hfi]at h1;cases h1;rw[hy]at h2;cases h2;have hi:i<as.length:=by rw[k4];exact(QS.1 h3).1
   have ha:as[i]?=some as[i]:=QB _;have e1:=(p2 i _ _ ha hs).2;rw[c2 i f (by simpa using hfi),GC,e1];exact(k5 i _ _ ha h3).2
  |array k e=>
   obtain⟨xs,n',e',rfl,hl,hxs,hf⟩:=DataW.trod_array hu hx;cases e';simp only[Yp,hu,QJ]at hm;obtain⟨hm1,hm2⟩:=hm;have hq:=QL hm1;let l:List (TypeId×List Value×DataW H):=(List.range k).map fun i=>(e,(cs.drop (i*P.cellsOf e)).take (P.cellsOf e),((xs[i]?).map (·.1)).getD .nil)
   have hget:∀ (i:Nat),i<k->∃ y,xs[i]?=some y/\l[i]?=some (e,(cs.drop (i*P.cellsOf e)).take (P.cellsOf e),y.1):=fun i hi=>by
    have hy:xs[i]?=some (xs[i]'(by omega)):=QB _;exact⟨_,hy,by simp[l,hi,hy]⟩
   obtain⟨σ',h',as,k1,k2,k3,k4,k5⟩:=zA0 _ one l (fun p hp=>by
    obtain⟨i,hi⟩:=Gp.1 hp;have hik:i<k:=by have:=(QS.1 hi).1;simpa [l]using this
    obtain⟨y,h1,h2⟩:=hget i hik;rw[h2]at hi;cases hi;exact⟨y,by rw[hf i hik,h1],rfl,m,hm2⟩) σ h hc
   have hsum:∀ i,i<=k->((List.replicate k (P.cellsOf e)).take i).sum=i*P.cellsOf e:=fun i hi=>by
    rw[List.take_replicate,List.sum_replicate_nat,Ge hi]
   obtain⟨p1,p2⟩:=zH3 (σ:=σ') (List.replicate k (P.cellsOf e)) as cs (by rw[List.sum_replicate_nat];omega) (by rw[k4];simp[l]) (fun i a s ha hs=>by
    have hik:i<k:=by have:=(QS.1 hs).1;simpa using this
    obtain⟨y,h1,h2⟩:=hget i hik;have hs':s=P.cellsOf e:=by rw[JG,QF hik]at hs;exact(GJ hs).symm
    subst hs';rw[hsum i (by omega)];exact(k5 i a _ ha h2).1)
   refine⟨σ',h',as.flatten,k1,k2,k3,p1,.array _ _ hu (by rw[p1.1];exact hl) (by simpa using hxs) fun i d hd=> ?_⟩;simp only[GT,QO]at hd;obtain⟨y,hy,rfl⟩:=hd;have hik:i<k:=by have:=(QS.1 hy).1;omega
   obtain⟨y',h1,h2⟩:=hget i hik;rw[hy]at h1;cases h1;have hi:i<as.length:=by rw[k4];exact(QS.1 h2).1
   have ha:as[i]?=some as[i]:=QB _;have e1:=(p2 i _ (P.cellsOf e) ha (by simp[hik])).2;rw[hsum i (by omega)]at e1;rw[e1];exact(k5 i _ _ ha h2).2
  |slice e=>
   simp only[Yp,hu,QJ]at hm;obtain⟨hm1,hm2⟩:=hm;have hc1:1<=P.cellsOf e:=QP hm1;rcases DataW.trod_slice hu hx with⟨rfl,rfl⟩|⟨a,len,cap,elems,rest,n',e',rfl,rfl,_,hlc,hcm,hel,hrd,hsp,_⟩
   ·exact⟨σ,h,_,hc,Ext.refl h,.refl _,.cons .snil (.nil _),.snil hu⟩
   cases e';obtain⟨hrl,hrr⟩:=hsp rfl;by_cases hcap:cap=0
   ·subst hcap;have:len=0:=by omega
    subst this;have:elems=[]:=Gi.1 hel;subst this;exact⟨σ,h,_,hc,Ext.refl h,.refl _,.cons (.szero a a _) (.nil _),.szero a _ hu⟩
   ·generalize hcd:P.cellsOf e=c at *;have hall:∀ i,i<cap->∃ cs,w.cells? 0 (a.add (i*c)) c=some cs:=fun i hi=>by
     by_cases hil:i<len
     ·have:=hrd i hil;rw[QB (by omega)]at this;obtain⟨cs,h1,_⟩:=Option.bind_eq_some_iff.1 this;exact⟨cs,h1⟩
     ·have:=hrr (i-len) (by omega);rw[QB (by omega),show len+(i-len)=i by omega]at this;obtain⟨cs,h1,_⟩:=Option.bind_eq_some_iff.1 this;exact⟨cs,h1⟩
    have hspot:a.spot=none:=by
     obtain⟨cs,h1⟩:=hall 0 (by omega);obtain⟨_,h2,h3⟩:=World.cells?_some h1;have h4:=h3 0 (by omega);rw[Nat.zero_mul]at h4;have h5:(a.add 0).add 0=a:=by simp[Addr.add]
     rw[h5,QB (by omega)]at h4;exact World.cell?_spot h4
    have hadd:∀ i j,(a.add i).add j=⟨a.block,a.off+i+j,none⟩:=fun i j=>by
     rw[zJ1 a hspot,zJ1 _ rfl]
    obtain⟨carr,elem,fr,hblk⟩:∃ carr elem fr,w.heap[a.block]?=some (.cells carr elem fr):=by
     obtain⟨cs,h1⟩:=hall 0 (by omega);obtain⟨_,h2,h3⟩:=World.cells?_some h1;have h4:=h3 0 (by omega);rw[hadd,QB (by omega)]at h4;unfold World.cell? at h4;split at h4
     ·exact⟨_,_,_,by assumption⟩
     ·cases h4
    have hcell:∀ k,w.cell? ⟨a.block,k,none⟩=carr[k]?:=fun k=>by simp[World.cell?,hblk]
    have hpiece:∀ i,i<cap->w.cells? 0 (a.add (i*c)) c=some ((carr.toList.drop (a.off+i*c)).take c)/\a.off+i*c+c<=carr.size:=fun i hi=>by
     obtain⟨cs,h1⟩:=hall i hi;obtain⟨_,h2,h3⟩:=World.cells?_some h1;have hb:a.off+i*c+c<=carr.size:=by
      have h4:=h3 (c-1) (by omega);rw[hadd,hcell,QB (by omega)]at h4;have:=(G2.1 h4).1;omega
     refine⟨?_,hb⟩;rw[h1];congr 1;apply List.ext_getElem?;intro j;by_cases hj:j<c
     ·rw[<-h3 j hj,hadd,hcell,GL,QF hj,Ga];simp
     ·rw[G6 (by omega),G6 (by simp;omega)]
    have hbound:a.off+cap*c<=carr.size:=by
     have:=(hpiece (cap-1) (by omega)).2;have e2:(cap-1)*c+c=cap*c:=by
      rw[<-G4];congr 1;omega
     omega
    let l:List (TypeId×List Value×DataW H):=(List.range len).map fun i=>(e,(carr.toList.drop (a.off+i*c)).take c,((elems[i]?).map (·.1)).getD .nil)
    have hget:∀ (i:Nat),i<len->∃ y,elems[i]?=some y/\l[i]?=some (e,(carr.toList.drop (a.off+i*c)).take c,y.1):=fun i hi=>by
     have hy:elems[i]?=some (elems[i]'(by omega)):=QB _;exact⟨_,hy,by simp[l,hi,hy]⟩
    obtain⟨σ',h',as,k1,k2,k3,k4,k5⟩:=zA0 _ one l (fun p hp=>by
     obtain⟨i,hi⟩:=Gp.1 hp;have hik:i<len:=by have:=(QS.1 hi).1;simpa [l]using this
     obtain⟨y,h1,h2⟩:=hget i hik;rw[h2]at hi;cases hi;have:=hrd i hik;rw[(hpiece i (by omega)).1,h1]at this;exact⟨y,this,rfl,m,hm2⟩) σ h hc
    have hlen:as.length=len:=by rw[k4];simp[l]
    have hal:∀ (i:Nat) x,as[i]?=some x->i<len/\x.length=c:=fun i x hx=>by
     have hi:i<len:=by have:=(QS.1 hx).1;omega
     obtain⟨y,_,h2⟩:=hget i hi;have:=(k5 i x _ hx h2).1.1;refine⟨hi,?_⟩;rw[this];have:=(hpiece i (by omega)).2;simp;omega
    have hfl:as.flatten.length=len*c:=by
     rw[zEH (c:=c) (fun x hx=>by obtain⟨i,hi⟩:=Gp.1 hx;exact(hal i x hi).2),hlen]
    have hrel:WI σ' as.flatten ((carr.toList.drop a.off).take (len*c)):=by
     rw[<-zO9 carr.toList a.off c (fun i=>(carr.toList.drop (a.off+i*c)).take c) len (fun i _=>rfl)];refine zFZ (by simp[hlen]) fun i x y hx hy=> ?_;obtain⟨hi,_⟩:=hal i x hx;obtain⟨z,_,h2⟩:=hget i hi;have hy':y=(carr.toList.drop (a.off+i*c)).take c:=by
      rw[GT,List.getElem?_range hi]at hy;exact(GJ hy).symm
     rw[hy'];exact(k5 i x _ hx h2).1
    let pl:Pl:=⟨a.block,a.off,carr.size⟩
    have hlc':len*c<=cap*c:=GP c hlc;have hor:BR P σ' pl (.row as.flatten false 0) w:=by
     refine⟨carr,elem,fr,hblk,rfl,by show a.off+as.flatten.length<=carr.size;omega,fun i v hv=> ?_,fun x=>by cases x⟩;have hi:i<len*c:=by have:=(QS.1 hv).1;omega
     obtain⟨y,hy,hvy⟩:=hrel.get hv;rw[GL,QF hi,Ga]at hy;exact⟨y,by simpa using hy,hvy⟩
    obtain⟨r1,_,r3,r4⟩:=zIF k1.rel k1.no k1.rows (cells:=as.flatten) (pl:=pl) (G2.1 hblk).1 hor;refine⟨Zh σ' h'.n pl,h'.push (.row as.flatten false 0),[.slice (some ⟨h'.n,0,none⟩) (elems.map (·.1)).length c],⟨r1,r3,(Zj h' _).wf k1.wf⟩,k2.trans (Zj h' _),k3.trans r4,?_,?_⟩
    ·refine .cons ?_ (.nil _);obtain⟨b,o,sp⟩:=a;simp only at hspot;subst hspot;have:=U4.slice (σ:=Zh σ' h'.n pl) (g:=h'.n) (off:=0) (len:=len) (c:=c) (cap:=cap) (pl:=pl) (yE _ _ _) (by omega) hlc hbound;simpa [pl,hel]using this
    ·subst hcd;refine .slice h'.n as.flatten _ _ hu (zU _ _) (by simp[U0.push]) (by rw[hfl];simp[hel]) (by simp[hel];omega) fun i d hd=> ?_;simp only[GT,QO]at hd;obtain⟨y,hy,rfl⟩:=hd;have hi:i<len:=by have:=(QS.1 hy).1;omega
     obtain⟨y',h1,h2⟩:=hget i hi;rw[hy]at h1;cases h1;have ha:as[i]?=some (as[i]'(by omega)):=QB _;have hp:=zEm ha;have hpre:(as.take i).flatten.length=i*P.cellsOf e:=by
      rw[zEH (c:=P.cellsOf e) (fun x hx=>by
       obtain⟨j,hj⟩:=Gp.1 (Qp hx);exact(hal j x hj).2)]
      simp[Ge (by omega:i<=as.length)]
     rw[hpre,(hal i _ ha).2]at hp;rw[hp];exact(k5 i _ _ ha h2).2.ext (Zj h' _)
  |_=>simp[Yp,hu]at hm
end
section
variable {P:Program}{H:Type}{enc:TypeId×Value->H}{w:World}{B:Nat}{σ:Nat->Option Pl}{h:U0}
theorem zKR{tab:Wo}(hmix:P.follows .mixedOrders=true)(htab:tab.Ok P)(hc:BZ P B σ h w){f:FuncId}{args:List Value}{as:Array Value}(hl:WI σ args as.toList)
  (hx:WC P tab f args h fun r _=>r=.bool true):Calls P f as w fun e w'=>e=.returned (.bool true)/\Below B w w':=by
 unfold WC at hx;obtain⟨v,h',rfl,ev⟩:=hx;obtain⟨n,hn⟩:=ev.get;exact zLP hmix htab (n:=n) (by rw[hn];rfl) hc.rel hl
theorem zCs{t:TypeId}{v:Value}{d:DataW H}{p:List MemPlace}(hd:DataW.Trod enc P w 0 (fun _=>true) true t v d p)(m:Nat)(hm:Yp P m t=true)(hc:BZ P B σ h w):
  ∃ (σ':Nat->Option Pl) (h':U0) (acs:List Value),BZ P B σ' h' w/\Ext h h'/\Le σ σ'/\WI σ' acs v.cells.toList/\Rd P h' t acs d:=by
 obtain⟨n,hn⟩:=hd;exact zIE n t _ _ hn m hm σ h hc
theorem zLT{σ:Nat->Option Pl}{av v:Value}(hl:WI σ [av] v.cells.toList)(hv:v.cells.toList=[v]):U4 σ av v:=by
 rw[hv]at hl;exact hl.2 0 _ _ rfl rfl
theorem ZE{t:TypeId}{k:IntKind}{acs:List Value}{d:DataW H}(r:Rd P h t acs d)(ht:P.underlying t=some (.int k)):∃ n,acs=[.int k n]/\(Lit.int k n).wf=true:=by
 cases r with
 |int n ht' wf=>rw[ht]at ht';cases ht';exact⟨n,rfl,wf⟩
 |bool _ ht'=>rw[ht]at ht';cases ht'
 |string _ ht'=>rw[ht]at ht';cases ht'
 |snil ht'=>rw[ht]at ht';cases ht'
 |szero _ _ ht'=>rw[ht]at ht';cases ht'
 |slice _ _ _ _ ht'=>rw[ht]at ht';cases ht'
 |struct _ _ ht'=>rw[ht]at ht';cases ht'
 |array _ _ ht'=>rw[ht]at ht';cases ht'
theorem zEt{t e:TypeId}{acs:List Value}{d:DataW H}(r:Rd P h t acs d)(ht:P.underlying t=some (.slice e)):
  (acs=[.slice none 0 0]/\d=.nil)\/(∃ a sp,acs=[.slice (some a) 0 (P.cellsOf e)]/\d=.slice [] sp)\/
  ∃ g cells elems sp,acs=[.slice (some ⟨g,0,none⟩) elems.length (P.cellsOf e)]/\d=.slice elems sp/\h.get g=some (.row cells false 0)/\g<h.n/\cells.length=elems.length*P.cellsOf e/\elems.length<=maxLen/\
   ∀ (i:Nat) (d:DataW H),elems[i]?=some d->Rd P h e ((cells.drop (i*P.cellsOf e)).take (P.cellsOf e)) d:=by
 cases r with
 |int n ht' wf=>rw[ht]at ht';cases ht'
 |bool _ ht'=>rw[ht]at ht';cases ht'
 |string _ ht'=>rw[ht]at ht';cases ht'
 |snil ht'=>exact .inl ⟨rfl,rfl⟩
 |szero a sp ht'=>rw[ht]at ht';cases ht';exact .inr (.inl ⟨a,sp,rfl,rfl⟩)
 |slice g cells elems sp ht' hg hn hl hm hr=>rw[ht]at ht';cases ht';exact .inr (.inr ⟨g,cells,elems,sp,rfl,rfl,hg,hn,hl,hm,hr⟩)
 |struct _ _ ht'=>rw[ht]at ht';cases ht'
 |array _ _ ht'=>rw[ht]at ht';cases ht'
theorem zN7{t e:TypeId}{acs:List Value}{d:DataW H}(r:Rd P h t acs d)(ht:P.underlying t=some (.slice e))(he:P.underlying e=some (.int .i64))(hc:P.cellsOf e=1):
  ∃ av l,acs=[av]/\WJ h av l/\(l.length:Int)<=9223372036854775807/\∀ a∈l,(Lit.int .i64 a).wf=true:=by
 rcases zEt r ht with⟨rfl,_⟩|⟨a,sp,rfl,_⟩|⟨g,cells,elems,sp,rfl,rfl,hg,hn,hl,hm,hr⟩
 ·exact⟨_,[],rfl,WJ.nil h,by simp,fun a ha=>by cases ha⟩
 ·refine⟨_,[],rfl,?_,by simp,fun a ha=>by cases ha⟩;exact⟨by simp,.inl ⟨rfl,.inr ⟨_,_,rfl⟩⟩⟩
 ·rw[hc]at hl hr |-;simp only[JF]at hl hr;have key:∀ i,i<cells.length->∃ n,cells[i]?=some (I n)/\(Lit.int .i64 n).wf=true:=fun i hi=>by
   have hd:elems[i]?=some (elems[i]'(by omega)):=QB _;obtain⟨n,e1,e2⟩:=ZE (hr i _ hd) he;rw[GO hi,Qm,Q5]at e1;exact⟨n,by rw[QB hi];simpa using e1,e2⟩
  obtain⟨l,rfl,hw⟩:∃ l:List Int,cells=l.map I/\∀ a∈l,(Lit.int .i64 a).wf=true:=by
   clear hg hl hr;induction cells with
   |nil=>exact⟨[],rfl,fun a ha=>by cases ha⟩
   |cons x xs ih=>
    obtain⟨n,e1,e2⟩:=key 0 (by simp);obtain⟨l,rfl,e3⟩:=ih fun i hi=>by
     have:=key (i+1) (by simpa using hi);simpa using this
    simp at e1;subst e1;exact⟨n::l,rfl,fun a ha=>by
     rcases GI.1 ha with rfl|ha
     ·exact e2
     ·exact e3 a ha⟩
  have hle:elems.length=l.length:=by simpa using hl.symm
  rw[hle];refine⟨_,l,rfl,WJ.own hn hg,?_,hw⟩;unfold maxLen at hm;omega
theorem zD1{t:TypeId}{v:Value}{r:Reach}{base:Nat}(ht:(∃ n e,P.underlying t=some (.array n e))\/∃ fs,P.underlying t=some (.struct fs))(hv:Value.okWide P w r base t v):∃ cs,v=.agg cs:=by
 unfold Value.okWide at hv;rcases ht with⟨n,e,ht⟩|⟨fs,ht⟩
 ·rw[ht]at hv;obtain⟨cs,h1,_⟩:=hv;exact⟨cs,h1⟩
 ·rw[ht]at hv;obtain⟨cs,h1,_⟩:=hv;exact⟨cs,h1⟩
theorem zJu{σ:Nat->Option Pl}{l:List Value}{cs:Array Value}(hl:WI σ l (Value.agg cs).cells.toList):U4 σ (.agg l.toArray) (.agg cs):=by
 have:=Vd hl;simpa [Value.cells]using this
end
def zER{H:Type}:Nat->DataW H->List Value
 |_,.lit (.bool b)=>[.bool b]
 |_,.lit (.int k n)=>[.int k n]
 |n+1,.agg parts=>(parts.map (zER n)).flatten
 |_,_=>[]
def zCE(P:Program):Nat->TypeId->Bool
 |0,_=>false
 |n+1,t=>match P.underlying t with
  |some .bool|some (.int _)=>true
  |some (.struct fs)=>(match zBB P fs.toList 0 with|some m=>Nat.beq m (P.cellsOf t)|none=>false)&&fs.toList.all fun f=>zCE P n f.type
  |some (.array m e)=>Nat.beq (m*P.cellsOf e) (P.cellsOf t)&&zCE P n e
  |_=>false
theorem zEd:∀ (sz:List Nat) (as:List (List Value)) (cs:List Value),sz.sum=cs.length->as.length=sz.length->
  (∀ (i:Nat) a s,as[i]?=some a->sz[i]?=some s->a=(cs.drop (sz.take i).sum).take s)->as.flatten=cs
 |[],[],cs,hs,_,_=>by
  have:cs=[]:=Gi.1 (by simpa using hs.symm);subst this;rfl
 |[],_::_,_,_,hl,_=>by simp at hl
 |_::_,[],_,_,hl,_=>by simp at hl
 |s::sz,a::as,cs,hs,hl,h=>by
  have h0:=h 0 a s rfl rfl;simp only[Q5,List.sum_nil,Q3]at h0;have ih:=zEd sz as (cs.drop s) (by simp at hs;simp;omega) (by simpa using hl) (fun i x y hx hy=>by
   have:=h (i+1) x y (by simpa using hx) (by simpa using hy);simpa [List.drop_drop]using this)
  rw[GR,ih,h0,GN]
section
variable {P:Program}{H:Type}{enc:TypeId×Value->H}{w:World}{B base:Nat}{spare:Nat->Bool}{held:Bool}
theorem zMB:∀ (n:Nat) (t:TypeId) (cs:List Value) (x:DataW H×List MemPlace),DataW.trod enc P w base spare held n t cs=some x->∀ m,zCE P m t=true->cs=zER m x.1:=by
 intro n;induction n with
 |zero=>intro t cs x hx;simp[DataW.trod]at hx
 |succ n ih=>
  intro t cs x hx m hm;cases m with
  |zero=>cases hm
  |succ m=>
  cases hu:P.underlying t with
  |none=>simp[zCE,hu]at hm
  |some u=>
  cases u with
  |bool=>obtain⟨b,rfl,rfl⟩:=DataW.trod_bool hu hx;rfl
  |int k=>obtain⟨b,rfl,rfl,_⟩:=DataW.trod_int hu hx;rfl
  |struct fs=>
   obtain⟨xs,n',e,rfl,hl,hxs,hf⟩:=DataW.trod_struct hu hx;cases e;simp only[zCE,hu,QJ,QY]at hm;obtain⟨hm1,hm2⟩:=hm;cases hcon:zBB P fs.toList 0 with
   |none=>simp[hcon]at hm1
   |some q=>
   simp only[hcon]at hm1;have hq:=QL hm1;obtain⟨c1,c2⟩:=zBH hcon;simp only[zER];refine(zEd (fs.toList.map fun f=>P.cellsOf f.type) _ cs (by omega) (by simp[hxs]) fun i a s ha hs=> ?_).symm;simp only[GT,QO]at ha hs;obtain⟨d,⟨y,hy,rfl⟩,rfl⟩:=ha;obtain⟨f,hfi,rfl⟩:=hs;have h1:=hf i f (by simpa using hfi);rw[hy]at h1;have:=c2 i f hfi;rw[GC]at this;rw[<-this];exact(ih _ _ _ h1 m (hm2 f (Gg hfi))).symm
  |array k e=>
   obtain⟨xs,n',e',rfl,hl,hxs,hf⟩:=DataW.trod_array hu hx;cases e';simp only[zCE,hu,QJ]at hm;obtain⟨hm1,hm2⟩:=hm;have hq:=QL hm1;simp only[zER];have hsum:∀ i,i<=k->((List.replicate k (P.cellsOf e)).take i).sum=i*P.cellsOf e:=fun i hi=>by
    rw[List.take_replicate,List.sum_replicate_nat,Ge hi]
   refine(zEd (List.replicate k (P.cellsOf e)) _ cs (by rw[List.sum_replicate_nat];omega) (by simp[hxs]) fun i a s ha hs=> ?_).symm;simp only[GT,QO]at ha;obtain⟨d,⟨y,hy,rfl⟩,rfl⟩:=ha;have hik:i<k:=by have:=(QS.1 hy).1;omega
   have hs':s=P.cellsOf e:=by rw[JG,QF hik]at hs;exact(GJ hs).symm
   subst hs';have h1:=hf i hik;rw[hy]at h1;rw[hsum i (by omega)];exact(ih _ _ _ h1 m hm2).symm
  |_=>simp[zCE,hu]at hm
theorem zIA{nm:String}{g:Nat}{t:TypeId}{cs:Array Value}{n m:Nat}{d:DataW H}{p:List MemPlace}(hg:P.globalNamed nm=some g)(hv:w.var? P nm=some cs)
  (hd:DataW.trod enc P w base spare held n t cs.toList=some (d,p)) (hm:zCE P m t=true):∃ elem fr,w.heap[g]?=some (.cells (zER m d).toArray elem fr):=by
 have h1:=zMB n t _ _ hd m hm;simp only at h1;have h2:cs=(zER m d).toArray:=by rw[<-h1]
 unfold World.var? at hv;rw[hg,Qa]at hv;split at hv
 ·rename_i c elem fr hh;cases hv;exact⟨elem,fr,by rw[hh,h2]⟩
 ·cases hv
theorem zQA(hg:P.globals.size<=w.heap.size)(l:List (Nat×List Value))(hl:∀ x∈l,x.1<P.globals.size/\Za x.2=true/\∃ elem fr,w.heap[x.1]?=some (.cells x.2.toArray elem fr)):
  BZ P w.heap.size (s0 P w) (zA5 P.globals.size l) w:=by
 refine⟨⟨fun g h=>⟨⟨g,0,match w.heap[g]? with|some (.cells c _ _)=>c.size|_=>0⟩,QF h,rfl,rfl⟩,fun g pl hp=> ?_,fun g o hg=> ?_,fun g o g' o' pl pl' hg hg' hne hp hp' hb=> ?_,QE _⟩,fun g o hg=> ?_,fun g hn=> ?_⟩
 ·unfold s0 at hp;split at hp
  ·cases hp;exact⟨by rw[zFw];assumption,by show g<w.heap.size;omega⟩
  ·cases hp
 ·obtain⟨cells,a,rfl⟩:=Yi _ l g o hg;obtain⟨b1,b2,elem,fr,b3⟩:=hl _ a;refine⟨⟨g,0,match w.heap[g]? with|some (.cells c _ _)=>c.size|_=>0⟩,QF b1,?_,fun e=>by cases e⟩;refine⟨_,elem,fr,b3,by simp[b3],by simp only[b3];simp,fun i x hx=> ?_,fun e=>by cases e⟩;exact⟨x,by simpa using hx,VP _ (QY.1 b2 x (Gg hx))⟩
 ·obtain⟨c,a,rfl⟩:=Yi _ l g o hg;obtain⟨c',a',rfl⟩:=Yi _ l g' o' hg';exact⟨fun⟨x,_⟩=>Bool.noConfusion x,fun x=>Bool.noConfusion x,fun x=>Bool.noConfusion x⟩
 ·obtain⟨c,a,rfl⟩:=Yi _ l g o hg;exact⟨_,_,rfl⟩
 ·cases hq:(zA5 P.globals.size l).get g with
  |none=>rfl
  |some o=>
   obtain⟨c,a,rfl⟩:=Yi _ l g o hq;rw[zFw]at hn;have:=(hl _ a).1;simp only at this;omega
end
end Go.Am
