/- A part of the machine and of its soundness; proves no statement. -/
import Derived.Test.YtfnndahpddkniaaGreatDoorAmC
import Derived.OpenShut
import Derived.ChangeOld
import Derived.LaidMore
import Derived.MakeChecks
import Derived.HandedShaped
set_option linter.all false
namespace Go.Am
open Go.RowKit
section
variable {P:Program}
def zBG(n:Nat):List (Nat×List Value)->Uy
 |[]=>zOq n
 |(g,cells)::l=>{zBG n l with tab:=(zBG n l).tab.set g (.row cells false 0)}
theorem Yg(n:Nat):∀ (l:List (Nat×List Value)) (g:Nat) (o:WZ),(zBG n l).get g=some o->∃ cells,(g,cells)∈l/\o=.row cells false 0
 |[],g,o,h=>by
  have h:(U3.leaf:U3 WZ).get g=some o:=h;cases h
 |(k,cells)::l,g,o,h=>by
  have h2:((zBG n l).tab.set k (.row cells false 0)).get g=some o:=h;rw[zS]at h2;by_cases e:g=k
  ·rw[QF e]at h2;subst e;exact⟨cells,by simp,(GI h2).symm⟩
  ·rw[QC e]at h2;obtain⟨c,a,b⟩:=Yg n l g o h2;exact⟨c,by simp[a],b⟩
theorem zGU(n:Nat):∀ (l:List (Nat×List Value)),(zBG n l).n=n
 |[]=>rfl
 |_::l=>zGU n l
end
def Ev(p:Nat->Prop):Prop:=∃ N,∀ n,N<=n->p n
theorem Ev.mono{p q:Nat->Prop}(h:Ev p)(k:∀ n,p n->q n):Ev q:=let⟨N,a⟩:=h;⟨N,fun n hn=>k n (a n hn)⟩
theorem Ev.and{p q:Nat->Prop}(h:Ev p)(k:Ev q):Ev fun n=>p n/\q n:=
 let⟨N,a⟩:=h;let⟨M,b⟩:=k;⟨max N M,fun n hn=>⟨a n (by omega),b n (by omega)⟩⟩
theorem Ev.all{p:Nat->Prop}(h:∀ n,p n):Ev p:=⟨0,fun n _=>h n⟩
theorem Ev.up{p:Nat->Prop}(h:Ev fun n=>p (n+1)):Ev p:=
 let⟨N,a⟩:=h;⟨N+1,fun n hn=>by obtain⟨m,rfl⟩:∃ m,n=m+1:=⟨n-1,by omega⟩;exact a m (by omega)⟩
theorem Ev.get{p:Nat->Prop}(h:Ev p):∃ n,p n:=let⟨N,a⟩:=h;⟨N,a N (QE _)⟩
section
variable {P:Program}{tab:Wl}
def WX(P:Program)(tab:Wl)(c:WI)(fr:WF)(h:Uy)(K:U9->WF->Uy->Prop):Prop:=
 ∃ e fr' h',K e fr' h'/\Ev fun n=>(BB P tab n).exec c fr h=some (e,fr',h')
def WC(P:Program)(tab:Wl)(f:FuncId)(args:List Value)(h:Uy)(Q:Value->Uy->Prop):Prop:=
 ∃ v h',Q v h'/\Ev fun n=>(BB P tab n).call f args h=some (v,h')
def WV(P:Program)(tab:Wl)(f:Value)(args:List Value)(h:Uy)(Q:Value->Uy->Prop):Prop:=
 ∃ v h',Q v h'/\Ev fun n=>zA6 (BB P tab n) f args h=some (v,h')
def WO(P:Program)(tab:Wl)(ops:List U1)(fr:WF)(h:Uy)(Q:WF->Uy->Prop):Prop:=
 ∃ fr' h',Q fr' h'/\Ev fun n=>yv P (BB P tab n) ops fr h=some (fr',h')
theorem WX.mono{c fr h K K'}(hx:WX P tab c fr h K)(hk:∀ e fr h,K e fr h->K' e fr h):WX P tab c fr h K':=
 let⟨e,fr',h',a,b⟩:=hx;⟨e,fr',h',hk _ _ _ a,b⟩
theorem WC.mono{f args h Q Q'}(hx:WC P tab f args h Q)(hk:∀ v h,Q v h->Q' v h):WC P tab f args h Q':=
 let⟨v,h',a,b⟩:=hx;⟨v,h',hk _ _ a,b⟩
theorem WV.mono{f args h Q Q'}(hx:WV P tab f args h Q)(hk:∀ v h,Q v h->Q' v h):WV P tab f args h Q':=
 let⟨v,h',a,b⟩:=hx;⟨v,h',hk _ _ a,b⟩
def zEx(P:Program)(tab:Wl)(b:WI)(K:U9->WF->Uy->Prop):U9->WF->Uy->Prop
 | .normal,fr,h=>WX P tab b fr h K
 | .exit i,fr,h=>K (.exit i) fr h
 | .goto l,fr,h=>K (.goto l) fr h
 | .ret,fr,h=>K .ret fr h
def Y9(id:Nat)(K:U9->WF->Uy->Prop):U9->WF->Uy->Prop
 | .normal,fr,h=>K .normal fr h
 | .exit i,fr,h=>if i=id then K .normal fr h else K (.exit i) fr h
 | .goto l,fr,h=>K (.goto l) fr h
 | .ret,fr,h=>K .ret fr h
def zCT{α:Type}(μ:α->Nat)(I:α->U3 Value->Uy->Prop)(x:α)(ds:List Deferred)(rd:Option Nat)(K:U9->WF->Uy->Prop):U9->WF->Uy->Prop
 | .normal,fr,h=>fr.dfs=ds/\fr.round=rd/\∃ y,μ y<μ x/\I y fr.tm h
 | .exit i,fr,h=>K (.exit i) fr h
 | .goto l,fr,h=>K (.goto l) fr h
 | .ret,fr,h=>K .ret fr h
theorem Zk{b fr h K}(hx:WX P tab b fr h K):zEx P tab b K .normal fr h:=hx
theorem zEi{b i fr h K}(hx:K (.exit i) fr h):zEx P tab b K (.exit i) fr h:=hx
theorem zD1{b i fr h K}(hx:K (.goto i) fr h):zEx P tab b K (.goto i) fr h:=hx
theorem zFe{b fr h K}(hx:K .ret fr h):zEx P tab b K .ret fr h:=hx
theorem zBf{id fr h}{K:U9->WF->Uy->Prop}(hx:K .normal fr h):Y9 id K .normal fr h:=hx
theorem zDH{id fr h}{K:U9->WF->Uy->Prop}(hx:K .normal fr h):Y9 id K (.exit id) fr h:=by simp only[Y9,Q2];exact hx
theorem zA8{i id fr h}{K:U9->WF->Uy->Prop}(hi:Nat.beq i id=false)(hx:K (.exit i) fr h):Y9 id K (.exit i) fr h:=by
 have:¬i=id:=fun e=>by subst e;simp at hi
 simp only[Y9,QC this];exact hx
theorem zDY{id l fr h}{K:U9->WF->Uy->Prop}(hx:K (.goto l) fr h):Y9 id K (.goto l) fr h:=hx
theorem zEb{id fr h}{K:U9->WF->Uy->Prop}(hx:K .ret fr h):Y9 id K .ret fr h:=hx
section
variable {α:Type}{μ:α->Nat}{I:α->U3 Value->Uy->Prop}{x:α}{ds:List Deferred}{rd:Option Nat}{K:U9->WF->Uy->Prop}
theorem zA{t h}(y:α)(hm:μ y<μ x)(hx:I y t h):zCT μ I x ds rd K .normal ⟨t,ds,rd⟩ h:=⟨rfl,rfl,y,hm,hx⟩
theorem zEY{i fr h}(hx:K (.exit i) fr h):zCT μ I x ds rd K (.exit i) fr h:=hx
theorem zEW{i fr h}(hx:K (.goto i) fr h):zCT μ I x ds rd K (.goto i) fr h:=hx
theorem zFY{fr h}(hx:K .ret fr h):zCT μ I x ds rd K .ret fr h:=hx
end
theorem zt(n:Nat)(c fr h):(BB P tab (n+1)).exec c fr h=zq P (BB P tab n) c fr h:=rfl
theorem zFs(n:Nat)(f args h):(BB P tab (n+1)).call f args h=zCG P tab (BB P tab n) f args h:=rfl
theorem WX.skip{fr h K}(hx:K .normal fr h):WX P tab .skip fr h K:=⟨_,_,_,hx,Ev.up (Ev.all fun _=>rfl)⟩
theorem WX.label{l fr h K}(hx:K .normal fr h):WX P tab (.label l) fr h K:=⟨_,_,_,hx,Ev.up (Ev.all fun _=>rfl)⟩
theorem WX.exit{i fr h K}(hx:K (.exit i) fr h):WX P tab (.exit i) fr h K:=⟨_,_,_,hx,Ev.up (Ev.all fun _=>rfl)⟩
theorem WX.goto{i fr h K}(hx:K (.goto i) fr h):WX P tab (.goto i) fr h K:=⟨_,_,_,hx,Ev.up (Ev.all fun _=>rfl)⟩
theorem WX.ret{fr h K}(hx:K .ret fr h):WX P tab .ret fr h K:=⟨_,_,_,hx,Ev.up (Ev.all fun _=>rfl)⟩
theorem WX.region{ops fr h K}(hx:WO P tab ops fr h fun fr h=>K .normal fr h):WX P tab (.region ops) fr h K:=
 let⟨fr',h',a,b⟩:=hx
 ⟨_,_,_,a,Ev.up (b.mono fun n e=>by rw[zt];simp only[zq,e,QH])⟩
theorem WX.seq{a b fr h K}(hx:WX P tab a fr h (zEx P tab b K)):WX P tab (.seq a b) fr h K:=by
 obtain⟨e,fr',h',k,ev⟩:=hx;cases e with
 |normal=>
  obtain⟨e2,fr2,h2,k2,ev2⟩:=k;exact⟨e2,fr2,h2,k2,Ev.up ((ev.and ev2).mono fun n ⟨e1,e2⟩=>by rw[zt];simp only[zq,e1,e2])⟩
 |exit i=>exact⟨_,_,_,k,Ev.up (ev.mono fun n e=>by rw[zt];simp only[zq,e])⟩
 |goto i=>exact⟨_,_,_,k,Ev.up (ev.mono fun n e=>by rw[zt];simp only[zq,e])⟩
 |ret=>exact⟨_,_,_,k,Ev.up (ev.mono fun n e=>by rw[zt];simp only[zq,e])⟩
theorem WX.cond{c x y fr h K}(b:Bool)(hb:ev fr.tm c=.bool b)(h1:b=true->WX P tab x fr h K)(h2:b=false->WX P tab y fr h K):WX P tab (.cond c x y) fr h K:=by
 cases b with
 |true=>obtain⟨e,fr',h',k,ev⟩:=h1 rfl;exact⟨_,_,_,k,Ev.up (ev.mono fun n e=>by rw[zt];simp only[zq,hb,e])⟩
 |false=>obtain⟨e,fr',h',k,ev⟩:=h2 rfl;exact⟨_,_,_,k,Ev.up (ev.mono fun n e=>by rw[zt];simp only[zq,hb,e])⟩
theorem XR{c x y fr h K}(hb:ev fr.tm c=.bool true)(h1:WX P tab x fr h K):WX P tab (.cond c x y) fr h K:=WX.cond true hb (fun _=>h1) (fun h=>by cases h)
theorem XY{c x y fr h K}(hb:ev fr.tm c=.bool false)(h1:WX P tab y fr h K):WX P tab (.cond c x y) fr h K:=WX.cond false hb (fun h=>by cases h) (fun _=>h1)
theorem WX.block{id b fr h K}(hx:WX P tab b fr h (Y9 id K)):WX P tab (.block id b) fr h K:=by
 obtain⟨e,fr',h',k,ev⟩:=hx;cases e with
 |normal=>exact⟨_,_,_,k,Ev.up (ev.mono fun n e=>by rw[zt];simp only[zq,e])⟩
 |goto i=>exact⟨_,_,_,k,Ev.up (ev.mono fun n e=>by rw[zt];simp only[zq,e])⟩
 |ret=>exact⟨_,_,_,k,Ev.up (ev.mono fun n e=>by rw[zt];simp only[zq,e])⟩
 |exit i=>
  simp only[Y9]at k;by_cases hi:i=id
  ·rw[QF hi]at k;exact⟨_,_,_,k,Ev.up (ev.mono fun n e=>by rw[zt];simp only[zq,e,QF hi])⟩
  ·rw[QC hi]at k;exact⟨_,_,_,k,Ev.up (ev.mono fun n e=>by rw[zt];simp only[zq,e,QC hi])⟩
theorem WX.loop{α:Type}(μ:α->Nat)(I:α->U3 Value->Uy->Prop)(x:α){b t ds rd h K}(h0:I x t h)
  (hb:∀ x t h,I x t h->WX P tab b ⟨t,ds,rd⟩ h (zCT μ I x ds rd K)):WX P tab (.loop b) ⟨t,ds,rd⟩ h K:=by
 generalize hm:μ x=m;induction m using Nat.strongRecOn generalizing x t h with
 |_ m ih=>
  obtain⟨e,fr',h',k,ev⟩:=hb x t h h0;cases e with
  |normal=>
   obtain⟨k1,k2,y,k3,k4⟩:=k;obtain⟨t',ds',rd'⟩:=fr';simp only at k1 k2 k4;subst k1 k2;obtain⟨e2,fr2,h2,kk,ev2⟩:=ih (μ y) (by omega) y k4 rfl;exact⟨e2,fr2,h2,kk,Ev.up ((ev.and ev2).mono fun n ⟨e1,e2⟩=>by rw[zt];simp only[zq,e1,e2])⟩
  |exit i=>exact⟨_,_,_,k,Ev.up (ev.mono fun n e=>by rw[zt];simp only[zq,e])⟩
  |goto i=>exact⟨_,_,_,k,Ev.up (ev.mono fun n e=>by rw[zt];simp only[zq,e])⟩
  |ret=>exact⟨_,_,_,k,Ev.up (ev.mono fun n e=>by rw[zt];simp only[zq,e])⟩
def zPy{α:Type}(l:Nat)(μ:α->Nat)(I:α->U3 Value->Uy->Prop)(x:α)(ds:List Deferred)(rd:Option Nat)(K:U9->WF->Uy->Prop):U9->WF->Uy->Prop
 | .normal,fr,h=>K .normal fr h
 | .exit i,fr,h=>K (.exit i) fr h
 | .goto m,fr,h=>m=l/\fr.dfs=ds/\fr.round=rd/\∃ y,μ y<μ x/\I y fr.tm h
 | .ret,fr,h=>K .ret fr h
section
variable {α:Type}{l:Nat}{μ:α->Nat}{I:α->U3 Value->Uy->Prop}{x:α}{ds:List Deferred}{rd:Option Nat}{K:U9->WF->Uy->Prop}
end
def zL7(M:U3 Value->Uy->Prop)(ds:List Deferred)(rd:Option Nat)(K:U9->WF->Uy->Prop):U9->WF->Uy->Prop
 | .normal,fr,h=>fr.dfs=ds/\fr.round=rd/\M fr.tm h
 | .exit i,fr,h=>K (.exit i) fr h
 | .goto l,fr,h=>K (.goto l) fr h
 | .ret,fr,h=>K .ret fr h
section
variable {M:U3 Value->Uy->Prop}{ds:List Deferred}{rd:Option Nat}{K:U9->WF->Uy->Prop}
theorem zF{t h}(hx:M t h):zL7 M ds rd K .normal ⟨t,ds,rd⟩ h:=⟨rfl,rfl,hx⟩
theorem zCn{fr h}(hx:K .ret fr h):zL7 M ds rd K .ret fr h:=hx
end
def WD(P:Program)(tab:Wl)(ds:List Deferred)(h:Uy)(Q:Uy->Prop):Prop:=
 ∃ h',Q h'/\Ev fun n=>ZN (BB P tab n) ds h=some h'
theorem WD.nil{h}{Q:Uy->Prop}(hx:Q h):WD P tab [] h Q:=⟨h,hx,Ev.all fun _=>rfl⟩
theorem WD.collected{g ds h}{Q:Uy->Prop}(hg:h.get g=some (.deferred (some [])))(hx:WD P tab ds (h.set g (.deferred none)) Q):
  WD P tab ({target:= .collected g,args:=#[]}::ds) h Q:=by
 obtain⟨h',a,b⟩:=hx;exact⟨h',a,b.mono fun n e=>by simp only[ZN,hg,e]⟩
def zEB(P:Program)(tab:Wl)(rs:List (Nat×Option (Bool×Nat)))(Q:Value->Uy->Prop):U9->WF->Uy->Prop
 | .normal,fr,h=>WD P tab fr.dfs h fun h=>∃ vs,yP h fr.tm rs=some vs/\Q (one vs) h
 | .ret,fr,h=>WD P tab fr.dfs h fun h=>∃ vs,yP h fr.tm rs=some vs/\Q (one vs) h
 |_,_,_=>False
theorem zLv{rs Q t rd h}{vs:List Value}(hr:yP h t rs=some vs)(hx:Q (one vs) h):zEB P tab rs Q .ret ⟨t,[],rd⟩ h:=WD.nil ⟨vs,hr,hx⟩
theorem zHD{rs Q t rd h}{vs:List Value}(hr:yP h t rs=some vs)(hx:Q (one vs) h):zEB P tab rs Q .normal ⟨t,[],rd⟩ h:=WD.nil ⟨vs,hr,hx⟩
theorem WC.of{f args h Q nt rs body}(hs:tab.stub f=none)(hf:tab.code f=some ⟨nt,rs,body⟩)(hx:WX P tab body ⟨zFG args 0 .leaf,[],none⟩ h (zEB P tab rs Q)):WC P tab f args h Q:=by
 obtain⟨e,fr',h',k,ev⟩:=hx;cases e with
 |normal=>
  obtain⟨h2,⟨vs,k3,k4⟩,ev2⟩:=k;exact⟨_,_,k4,Ev.up ((ev.and ev2).mono fun n ⟨e1,e2⟩=>by rw[zFs];simp only[zCG,zDT,hs,hf,e1,cond_true,e2,k3])⟩
 |ret=>
  obtain⟨h2,⟨vs,k3,k4⟩,ev2⟩:=k;exact⟨_,_,k4,Ev.up ((ev.and ev2).mono fun n ⟨e1,e2⟩=>by rw[zFs];simp only[zCG,zDT,hs,hf,e1,cond_true,e2,k3])⟩
 |exit i=>exact k.elim
 |goto i=>exact k.elim
theorem WV.func{f first cap args h Q}(hx:WC P tab f (first.toList++args++cap.toList) h Q):WV P tab (.func (.func f) first cap) args h Q:=hx
theorem WO.nil{fr h Q}(hx:Q fr h):WO P tab [] fr h Q:=⟨_,_,hx,Ev.all fun _=>rfl⟩
theorem WO.cons{o l fr h Q}{fr1:WF}{h1:Uy}(e:Ev fun n=>yK P (BB P tab n) o fr h=some (fr1,h1))(hx:WO P tab l fr1 h1 Q):WO P tab (o::l) fr h Q:=by
 obtain⟨fr',h',a,b⟩:=hx;exact⟨_,_,a,(e.and b).mono fun n ⟨e1,e2⟩=>by simp only[yv,e1,e2]⟩
def zAU:Wk->Bool
 | .call .. | .dfr .. | .dfrClear .. | .invoke .. | .recover=>false
 |_=>true
theorem zOD(ih:Ex){t h op}(hp:zAU op=true):U6 P ih t h op=U6 P Ex.bot t h op:=by
 cases op<;>first|rfl|cases hp
theorem zCN(ih:Ex){t rd h op v h'}(hp:zAU op=true)(e:U6 P Ex.bot t h op=some (v,h')):yE P ih t rd h op=some (v,[],h'):=by
 rw[<-zOD ih hp]at e;cases op<;>first|(cases hp;done)|(simp only[yE,e])
theorem WO.op{d op l t ds rd h Q}(v:Value)(h':Uy)(hp:zAU op=true)(e:U6 P Ex.bot t h op=some (v,h'))(hx:WO P tab l ⟨t.set d v,ds,rd⟩ h' Q):
  WO P tab (⟨some d,none,op⟩::l) ⟨t,ds,rd⟩ h Q:=
 WO.cons (Ev.all fun n=>by simp only[yK,zU,cond_true,zCN _ hp e,val,GJ]) hx
theorem Xc{d op l t ds rd h Q}{v:Value}{h':Uy}(e:U6 P Ex.bot t h op=some (v,h'))(hx:WO P tab l ⟨t.set d v,ds,rd⟩ h' Q)(hp:zAU op=true:=by rfl):
  WO P tab (⟨some d,none,op⟩::l) ⟨t,ds,rd⟩ h Q:=WO.op v h' hp e hx
theorem VT{op l t ds rd h Q}(v:Value)(h':Uy)(hp:zAU op=true)(e:U6 P Ex.bot t h op=some (v,h'))(hx:WO P tab l ⟨t,ds,rd⟩ h' Q):
  WO P tab (⟨none,none,op⟩::l) ⟨t,ds,rd⟩ h Q:=
 WO.cons (Ev.all fun n=>by simp only[yK,zU,cond_true,zCN _ hp e,val,GJ]) hx
theorem WO.call{d f args l t ds rd h Q}{as:List Value}(ha:args.map (ev t)=as)(hx:WC P tab f as h fun v h'=>WO P tab l ⟨t.set d v,ds,rd⟩ h' Q):
  WO P tab (⟨some d,none,.call (.func f) args⟩::l) ⟨t,ds,rd⟩ h Q:=by
 subst ha;obtain⟨v,h',a,b⟩:=hx;refine WO.cons (fr1:=⟨t.set d v,ds,rd⟩) (h1:=h') (b.mono fun n e=> ?_) a;simp only[yK,zU,cond_true,yE,U6,ev,zA6,List.append_nil,GJ];rw[e];rfl
theorem XT{d f args l t ds rd h Q}{as:List Value}{fv:Value}(hf:ev t f=fv)(ha:args.map (ev t)=as)(hx:WV P tab fv as h fun v h'=>WO P tab l ⟨t.set d v,ds,rd⟩ h' Q):
  WO P tab (⟨some d,none,.call f args⟩::l) ⟨t,ds,rd⟩ h Q:=by
 subst ha;subst hf;obtain⟨v,h',a,b⟩:=hx;refine WO.cons (fr1:=⟨t.set d v,ds,rd⟩) (h1:=h') (b.mono fun n e=> ?_) a;simp only[yK,zU,cond_true,yE,U6,e,val,GJ]
theorem XL{d j want op l t ds rd h Q}(hg:zB t j=.bool want)(hx:WO P tab (⟨d,none,op⟩::l) ⟨t,ds,rd⟩ h Q):WO P tab (⟨d,some (j,want),op⟩::l) ⟨t,ds,rd⟩ h Q:=by
 obtain⟨fr',h',a,b⟩:=hx;refine⟨_,_,a,b.mono fun n e=> ?_⟩;rw[<-e];simp only[yv,yK,zU,hg,beq_self_eq_true,cond_true]
theorem Vy{d j want op l t ds rd h Q}(hg:zB t j=.bool (!want))(hx:WO P tab l ⟨t.set d undef,ds,rd⟩ h Q):WO P tab (⟨some d,some (j,want),op⟩::l) ⟨t,ds,rd⟩ h Q:=by
 refine WO.cons (Ev.all fun n=> ?_) hx;simp only[yK,zU,hg];cases want<;>rfl
theorem XI{d j want op l t ds rd h Q}(hg:zB t j=undef)(hx:WO P tab l ⟨t.set d undef,ds,rd⟩ h Q):WO P tab (⟨some d,some (j,want),op⟩::l) ⟨t,ds,rd⟩ h Q:=by
 refine WO.cons (Ev.all fun n=> ?_) hx;simp only[yK,zU,hg];rfl
theorem WO.invoke{d f name x args l t ds rd h Q}{ty:TypeId}{u:Value}{as:List Value}(hv:ev t x=.iface ty u)(hm:zBZ P ty name=some f)(ha:args.map (ev t)=as)(hx:WC P tab f (u::as) h fun v h'=>WO P tab l ⟨t.set d v,ds,rd⟩ h' Q):
  WO P tab (⟨some d,none,.invoke x name args⟩::l) ⟨t,ds,rd⟩ h Q:=by
 subst ha;obtain⟨v,h',a,b⟩:=hx;refine WO.cons (fr1:=⟨t.set d v,ds,rd⟩) (h1:=h') (b.mono fun n e=> ?_) a;simp only[yK,zU,cond_true,yE,U6,zAu,hv,hm,e,val,GJ]
theorem XA{d x l t ds rd h Q}{G rt ty:Nat}{b:Bool}(hv:ev t x=zGL G rt ty)(hb:YW P G rt ty=some b)(hx:WO P tab l ⟨t.set d (.bool b),ds,rd⟩ h Q):
  WO P tab (⟨some d,none,.invoke x "Comparable" []⟩::l) ⟨t,ds,rd⟩ h Q:=
 WO.cons (Ev.all fun n=>by
  have:zAu P (BB P tab n) "Comparable" (zGL G rt ty) [] h=some (.bool b,h):=by
   simp only[zAu,zGv,List.isEmpty_nil,beq_self_eq_true,Qx,cond_true,hb,QH]
  simp only[yK,zU,cond_true,yE,U6,hv,Ge,this,val,GJ]) hx
end
attribute [irreducible] WX WC WV WO WD zEx Y9 zCT zPy zL7 zEB Ev
abbrev I(n:Int):Value:= .int .i64 n
def Wf(h:Uy):Prop:=∀ g,h.n<=g->h.get g=none
structure Ext(h h':Uy):Prop where
 n:h.n<=h'.n
 get:∀ g,g<h.n->h'.get g=h.get g
 wf:Wf h->Wf h'
 mark:h'.mark=h.mark
 wr:h.mark<=h.n->h'.wr=h.wr
theorem Ext.refl(h:Uy):Ext h h:=⟨QE _,fun _ _=>rfl,id,rfl,fun _=>rfl⟩
theorem Ext.trans{a b c:Uy}(h:Ext a b)(k:Ext b c):Ext a c:=
 ⟨QU h.n k.n,fun g hg=>(k.get g (QK hg h.n)).trans (h.get g hg),fun w=>k.wf (h.wf w),k.mark.trans h.mark,fun hm=>(k.wr (by rw[h.mark];exact QU hm h.n)).trans (h.wr hm)⟩
theorem Ext.push{a b:Uy}(h:Ext a b)(o:WZ):Ext a (b.push o):=
 h.trans ⟨GU _,fun g hg=>by rw[zV,QC (Nat.ne_of_lt hg)],fun w g hg=>by
  rw[zV,QC (by simp[Uy.push]at hg;omega)];exact w g (by simp[Uy.push]at hg;omega),rfl,fun _=>rfl⟩
theorem Yz{h:Uy}{g:Nat}(hg:h.mark<=g):h.log g=h.wr:=by
 have:Nat.ble h.mark g=true:=QG hg;simp[Uy.log,this]
theorem Ext.set{a b:Uy}(h:Ext a b){g:Nat}(hg:a.n<=g)(hb:g<b.n)(o:WZ):Ext a (b.set g o):=
 ⟨h.n,fun k hk=>by rw[zw,QC (by omega)];exact h.get k hk,fun w k hk=>by
  rw[zw,QC (by simp[Uy.set]at hk;omega)];exact h.wf w k hk,h.mark,fun hm=>(Yz (by rw[h.mark];omega)).trans (h.wr hm)⟩
theorem Ext.kill{a b:Uy}(h:Ext a b){g:Nat}(hg:a.n<=g):Ext a (b.kill g):=
 ⟨h.n,fun k hk=>by rw[yq,QC (by omega)];exact h.get k hk,fun w k hk=>by
  rw[yq];split
  ·rfl
  ·exact h.wf w k hk,h.mark,fun hm=>(Yz (by rw[h.mark];omega)).trans (h.wr hm)⟩
theorem Wf.lt{h:Uy}(w:Wf h){g:Nat}{o:WZ}(hg:h.get g=some o):g<h.n:=by
 by_cases hn:h.n<=g
 ·rw[w g hn]at hg;cases hg
 ·omega
theorem ZZ{h:Uy}{g:Nat}{cells own lo}(hg:h.get g=some (.row cells own lo)):yV h g=some cells:=by simp only[yV,hg]
theorem zIk{h:Uy}{g:Nat}{cells}(hg:yV h g=some cells):∃ own lo,h.get g=some (.row cells own lo):=by
 unfold yV at hg;split at hg
 ·cases hg;exact⟨_,_,by assumption⟩
 ·cases hg
theorem Ext.row{h h':Uy}(e:Ext h h'){g:Nat}(w:g<h.n){cells}(hg:yV h g=some cells):yV h' g=some cells:=by
 obtain⟨own,lo,a⟩:=zIk hg;exact ZZ ((e.get g w).trans a)
theorem ZH{cells:List Value}{off n:Nat}(h:off+n<=cells.length):cut cells off n=some ((cells.drop off).take n):=by
 have:Nat.ble (off+n) cells.length=true:=QG h;simp only[cut,this,cond_true]
theorem zEJ{cells l:List Value}{off n:Nat}(h:cut cells off n=some l):off+n<=cells.length/\l=(cells.drop off).take n:=by
 unfold cut at h;cases hb:Nat.ble (off+n) cells.length with
 |true=>simp only[hb,cond_true,QA]at h;exact⟨QP hb,h.symm⟩
 |false=>simp only[hb,QV]at h;cases h
def WW(c:Nat)(h:Uy)(v:Value)(n:Nat)(cells:List Value):Prop:=
 cells.length=n*c/\((n=0/\(v=.slice none 0 0\/∃ a k,v=.slice (some a) 0 k))\/
  ∃ g off row,v=.slice (some ⟨g,off,none⟩) n c/\yV h g=some row/\cut row off (n*c)=some cells/\g<h.n)
def zx(v:Value)(j:Nat):Value:=match v with
 | .slice (some a) _ _=> .pointer (some ⟨a.block,a.off+j,none⟩)
 |_=>undef
section
variable {P:Program}{ih:Ex}{t:U3 Value}{h h':Uy}{v:Value}{c n:Nat}{cells:List Value}
theorem WW.len(s:WW c h v n cells):zNT v=some n:=by
 obtain⟨_,(⟨rfl,rfl|⟨a,k,rfl⟩⟩|⟨g,off,row,rfl,_,_,_⟩)⟩:=s<;>rfl
theorem WW.ext(s:WW c h v n cells)(e:Ext h h'):WW c h' v n cells:=by
 obtain⟨a,b⟩:=s;refine⟨a,b.imp id ?_⟩;rintro⟨g,off,row,e1,e2,e3,e4⟩;exact⟨g,off,row,e1,e.row e4 e2,e3,QK e4 e.n⟩
theorem WW.nil(c:Nat)(h:Uy):WW c h (.slice none 0 0) 0 []:=⟨by simp,.inl ⟨rfl,.inl rfl⟩⟩
theorem WW.own{g:Nat}{lo:Nat}{own:Bool}(hlt:g<h.n)(hg:h.get g=some (.row cells own lo))(hn:cells.length=n*c):WW c h (.slice (some ⟨g,0,none⟩) n c) n cells:=
 ⟨hn,.inr ⟨g,0,cells,rfl,ZZ hg,by rw[ZH (by omega)];simp[<-hn],hlt⟩⟩
theorem zDl{x:Operand}(s:WW c h v n cells)(hx:ev t x=v):U6 P ih t h (.len x)=some (I n,h):=by
 subst hx;simp[U6,s.len]
theorem zJ1{x y:Operand}{i:Nat}(s:WW c h v n cells)(hx:ev t x=v)(hy:W6 (ev t y)=some i)(hi:i<n):U6 P ih t h (.idx c x y)=some (zx v (i*c),h):=by
 obtain⟨_,(⟨rfl,_⟩|⟨g,off,row,rfl,_,_,_⟩)⟩:=s
 ·omega
 ·have:Nat.ble (i+1) n=true:=QG hi;simp[U6,hx,hy,this,zx]
theorem zEu{cells l row:List Value}{off n j m:Nat}(hc:cut row off n=some cells)(hl:cut cells j m=some l):cut row (off+j) m=some l:=by
 obtain⟨a,rfl⟩:=zEJ hc;obtain⟨b,rfl⟩:=zEJ hl;have hl:((row.drop off).take n).length=n:=by simp;omega
 rw[ZH (by omega)];congr 1;rw[List.drop_take,List.drop_drop,List.take_take,Gd (by omega)]
theorem zEj{x:Operand}{agg:Bool}{m j:Nat}{l:List Value}{r:Value}(s:WW c h v n cells)(hx:ev t x=zx v j)(hl:cut cells j m=some l)(hm:0<m)(hr:zP agg l=some r):
  U6 P ih t h (.load agg m x)=some (r,h):=by
 obtain⟨hn,(⟨rfl,_⟩|⟨g,off,row,rfl,h1,h2,_⟩)⟩:=s
 ·have:=(zEJ hl).1;simp at hn;subst hn;simp at this;omega
 ·simp[U6,hx,zx,h1,zEu h2 hl,hr]
theorem zOM{cells:List Value}{j:Nat}{r:Value}(hj:cells[j]?=some r):cut cells j 1=some [r]:=by
 have hlt:j<cells.length:=(QQ.1 hj).1;rw[ZH (by omega),GL hlt];simp only[Qp,Q4];rw[(QQ.1 hj).2]
theorem zK4{x:Operand}{j:Nat}{r:Value}(s:WW c h v n cells)(hx:ev t x=zx v j)(hj:cells[j]?=some r):U6 P ih t h (.load false 1 x)=some (r,h):=
 zEj s hx (zOM hj) Nat.one_pos rfl
theorem zOA{x:Operand}{off j:Nat}(hx:ev t x=zx v j)(hv:∃ a k m,v=.slice (some a) k m):U6 P ih t h (.fld off x)=some (zx v (j+off),h):=by
 obtain⟨a,k,m,rfl⟩:=hv;simp[U6,hx,zx,JG]
theorem WW.some{i:Nat}(s:WW c h v n cells)(hi:i<n):∃ a k m,v=.slice (some a) k m:=by
 obtain⟨hn,(⟨rfl,_⟩|⟨g,off,row,rfl,h1,h2,_⟩)⟩:=s
 ·omega
 ·exact⟨_,_,_,rfl⟩
theorem Z0(s:WW c h v n cells):yo c h v=some cells:=by
 obtain⟨hn,(⟨rfl,rfl|⟨a,k,rfl⟩⟩|⟨g,off,row,rfl,h1,h2,_⟩)⟩:=s
 ·simp at hn;subst hn;rfl
 ·simp at hn;subst hn;simp[yo]
 ·unfold yo;cases hb:Nat.beq n 0 with
  |true=>have:=QM hb;subst this;simp at hn;subst hn;rfl
  |false=>simp[h1,h2,hb]
end
def WH(h:Uy)(v:Value)(l:List Int):Prop:=WW 1 h v l.length (l.map I)
section
variable {P:Program}{ih:Ex}{t:U3 Value}{h h':Uy}{v:Value}{l:List Int}
theorem WH.ext(s:WH h v l)(e:Ext h h'):WH h' v l:=WW.ext s e
theorem WH.nil(h:Uy):WH h (.slice none 0 0) []:=WW.nil 1 h
theorem WH.own{g lo own}(hlt:g<h.n)(hg:h.get g=some (.row (l.map I) own lo)):WH h (.slice (some ⟨g,0,none⟩) l.length 1) l:=WW.own hlt hg (by simp)
theorem WH.len{x:Operand}(s:WH h v l)(hx:ev t x=v):U6 P ih t h (.len x)=some (I l.length,h):=zDl s hx
theorem WH.idx{x y:Operand}{i:Nat}(s:WH h v l)(hx:ev t x=v)(hy:W6 (ev t y)=some i)(hi:i<l.length):U6 P ih t h (.idx 1 x y)=some (zx v i,h):=by
 have:=zJ1 (P:=P) (ih:=ih) s hx hy hi;rwa [JC]at this
theorem WH.load{x:Operand}{i:Nat}{a:Int}(s:WH h v l)(hx:ev t x=zx v i)(hi:l[i]?=some a):U6 P ih t h (.load false 1 x)=some (I a,h):=
 zK4 s hx (by simp[hi])
end
def WQ(h0 h:Uy)(v:Value)(l:List Int):Prop:=∃ g,h0.n<=g/\g<h.n/\v=.slice (some ⟨g,0,none⟩) l.length 1/\h.get g=some (.row (l.map I) true 0)
theorem WQ.sl{h0 h v l}(o:WQ h0 h v l):WH h v l:=by obtain⟨g,_,hl,rfl,hg⟩:=o;exact WH.own hl hg
theorem WQ.ext{h0 h h' v l}(o:WQ h0 h v l)(e:Ext h h'):WQ h0 h' v l:=by
 obtain⟨g,a,b,c,d⟩:=o;exact⟨g,a,QK b e.n,c,(e.get g b).trans d⟩
theorem zNI(k:IntKind)(a b:Int):yz .add (.int k a) (.int k b)=some (.int k (k.wrap (a+b))):=by simp[yz]
theorem zMB(k:IntKind)(a b:Int):yz .sub (.int k a) (.int k b)=some (.int k (k.wrap (a-b))):=by simp[yz]
theorem zME(k:IntKind)(a b:Int):yz .mul (.int k a) (.int k b)=some (.int k (k.wrap (a*b))):=by simp[yz]
theorem zMk(k:IntKind)(a b:Int):yz .lss (.int k a) (.int k b)=some (.bool (decide (a<b))):=by simp[yz]
theorem zMN(k:IntKind)(a b:Int):yz .leq (.int k a) (.int k b)=some (.bool (decide (a<=b))):=by simp[yz]
theorem zNH(k:IntKind)(a b:Int):yz .gtr (.int k a) (.int k b)=some (.bool (decide (b<a))):=by simp[yz]
theorem zND(k:IntKind)(a b:Int):yz .geq (.int k a) (.int k b)=some (.bool (decide (b<=a))):=by simp[yz]
theorem zMG(k:IntKind)(a b:Int):yz .eql (.int k a) (.int k b)=some (.bool (decide (a=b))):=by
 simp[yz];rw[GV];simp
theorem zLk(k:IntKind)(a b:Int):yz .neq (.int k a) (.int k b)=some (.bool (!decide (a=b))):=by
 simp[yz];rw[GV];simp
theorem zDz{n:Int}(h1: -9223372036854775808<=n)(h2:n<=9223372036854775807):IntKind.wrap .i64 n=n:=by
 simp[IntKind.wrap,IntKind.signed,IntKind.bits];omega
section
variable {P:Program}{ih:Ex}{t:U3 Value}{h:Uy}{v:Value}{l:List Int}
theorem XQ{x:Operand}{i:Nat}(hx:ev t x=zx v i)(s:WH h v l)(hi:i<l.length):U6 P ih t h (.load false 1 x)=some (I (l.getD i 0),h):=
 s.load hx (by simp[List.getD,QB hi])
theorem Xm{x y:Operand}{i:Nat}(hx:ev t x=v)(hy:W6 (ev t y)=some i)(s:WH h v l)(hi:i<l.length):U6 P ih t h (.idx 1 x y)=some (zx v i,h):=s.idx hx hy hi
theorem Xj{x:Operand}(hx:ev t x=v)(s:WH h v l):U6 P ih t h (.len x)=some (I l.length,h):=s.len hx
end
section
variable {P:Program}{tab:Wl}
def zMz(ops:List (U1×List Nat)):Bool:=ops.all fun x=>x.2.isEmpty&&Nat.ble (zI x.1.op) 1
theorem zBw{op:Wk}(h:Nat.ble (zI op) 1=true):(zI op=0\/zI op=1)/\zAU op=true:=by
 cases op<;>first|exact⟨.inl rfl,rfl⟩|exact⟨.inr rfl,rfl⟩|cases h
theorem zJS{ih:Ex}{o:U1}{fr fr':WF}{h h':Uy}(hk:Nat.ble (zI o.op) 1=true)(hx:yK P ih o fr h=some (fr',h'))(m:Nat)(wr:List Nat):
  h'=h/\yK P ih o fr {h with mark:=m,wr:=wr}=some (fr',{h with mark:=m,wr:=wr}):=by
 obtain⟨k,hp⟩:=zBw hk;unfold yK at hx |-;cases hw:zU fr.tm o.guard with
 |false=>simp only[hw,QV,QA,QD]at hx |-;obtain⟨rfl,rfl⟩:=hx;refine⟨rfl,?_⟩;first|trivial|exact⟨rfl,rfl⟩
 |true=>
  simp only[hw,cond_true]at hx |-;cases ha:U6 P ih fr.tm h o.op with
  |none=>
   have:yE P ih fr.tm fr.round h o.op=none:=by cases hop:o.op<;>simp_all [yE,zAU]
   simp[this]at hx
  |some q=>
   obtain⟨v,h2⟩:=q;have e1:=zEF k ha;obtain⟨rfl,_,e2⟩:=e1;have e3:U6 P ih fr.tm {h2 with mark:=m,wr:=wr} o.op=some (v,{h2 with mark:=m,wr:=wr}):=e2 _ (fun _ _=> .inl rfl);have v1:∀ {h h':Uy},U6 P ih fr.tm h o.op=some (v,h')->yE P ih fr.tm fr.round h o.op=some (v,[],h'):=fun {h h'} e=>by
    cases hop:o.op<;>first|(rw[hop]at hp;cases hp;done)|(rw[hop]at e;simp only[yE,e])
   rw[v1 ha]at hx;rw[v1 e3];simp only[QA,QD]at hx |-;obtain⟨rfl,rfl⟩:=hx;refine⟨rfl,?_⟩;first|trivial|exact⟨rfl,rfl⟩
theorem zCA{ih:Ex}:∀ {ops:List (U1×List Nat)} {i g:Nat} {rs:List (Nat×Nat×Option (Nat×Nat×List Value))} {bs:List (Nat×Nat)} {fr fr':WF} {h h':Uy} (m:Nat) (wr:List Nat),zMz ops=true->yv P ih (ops.map (·.1)) fr h=some (fr',h')->
  h'=h/\∃ m' wr',yS P ih ops i g [] rs bs fr {h with mark:=m,wr:=wr}=some (fr',{h with mark:=m',wr:=wr'},[]):=by
 intro ops;induction ops with
 |nil=>
  intro i g rs bs fr fr' h h' m wr _ hx;simp only[Ge,yv,QA,QD]at hx;obtain⟨rfl,rfl⟩:=hx;exact⟨rfl,m,wr,rfl⟩
 |cons x ops ihl=>
  obtain⟨o,un⟩:=x;intro i g rs bs fr fr' h h' m wr hc hx;simp only[zMz,List.all_cons,QJ]at hc;obtain⟨⟨hun,hk⟩,hc⟩:=hc;have hun:un=[]:=List.isEmpty_iff.1 hun;subst hun;simp only[Q1,yv]at hx;cases ha:yK P ih o fr h with
  |none=>simp[ha]at hx
  |some q=>
   obtain⟨fr1,h1⟩:=q;simp only[ha]at hx;obtain⟨rfl,e⟩:=zJS hk ha h1.n [];have hk3:Nat.beq (zI o.op) 3=false:=by
    rcases(zBw hk).1 with k|k<;>rw[k]<;>rfl
   obtain⟨e1,m',wr',e2⟩:=ihl (i:=i+1) (g:=g) (rs:=match zl fr.tm o with|some g=>(i,g,zAP fr.tm {h1 with mark:=h1.n,wr:=[]} o.op)::rs|none=>rs) (bs:=(i,h1.n)::bs) h1.n [] hc hx;refine⟨e1,m',wr',?_⟩;simp only[yS,yX,hk3,QV];have e':yK P ih o fr {h1 with mark:=h1.n,wr:=[]}=some (fr1,{h1 with mark:=h1.n,wr:=[]}):=e;rw[e'];simp only[List.all_nil,List.contains_nil,Qh,Qw,Qo,Qx,Qf,Ge,List.append_nil];have hb:(bs.all fun _=>true)=true:=by simp
   have hr:(rs.all fun _=>true)=true:=by simp
   cases hra:zl fr.tm o with
   |none=>
    simp only[hra]at e2;simp only[hr,Qx,cond_true];exact e2
   |some g'=>
    simp only[hra]at e2;simp only[hb,hr,Qx,cond_true];exact e2
theorem Vd{ops fr h K}(hc:zMz ops=true)(hx:WO P tab (ops.map (·.1)) fr h fun fr h=>K .normal fr h):WX P tab (.regionC ops) fr h K:=by
 unfold WO at hx;obtain⟨fr',h',a,b⟩:=hx;have hno:(ops.filter fun x=>Nat.beq (zI x.1.op) 3).length=0:=by
  rw[Gi,List.filter_eq_nil_iff];intro x hx;have:=Qa.1 hc x hx;simp only[QJ]at this;rcases(zBw this.2).1 with k|k<;>rw[k]<;>simp
 have hh:h'=h:=by
  unfold Ev at b;obtain⟨N,b⟩:=b;exact(zCA (i:=0) (g:=0) (rs:=[]) (bs:=[]) 0 [] hc (b N (QE _))).1
 subst hh;unfold WX;refine⟨_,fr',_,a,Ev.up (b.mono fun n e=> ?_)⟩;obtain⟨_,m',wr',e2⟩:=zCA (i:=0) (g:=h'.n) (rs:=[]) (bs:=[]) h'.mark h'.wr hc e;rw[zt];simp only[zq,YZ,hno,Nat.add_zero];rw[e2];simp
end
def U5(h0 h:Uy)(v:Value)(l:List Int):Prop:=(v=.slice none 0 0/\l=[])\/WQ h0 h v l
theorem U5.sl{h0 h v l}(o:U5 h0 h v l):WH h v l:=by
 rcases o with⟨rfl,rfl⟩|o
 ·exact WH.nil h
 ·exact o.sl
theorem U5.ext{h0 h h' v l}(o:U5 h0 h v l)(e:Ext h h'):U5 h0 h' v l:=o.imp id fun o=>o.ext e
theorem WQ.since{h0 h1 h v l}(o:WQ h1 h v l)(e:Ext h0 h1):WQ h0 h v l:=by
 obtain⟨g,a,b⟩:=o;exact⟨g,QU e.n a,b⟩
theorem U5.since{h0 h1 h v l}(o:U5 h1 h v l)(e:Ext h0 h1):U5 h0 h v l:=o.imp id fun o=>o.since e
def BH(v:Value)(h h':Uy):Prop:=h.n<=h'.n/\∀ g,g<h.n->(∀ a n c,v=.slice (some a) n c->a.block≠g)->h'.get g=h.get g
theorem zCH(l:List Int):zQ (l.map I)=true:=by simp[zQ]
section
variable {P:Program}{tab:Wl}{t:U3 Value}{h h0:Uy}{ds:List Deferred}{rd:Option Nat}{l:List U1}{Q:WF->Uy->Prop}{d:Nat}
theorem Zr(h:Uy)(o:WZ):Ext h (h.push o):=(Ext.refl h).push o
theorem zc(h:Uy)(o:WZ):(h.push o).get h.n=some o:=by rw[zV,QF rfl]
theorem XJ{n:Nat}{zero:List Value}{parts:List (Nat×Nat×Operand)}(xs:List Int)(hn:xs.length=n)(hf:Zi (zg zero n) (zz t parts)=some (xs.map I))
  (k:∀ v h',Ext h h'->WQ h h' v xs->WO P tab l ⟨t.set d v,ds,rd⟩ h' Q):WO P tab (⟨some d,none,.buildSlice n 1 zero parts⟩::l) ⟨t,ds,rd⟩ h Q:=by
 refine WO.op _ _ rfl (by simp only[U6,hf,QH];rfl) (k _ _ (Zr _ _) ⟨h.n,QE _,by simp[Uy.push],by rw[hn],zc _ _⟩)
theorem zAI(l:List Int)(i:Nat)(a:Int)(hi:i<l.length):zo (l.map I) i [I a]=(l.set i a).map I:=by
 unfold zo;rw[<-List.map_take,QX,<-List.map_drop,List.set_eq_take_append_cons_drop,QF hi];simp
theorem XP{x y:Operand}{v:Value}{xs:List Int}{i:Nat}{a:Int}(hx:ev t x=zx v i)(hy:ev t y=I a)(o:WQ h0 h v xs)(e0:Ext h0 h)(hi:i<xs.length)
  (k:∀ h',Ext h0 h'->WQ h0 h' v (xs.set i a)->BH v h h'->WO P tab l ⟨t,ds,rd⟩ h' Q):WO P tab (⟨none,none,.store 1 x y⟩::l) ⟨t,ds,rd⟩ h Q:=by
 obtain⟨g,g1,g2,rfl,g3⟩:=o;have hst:zr h ⟨g,i,none⟩ [I a]=some (h.set g (.row (zo (xs.map I) i [I a]) true 0)):=by
  have h1:Nat.ble (i+1) (xs.map I).length=true:=QG (by simp;omega);have h0:Nat.ble 0 i=true:=QG (QL _);simp only[zr,g3,QX,h1,h0,Qx];rfl
 rw[zAI _ _ _ hi]at hst;refine VT undef (h.set g (.row ((xs.set i a).map I) true 0)) rfl ?_ (k _ (e0.set g1 g2 _) ⟨g,g1,g2,by simp,by rw[zw,QF rfl]⟩ ⟨QE _,fun k _ hk=> ?_⟩)
 ·have hc:(I a).cells=#[I a]:=rfl;simp only[U6,hx,zx,hy,GF,hc,hst,QH];rfl
 ·rw[zw,QC (fun e=>hk _ _ _ rfl e.symm)]
theorem XD{x y:Operand}{v w:Value}{xs ys:List Int}(hx:ev t x=v)(hy:ev t y=w)(o:U5 h0 h v xs)(s:WH h w ys)(e0:Ext h0 h)(hne:ys≠[])(hr:xs.length+ys.length<=4294967296)
  (k:∀ v' h',Ext h0 h'->WQ h0 h' v' (xs++ys)->BH v h h'->WO P tab l ⟨t.set d v',ds,rd⟩ h' Q):WO P tab (⟨some d,none,.append 1 x y⟩::l) ⟨t,ds,rd⟩ h Q:=by
 have hsrc:=Z0 s;have hroom:room=4294967296:=rfl;obtain⟨z,zs,rfl⟩:∃ z zs,ys=z::zs:=by
  cases ys with
  |nil=>exact absurd rfl hne
  |cons z zs=>exact⟨z,zs,rfl⟩
 have hone:zQ (I z::zs.map I)=true:=zCH (z::zs);have hlen:(I z::zs.map I).length / 1=(z::zs).length:=by simp
 rcases o with⟨rfl,rfl⟩|⟨g,g1,g2,rfl,g3⟩
 ·have h1:Nat.ble (z::zs).length room=true:=QG (by rw[hroom];simpa using hr);refine WO.op (.slice (some ⟨h.n,0,none⟩) (z::zs).length 1) (h.push (.row ((z::zs).map I) true 0)) rfl ?_ (k _ _ (e0.push _) ⟨h.n,e0.n,by simp[Uy.push],rfl,zc _ _⟩ ⟨GU _,fun k hk _=> ?_⟩)
  ·simp only[U6,hx,hy,yd,hsrc,Q1,hone,hlen,h1,QW,cond_true,QV];rfl
  ·rw[zV,QC (by omega)]
 ·have h1:Nat.ble (xs.length+(z::zs).length) room=true:=QG (by rw[hroom];exact hr);have h2:cut (xs.map I) 0 (xs.length*1)=some (xs.map I):=by rw[ZH (by simp)];simp[Qy]
  have hn:(h.kill g).n=h.n:=rfl;have h3:Nat.ble 0 (0+xs.length*1)=true:=QG (QL _);refine WO.op (.slice (some ⟨h.n,0,none⟩) (xs.length+(z::zs).length) 1) ((h.kill g).push (.row (xs.map I++(z::zs).map I) true (0-0))) rfl ?_
   (k _ _ ((e0.kill g1).push _) ⟨h.n,e0.n,by simp[Uy.push,Uy.kill],by simp,?_⟩ ⟨GU _,fun k hk hv=> ?_⟩)
  ·simp only[U6,hx,hy,yd,hsrc,Q1,hone,hlen,h1,g3,h2,h3,QW,cond_true,QV];rfl
  ·have:=zc (h.kill g) (.row (xs.map I++(z::zs).map I) true (0-0));rw[hn]at this;rw[this];simp
  ·rw[zV,QC (by rw[hn];omega),yq,QC (fun e=>hv _ _ _ rfl e.symm)]
section
variable {P:Program}{tab:Wl}{t:U3 Value}{h h0:Uy}{ds:List Deferred}{rd:Option Nat}{l:List U1}{Q:WF->Uy->Prop}{d:Nat}
end
def yI(p:Value)(j:Nat):Value:=match p with
 | .pointer (some a)=> .pointer (some ⟨a.block,a.off+j,none⟩)
 |_=>undef
def Uz(h0 h:Uy)(p:Value)(cells:List Value):Prop:=∃ g,h0.n<=g/\g<h.n/\p=.pointer (some ⟨g,0,none⟩)/\h.get g=some (.row cells true 0)
theorem Uz.ext{h0 h h' p cells}(o:Uz h0 h p cells)(e:Ext h h'):Uz h0 h' p cells:=by
 obtain⟨g,a,b,c,d⟩:=o;exact⟨g,a,QK b e.n,c,(e.get g b).trans d⟩
theorem Uz.since{h0 h1 h p cells}(o:Uz h1 h p cells)(e:Ext h0 h1):Uz h0 h p cells:=by
 obtain⟨g,a,b⟩:=o;exact⟨g,QU e.n a,b⟩
theorem Uz.at0{h0 h p cells}(o:Uz h0 h p cells):p=yI p 0:=by obtain⟨g,_,_,rfl,_⟩:=o;rfl
section
variable {P:Program}{tab:Wl}{ih:Ex}{t:U3 Value}{h h0:Uy}{ds:List Deferred}{rd:Option Nat}{l:List U1}{Q:WF->Uy->Prop}{d:Nat}{p:Value}{cells:List Value}
theorem UM{x:Operand}(cells:List Value)(hv:(ev t x).cells.toList=cells)(k:∀ p h',Ext h h'->Uz h h' p cells->WO P tab l ⟨t.set d p,ds,rd⟩ h' Q):
  WO P tab (⟨some d,none,.box x⟩::l) ⟨t,ds,rd⟩ h Q:=by
 subst hv;exact WO.op _ _ rfl (by simp only[U6]) (k _ _ (Zr _ _) ⟨h.n,QE _,by simp[Uy.push],rfl,zc _ _⟩)
theorem XM{zero:List Value}(k:∀ p h',Ext h h'->Uz h h' p zero->WO P tab l ⟨t.set d p,ds,rd⟩ h' Q):
  WO P tab (⟨some d,none,.alloc zero⟩::l) ⟨t,ds,rd⟩ h Q:=
 WO.op _ _ rfl (by simp only[U6]) (k _ _ (Zr _ _) ⟨h.n,QE _,by simp[Uy.push],rfl,zc _ _⟩)
theorem Uz.idxArr{x y:Operand}{n c j i:Nat}(hx:ev t x=yI p j)(hy:W6 (ev t y)=some i)(o:Uz h0 h p cells)(hi:i<n):U6 P ih t h (.idxArr n c x y)=some (yI p (j+i*c),h):=by
 obtain⟨g,_,_,rfl,_⟩:=o;have h1:Nat.ble (i+1) n=true:=QG hi;simp[U6,hx,hy,yI,h1]
theorem Vm{x y:Operand}{n c i:Nat}(hx:ev t x=p)(hy:W6 (ev t y)=some i)(o:Uz h0 h p cells)(hi:i<n):U6 P ih t h (.idxArr n c x y)=some (yI p (i*c),h):=by
 have:=Uz.idxArr (P:=P) (ih:=ih) (c:=c) (hx.trans o.at0) hy o hi;rwa [GF]at this
theorem Uz.fld{x:Operand}{off j:Nat}(hx:ev t x=yI p j)(o:Uz h0 h p cells):U6 P ih t h (.fld off x)=some (yI p (j+off),h):=by
 obtain⟨g,_,_,rfl,_⟩:=o;simp[U6,hx,yI]
theorem XN{x:Operand}{off:Nat}(hx:ev t x=p)(o:Uz h0 h p cells):U6 P ih t h (.fld off x)=some (yI p off,h):=by
 have:=Uz.fld (P:=P) (ih:=ih) (off:=off) (hx.trans o.at0) o;rwa [GF]at this
theorem Uz.load{x:Operand}{agg:Bool}{n j:Nat}{r:Value}(hx:ev t x=yI p j)(o:Uz h0 h p cells)(hr:(cut cells j n).bind (zP agg)=some r):U6 P ih t h (.load agg n x)=some (r,h):=by
 obtain⟨g,_,_,rfl,hg⟩:=o;simp[U6,hx,yI,yV,hg,hr]
theorem Vj{x:Operand}{agg:Bool}{n:Nat}{r:Value}(hx:ev t x=p)(o:Uz h0 h p cells)(hr:(cut cells 0 n).bind (zP agg)=some r):U6 P ih t h (.load agg n x)=some (r,h):=
 Uz.load (hx.trans o.at0) o hr
end
def W4(h0 h:Uy)(m:Value)(es:List (Int×Int)):Prop:=
 ∃ g clock es',h0.n<=g/\g<h.n/\m=.map (some g)/\h.get g=some (.map es' clock)/\es'.map (fun e=>(e.key,e.val))=es.map fun e=>(I e.1,I e.2)
theorem W4.ext{h0 h h' m es}(o:W4 h0 h m es)(e:Ext h h'):W4 h0 h' m es:=by
 obtain⟨g,c,es',a,b,x,y,z⟩:=o;exact⟨g,c,es',a,QK b e.n,x,(e.get g b).trans y,z⟩
theorem W4.upd{h0 h h' m es v xs}(o:W4 h0 h m es)(s:U5 h0 h v xs)(u:BH v h h'):W4 h0 h' m es:=by
 obtain⟨g,c,es',a,b,x,y,z⟩:=o;refine⟨g,c,es',a,QK b u.1,x,(u.2 g b fun q n k hv e=> ?_).trans y,z⟩;rcases s with⟨rfl,_⟩|⟨g2,_,_,rfl,w⟩
 ·cases hv
 ·cases hv;simp only at e;subst e;rw[y]at w;cases w
theorem zCq{n:Int}:∀ {es':List MapEntry} {es:List (Int×Int)} (i:Nat),es'.map (fun e=>(e.key,e.val))=es.map (fun e=>(I e.1,I e.2))->es.lookup n=none->YA (I n) es' i=some none
 |[],[],_,_,_=>rfl
 |[],_::_,_,h,_=>by cases h
 |_::_,[],_,h,_=>by cases h
 |e::es',(k,v)::es,i,h,hl=>by
  simp only[Q1,List.cons.injEq,QD]at h;rw[List.lookup_cons]at hl;split at hl
  ·cases hl
  ·rename_i hk;have:zCh (I n) e.key=some false:=by rw[h.1.1];simp only[zCh,Q2];rw[hk]
   simp only[YA,this];exact zCq (i+1) h.2 hl
theorem zFS{n v:Int}:∀ {es':List MapEntry} {es:List (Int×Int)} (i:Nat),es'.map (fun e=>(e.key,e.val))=es.map (fun e=>(I e.1,I e.2))->es.lookup n=some v->∃ j,YA (I n) es' i=some (some (j,I v))
 |[],[],_,_,hl=>by cases hl
 |[],_::_,_,h,_=>by cases h
 |_::_,[],_,h,_=>by cases h
 |e::es',(k,w)::es,i,h,hl=>by
  simp only[Q1,List.cons.injEq,QD]at h;rw[List.lookup_cons]at hl;split at hl
  ·rename_i hk;cases hl;have:zCh (I n) e.key=some true:=by rw[h.1.1];simp only[zCh,Q2];rw[hk]
   exact⟨i,by simp only[YA,this,h.1.2]⟩
  ·rename_i hk;have:zCh (I n) e.key=some false:=by rw[h.1.1];simp only[zCh,Q2];rw[hk]
   obtain⟨j,hj⟩:=zFS (i+1) h.2 hl;exact⟨j,by simp only[YA,this,hj]⟩
section
variable {P:Program}{tab:Wl}{t:U3 Value}{h h0:Uy}{ds:List Deferred}{rd:Option Nat}{l:List U1}{Q:WF->Uy->Prop}{d:Nat}
theorem WO.mkMap(k:∀ m h',Ext h h'->W4 h h' m []->WO P tab l ⟨t.set d m,ds,rd⟩ h' Q):WO P tab (⟨some d,none,.mkMap⟩::l) ⟨t,ds,rd⟩ h Q:=
 WO.op _ _ rfl (by simp only[U6]) (k _ _ (Zr _ _) ⟨h.n,0,[],QE _,by simp[Uy.push],rfl,zc _ _,rfl⟩)
def zM8(m:Value)(h h':Uy):Prop:=h.n<=h'.n/\∀ g,g<h.n->m≠ .map (some g)->h'.get g=h.get g
theorem WQ.updM{h0 h h' m es v xs}(s:WQ h0 h v xs)(o:W4 h0 h m es)(u:zM8 m h h'):WQ h0 h' v xs:=by
 obtain⟨g,a,b,rfl,c⟩:=s;refine⟨g,a,QK b u.1,rfl,(u.2 g b fun e=> ?_).trans c⟩;obtain⟨g2,_,_,_,_,x,y,_⟩:=o;rw[x]at e;cases e;rw[c]at y;cases y
theorem U5.updM{h0 h h' m es v xs}(s:U5 h0 h v xs)(o:W4 h0 h m es)(u:zM8 m h h'):U5 h0 h' v xs:=s.imp id fun s=>s.updM o u
end
end
inductive Rd{H:Type}(P:Program)(h:Uy):TypeId->List Value->DataW H->Prop
 |bool {t} (b:Bool) (ht:P.underlying t=some .bool):Rd P h t [.bool b] (.lit (.bool b))
 |int {t k} (n:Int) (ht:P.underlying t=some (.int k)) (wf:(Lit.int k n).wf=true):Rd P h t [.int k n] (.lit (.int k n))
 |string {t} (s:ByteArray) (ht:P.underlying t=some .string) (hs:s.size<=maxLen):Rd P h t [.string s] (.lit (.string s.data.toList))
 |snil {t e} (ht:P.underlying t=some (.slice e)):Rd P h t [.slice none 0 0] .nil
 |szero {t e} (a:Addr) (spare:List (DataW H)) (ht:P.underlying t=some (.slice e)):Rd P h t [.slice (some a) 0 (P.cellsOf e)] (.slice [] spare)
 |slice {t e} (g:Nat) (cells:List Value) (elems spare:List (DataW H)) (ht:P.underlying t=some (.slice e)) (hg:h.get g=some (.row cells false 0)) (hn:g<h.n) (hl:cells.length=elems.length*P.cellsOf e)
   (hm:elems.length<=maxLen) (hr:∀ (i:Nat) (d:DataW H),elems[i]?=some d->Rd P h e ((cells.drop (i*P.cellsOf e)).take (P.cellsOf e)) d):
   Rd P h t [.slice (some ⟨g,0,none⟩) elems.length (P.cellsOf e)] (.slice elems spare)
 |struct {t fs} (cells:List Value) (parts:List (DataW H)) (ht:P.underlying t=some (.struct fs)) (hl:cells.length=P.cellsOf t) (hp:parts.length=fs.size)
   (hr:∀ (i:Nat) (f:Field) (d:DataW H),fs[i]?=some f->parts[i]?=some d->Rd P h f.type ((cells.drop f.offset).take (P.cellsOf f.type)) d):Rd P h t cells (.agg parts)
 |array {t n e} (cells:List Value) (parts:List (DataW H)) (ht:P.underlying t=some (.array n e)) (hl:cells.length=P.cellsOf t) (hp:parts.length=n)
   (hr:∀ (i:Nat) (d:DataW H),parts[i]?=some d->Rd P h e ((cells.drop (i*P.cellsOf e)).take (P.cellsOf e)) d):Rd P h t cells (.agg parts)
theorem Rd.ext{H:Type}{P:Program}{h h':Uy}{t:TypeId}{cells:List Value}{d:DataW H}(r:Rd P h t cells d)(e:Ext h h'):Rd P h' t cells d:=by
 induction r with
 |bool b ht=>exact .bool b ht
 |int n ht wf=>exact .int n ht wf
 |string s ht hs=>exact .string s ht hs
 |snil ht=>exact .snil ht
 |szero a sp ht=>exact .szero a sp ht
 |slice g cells elems sp ht hg hn hl hm _ ih=>exact .slice g cells elems sp ht ((e.get g hn).trans hg) (QK hn e.n) hl hm ih
 |struct cells parts ht hl hp _ ih=>exact .struct cells parts ht hl hp ih
 |array cells parts ht hl hp _ ih=>exact .array cells parts ht hl hp ih
def zA1(P:Program):List Field->Nat->Option Nat
 |[],n=>some n
 |f::l,n=>bif Nat.beq f.offset n then zA1 P l (n+P.cellsOf f.type)else none
def Yp(P:Program):Nat->TypeId->Bool
 |0,_=>false
 |n+1,t=>match P.underlying t with
  |some .bool|some (.int _)|some .string=>true
  |some (.slice e)=>Nat.ble 1 (P.cellsOf e)&&Yp P n e
  |some (.struct fs)=>(match zA1 P fs.toList 0 with|some m=>Nat.beq m (P.cellsOf t)|none=>false)&&fs.toList.all fun f=>Yp P n f.type
  |some (.array m e)=>Nat.beq (m*P.cellsOf e) (P.cellsOf t)&&Yp P n e
  |_=>false
def zLb(h:Uy):Prop:=∀ g o,h.get g=some o->zBv o=false
section
variable {P:Program}{H:Type}{enc:TypeId×Value->H}{w:World}{B:Nat}
theorem zIb{σ:Nat->Option Pl}{h:Uy}(hr:WL P B σ h w)(hno:zLb h)(hrow:∀ g o,h.get g=some o->∃ c l,o=.row c false l){cells:List Value}{pl:Pl}(hb:pl.b<w.heap.size)
  (ho:BL P σ pl (.row cells false 0) w):
  WL P B (Zh σ h.n pl) (h.push (.row cells false 0)) w/\zLb (h.push (.row cells false 0))/\(∀ g o,(h.push (.row cells false 0)).get g=some o->∃ c l,o=.row c false l)/\Le σ (Zh σ h.n pl):=by
 have hle:Le σ (Zh σ h.n pl):=zBQ hr pl;have hnone:h.get h.n=none:=by
  cases hg:h.get h.n with
  |none=>rfl
  |some o=>obtain⟨pl,h1,_⟩:=hr.live _ _ hg;have:=(hr.lt _ _ h1).1;omega
 have hrows:∀ g o,(h.push (.row cells false 0)).get g=some o->∃ c l,o=.row c false l:=fun g o hg=>by
  rw[zV]at hg;split at hg
  ·cases hg;exact⟨_,_,rfl⟩
  ·exact hrow g o hg
 refine⟨⟨fun g hg=> ?_,fun g p hg=> ?_,fun g o hg=> ?_,fun g o g' o' p p' hg hg' _ _ _ _=> ?_,hr.le⟩,fun g o hg=> ?_,hrows,hle⟩
 ·obtain⟨p,h1,h2⟩:=hr.globals g hg;exact⟨p,hle _ _ h1,h2⟩
 ·unfold Zh at hg;split at hg
  ·cases hg;rename_i e;subst e;exact⟨by simp[Uy.push],hb⟩
  ·have:=hr.lt g p hg;exact⟨by simp[Uy.push];omega,this.2⟩
 ·rw[zV]at hg;split at hg
  ·rename_i e;subst e;cases hg;exact⟨pl,yG _ _ _,ho.keep hle rfl,fun x=>by cases x⟩
  ·obtain⟨p,h1,h2,h3⟩:=hr.live g o hg;exact⟨p,hle _ _ h1,h2.keep hle rfl,h3⟩
 ·obtain⟨c,l,rfl⟩:=hrows g o hg;obtain⟨c',l',rfl⟩:=hrows g' o' hg';exact⟨fun⟨x,_⟩=>Bool.noConfusion x,fun x=>Bool.noConfusion x,fun x=>Bool.noConfusion x⟩
 ·obtain⟨c,l,rfl⟩:=hrows g o hg;rfl
structure BQ(P:Program)(B:Nat)(σ:Nat->Option Pl)(h:Uy)(w:World):Prop where
 rel:WL P B σ h w
 rows:∀ g o,h.get g=some o->∃ c l,o=.row c false l
 wf:Wf h
theorem BQ.no{σ:Nat->Option Pl}{h:Uy}(c:BQ P B σ h w):zLb h:=fun g o hg=>by obtain⟨c,l,rfl⟩:=c.rows g o hg;rfl
theorem zDw:∀ {as:List (List Value)} {i:Nat} {a:List Value},as[i]?=some a->(as.flatten.drop ((as.take i).flatten.length)).take a.length=a
 |[],i,a,h=>by simp at h
 |x::as,0,a,h=>by simp at h;subst h;simp
 |x::as,i+1,a,h=>by
  simp at h;have:=zDw h;simp only[Qp,GT,QR];rw[List.drop_append,List.drop_of_length_le (by omega),GJ];have e:x.length+(as.take i).flatten.length-x.length=(as.take i).flatten.length:=by omega
  rw[e];exact this
theorem zEo{c:Nat}:∀ {as:List (List Value)},(∀ a∈as,a.length=c)->as.flatten.length=as.length*c
 |[],_=>by simp
 |x::as,h=>by
  have:=zEo (as:=as) (fun a ha=>h a (by simp[ha]));simp only[GT,QR,GB,this,h x (by simp)];rw[Gw];omega
theorem zAx(R:TypeId->List Value->DataW H->Prop)
  (one:∀ t cs d,R t cs d->∀ σ h,BQ P B σ h w->∃ σ' h' acs,BQ P B σ' h' w/\Ext h h'/\Le σ σ'/\WG σ' acs cs/\Rd P h' t acs d):
  ∀ (l:List (TypeId×List Value×DataW H)),(∀ p∈l,R p.1 p.2.1 p.2.2)->∀ σ h,BQ P B σ h w->
   ∃ (σ':Nat->Option Pl) (h':Uy) (as:List (List Value)),BQ P B σ' h' w/\Ext h h'/\Le σ σ'/\as.length=l.length/\∀ (i:Nat) (a:List Value) (p:TypeId×List Value×DataW H),as[i]?=some a->l[i]?=some p->WG σ' a p.2.1/\Rd P h' p.1 a p.2.2:=by
 intro l;induction l with
 |nil=>intro _ σ h hc;exact⟨σ,h,[],hc,Ext.refl h,.refl _,rfl,fun i a p ha=>by simp at ha⟩
 |cons p l ih=>
  intro hl σ h hc;obtain⟨σ1,h1,a1,c1,e1,l1,r1,d1⟩:=one _ _ _ (hl p (by simp)) σ h hc;obtain⟨σ2,h2,as,c2,e2,l2,n2,r2⟩:=ih (fun q hq=>hl q (by simp[hq])) σ1 h1 c1;refine⟨σ2,h2,a1::as,c2,e1.trans e2,l1.trans l2,by simp[n2],fun i a q ha hq=> ?_⟩;cases i with
  |zero=>simp at ha hq;subst ha hq;exact⟨r1.mono l2,d1.ext e2⟩
  |succ i=>simp at ha hq;exact r2 i a q ha hq
theorem zFi{σ:Nat->Option Pl}:∀ {as cs:List (List Value)},as.length=cs.length->(∀ (i:Nat) a c,as[i]?=some a->cs[i]?=some c->WG σ a c)->WG σ as.flatten cs.flatten
 |[],[],_,_=>WG.nil _
 |a::as,c::cs,hl,h=>by
  simp only[GT];exact(h 0 a c rfl rfl).append (zFi (by simpa using hl) fun i x y hx hy=>h (i+1) x y (by simpa using hx) (by simpa using hy))
 |[],_::_,hl,_=>by simp at hl
 |_::_,[],hl,_=>by simp at hl
theorem zJ4(a:Addr)(ha:a.spot=none)(i:Nat):a.add i=⟨a.block,a.off+i,none⟩:=by
 unfold Addr.add;split
 ·rename_i e;subst e;obtain⟨b,o,s⟩:=a;simp only at ha;subst ha;rfl
 ·rfl
theorem zI0{σ:Nat->Option Pl}:∀ (sz:List Nat) (as:List (List Value)) (cs:List Value),sz.sum=cs.length->as.length=sz.length->
  (∀ (i:Nat) a s,as[i]?=some a->sz[i]?=some s->WG σ a ((cs.drop (sz.take i).sum).take s))->
  WG σ as.flatten cs/\∀ (i:Nat) a s,as[i]?=some a->sz[i]?=some s->a.length=s/\(as.flatten.drop (sz.take i).sum).take s=a
 |[],[],cs,hs,_,_=>by
  have:cs=[]:=Gi.1 (by simpa using hs.symm);subst this;exact⟨WG.nil _,fun i a s ha=>by simp at ha⟩
 |[],_::_,_,_,hl,_=>by simp at hl
 |_::_,[],_,_,hl,_=>by simp at hl
 |s::sz,a::as,cs,hs,hl,h=>by
  have h0:=h 0 a s rfl rfl;simp only[Q4,List.sum_nil,Q5]at h0;have hs':sz.sum+s=cs.length:=by simp at hs;omega
  have al:a.length=s:=by rw[h0.1];simp;omega
  obtain⟨i1,i2⟩:=zI0 sz as (cs.drop s) (by simp;omega) (by simpa using hl) (fun i x y hx hy=>by
   have:=h (i+1) x y (by simpa using hx) (by simpa using hy);simpa [List.drop_drop]using this)
  refine⟨?_,fun i x y hx hy=> ?_⟩
  ·have:=h0.append i1;simpa using this
  ·cases i with
   |zero=>
    simp at hx hy;subst hx hy;refine⟨al,?_⟩;simp only[Q4,List.sum_nil,Q5,GT];rw[<-al];simp
   |succ i=>
    simp at hx hy;obtain⟨j1,j2⟩:=i2 i x y hx hy;refine⟨j1,?_⟩;simp only[Qp,JH,GT];rw[List.drop_append,List.drop_of_length_le (by omega),GJ];have e:s+(sz.take i).sum-a.length=(sz.take i).sum:=by omega
    rw[e];exact j2
theorem zA7:∀ {l:List Field} {n m:Nat},zA1 P l n=some m->m=n+(l.map fun f=>P.cellsOf f.type).sum/\
  ∀ (i:Nat) (f:Field),l[i]?=some f->f.offset=n+((l.map fun f=>P.cellsOf f.type).take i).sum
 |[],n,m,h=>by simp[zA1]at h;subst h;exact⟨by simp,fun i f hf=>by simp at hf⟩
 |f::l,n,m,h=>by
  unfold zA1 at h;cases hb:Nat.beq f.offset n with
  |false=>simp[hb]at h
  |true=>
   have hb':=QM hb;simp only[hb,cond_true]at h;obtain⟨h1,h2⟩:=zA7 h;refine⟨by rw[h1];simp;omega,fun i g hg=> ?_⟩;cases i with
   |zero=>simp at hg;subst hg;simpa using hb'
   |succ i=>simp at hg;rw[h2 i g hg];simp;omega
theorem zPO(L:List Value)(off c:Nat)(f:Nat->List Value):∀ len,(∀ i,i<len->f i=(L.drop (off+i*c)).take c)->((List.range len).map f).flatten=(L.drop off).take (len*c):=by
 intro len;induction len with
 |zero=>intro _;simp
 |succ n ih=>
  intro h;rw[List.range_succ,GD,List.flatten_append,ih (fun i hi=>h i (by omega))];simp only[Q1,Ge,GT,List.flatten_nil,List.append_nil];rw[h n (by omega),G7,List.take_add,List.drop_drop]
theorem zIK:∀ (n:Nat) (t:TypeId) (cs:List Value) (x:DataW H×List MemPlace),DataW.trod enc P w 0 (fun _=>true) true n t cs=some x->∀ (m:Nat),Yp P m t=true->
  ∀ (σ:Nat->Option Pl) (h:Uy),BQ P B σ h w->∃ (σ':Nat->Option Pl) (h':Uy) (acs:List Value),BQ P B σ' h' w/\Ext h h'/\Le σ σ'/\WG σ' acs cs/\Rd P h' t acs x.1:=by
 intro n;induction n with
 |zero=>intro t cs x hx;simp[DataW.trod]at hx
 |succ n ih=>
  intro t cs x hx m hm σ h hc;have one:∀ t cs (d:DataW H),(∃ x,DataW.trod enc P w 0 (fun _=>true) true n t cs=some x/\x.1=d/\∃ m,Yp P m t=true)->∀ σ h,BQ P B σ h w->
    ∃ (σ':Nat->Option Pl) (h':Uy) (acs:List Value),BQ P B σ' h' w/\Ext h h'/\Le σ σ'/\WG σ' acs cs/\Rd P h' t acs d:=fun t cs d ⟨x,h1,h2,m,h3⟩ σ h hc=>by
   subst h2;exact ih t cs x h1 m h3 σ h hc
  cases m with
  |zero=>cases hm
  |succ m=>
  cases hu:P.underlying t with
  |none=>simp[Yp,hu]at hm
  |some u=>
  cases u with
  |bool=>
   obtain⟨b,rfl,rfl⟩:=DataW.trod_bool hu hx;exact⟨σ,h,_,hc,Ext.refl h,.refl _,.cons (.bool b) (.nil _),.bool b hu⟩
  |int k=>
   obtain⟨b,rfl,rfl,wf⟩:=DataW.trod_int hu hx;exact⟨σ,h,_,hc,Ext.refl h,.refl _,.cons (.int k b) (.nil _),.int b hu wf⟩
  |string=>
   obtain⟨b,rfl,rfl,wf⟩:=DataW.trod_string hu hx;exact⟨σ,h,_,hc,Ext.refl h,.refl _,.cons (.string b) (.nil _),.string b hu wf⟩
  |struct fs=>
   obtain⟨xs,n',e,rfl,hl,hxs,hf⟩:=DataW.trod_struct hu hx;cases e;simp only[Yp,hu,QJ,Qa]at hm;obtain⟨hm1,hm2⟩:=hm;cases hcon:zA1 P fs.toList 0 with
   |none=>simp[hcon]at hm1
   |some q=>
   simp only[hcon]at hm1;have hq:=QM hm1;obtain⟨c1,c2⟩:=zA7 hcon;let l:List (TypeId×List Value×DataW H):=(fs.toList.zip xs).map fun p=>(p.1.type,(cs.drop p.1.offset).take (P.cellsOf p.1.type),p.2.1)
   have hlen:l.length=fs.size:=by simp[l,hxs]
   have hget:∀ (i:Nat) p,l[i]?=some p->∃ f y,fs[i]?=some f/\xs[i]?=some y/\p=(f.type,(cs.drop f.offset).take (P.cellsOf f.type),y.1):=fun i p hp=>by
    simp only[l,GS,QO]at hp;obtain⟨⟨f,y⟩,h1,h2⟩:=hp;rw[List.getElem?_zip_eq_some]at h1;exact⟨f,y,by simpa using h1.1,h1.2,h2.symm⟩
   obtain⟨σ',h',as,k1,k2,k3,k4,k5⟩:=zAx _ one l (fun p hp=>by
    obtain⟨i,hi⟩:=Gp.1 hp;obtain⟨f,y,h1,h2,rfl⟩:=hget i p hi;exact⟨y,by rw[hf i f h1,h2],rfl,m,hm2 f (Gg (by simpa using h1))⟩) σ h hc
   have hsz:∀ (i:Nat) s,(fs.toList.map fun f=>P.cellsOf f.type)[i]?=some s->∃ f y,fs[i]?=some f/\xs[i]?=some y/\s=P.cellsOf f.type/\l[i]?=some (f.type,(cs.drop f.offset).take (P.cellsOf f.type),y.1):=fun i s hs=>by
    simp only[GS,QO]at hs;obtain⟨f,h1,h2⟩:=hs;have hi:i<fs.size:=by simpa using(QQ.1 h1).1
    have hy:xs[i]?=some (xs[i]'(by omega)):=QB _;refine⟨f,_,by simpa using h1,hy,h2.symm,?_⟩;simp only[l,GS];have hz:(fs.toList.zip xs)[i]?=some (f,xs[i]'(by omega)):=List.getElem?_zip_eq_some.2 ⟨h1,hy⟩;rw[hz];rfl
   obtain⟨p1,p2⟩:=zI0 (σ:=σ') (fs.toList.map fun f=>P.cellsOf f.type) as cs (by omega) (by rw[k4,hlen];simp) (fun i a s ha hs=>by
    obtain⟨f,y,h1,h2,rfl,h3⟩:=hsz i s hs;have:=(k5 i a _ ha h3).1;rw[c2 i f (by simpa using h1),GF]at this;exact this)
   refine⟨σ',h',as.flatten,k1,k2,k3,p1,.struct _ _ hu (by rw[p1.1];exact hl) (by simpa using hxs) fun i f d hfi hd=> ?_⟩;simp only[GS,QO]at hd;obtain⟨y,hy,rfl⟩:=hd;have hs:(fs.toList.map fun f=>P.cellsOf f.type)[i]?=some (P.cellsOf f.type):=by simp[hfi]
   obtain⟨f',y',h1,h2,h4,h3⟩:=hsz i _ hs;rw[hfi]at h1;cases h1;rw[hy]at h2;cases h2;have hi:i<as.length:=by rw[k4];exact(QQ.1 h3).1
   have ha:as[i]?=some as[i]:=QB _;have e1:=(p2 i _ _ ha hs).2;rw[c2 i f (by simpa using hfi),GF,e1];exact(k5 i _ _ ha h3).2
  |array k e=>
   obtain⟨xs,n',e',rfl,hl,hxs,hf⟩:=DataW.trod_array hu hx;cases e';simp only[Yp,hu,QJ]at hm;obtain⟨hm1,hm2⟩:=hm;have hq:=QM hm1;let l:List (TypeId×List Value×DataW H):=(List.range k).map fun i=>(e,(cs.drop (i*P.cellsOf e)).take (P.cellsOf e),((xs[i]?).map (·.1)).getD .nil)
   have hget:∀ (i:Nat),i<k->∃ y,xs[i]?=some y/\l[i]?=some (e,(cs.drop (i*P.cellsOf e)).take (P.cellsOf e),y.1):=fun i hi=>by
    have hy:xs[i]?=some (xs[i]'(by omega)):=QB _;exact⟨_,hy,by simp[l,hi,hy]⟩
   obtain⟨σ',h',as,k1,k2,k3,k4,k5⟩:=zAx _ one l (fun p hp=>by
    obtain⟨i,hi⟩:=Gp.1 hp;have hik:i<k:=by have:=(QQ.1 hi).1;simpa [l]using this
    obtain⟨y,h1,h2⟩:=hget i hik;rw[h2]at hi;cases hi;exact⟨y,by rw[hf i hik,h1],rfl,m,hm2⟩) σ h hc
   have hsum:∀ i,i<=k->((List.replicate k (P.cellsOf e)).take i).sum=i*P.cellsOf e:=fun i hi=>by
    rw[List.take_replicate,List.sum_replicate_nat,Gd hi]
   obtain⟨p1,p2⟩:=zI0 (σ:=σ') (List.replicate k (P.cellsOf e)) as cs (by rw[List.sum_replicate_nat];omega) (by rw[k4];simp[l]) (fun i a s ha hs=>by
    have hik:i<k:=by have:=(QQ.1 hs).1;simpa using this
    obtain⟨y,h1,h2⟩:=hget i hik;have hs':s=P.cellsOf e:=by rw[JD,QF hik]at hs;exact(GI hs).symm
    subst hs';rw[hsum i (by omega)];exact(k5 i a _ ha h2).1)
   refine⟨σ',h',as.flatten,k1,k2,k3,p1,.array _ _ hu (by rw[p1.1];exact hl) (by simpa using hxs) fun i d hd=> ?_⟩;simp only[GS,QO]at hd;obtain⟨y,hy,rfl⟩:=hd;have hik:i<k:=by have:=(QQ.1 hy).1;omega
   obtain⟨y',h1,h2⟩:=hget i hik;rw[hy]at h1;cases h1;have hi:i<as.length:=by rw[k4];exact(QQ.1 h2).1
   have ha:as[i]?=some as[i]:=QB _;have e1:=(p2 i _ (P.cellsOf e) ha (by simp[hik])).2;rw[hsum i (by omega)]at e1;rw[e1];exact(k5 i _ _ ha h2).2
  |slice e=>
   simp only[Yp,hu,QJ]at hm;obtain⟨hm1,hm2⟩:=hm;have hc1:1<=P.cellsOf e:=QP hm1;rcases DataW.trod_slice hu hx with⟨rfl,rfl⟩|⟨a,len,cap,elems,rest,n',e',rfl,rfl,_,hlc,hcm,hel,hrd,hsp,_⟩
   ·exact⟨σ,h,_,hc,Ext.refl h,.refl _,.cons .snil (.nil _),.snil hu⟩
   cases e';obtain⟨hrl,hrr⟩:=hsp rfl;by_cases hcap:cap=0
   ·subst hcap;have:len=0:=by omega
    subst this;have:elems=[]:=Gi.1 hel;subst this;exact⟨σ,h,_,hc,Ext.refl h,.refl _,.cons (.szero a a _) (.nil _),.szero a _ hu⟩
   ·generalize hcd:P.cellsOf e=c at *;have hall:∀ i,i<cap->∃ cs,w.cells? 0 (a.add (i*c)) c=some cs:=fun i hi=>by
     by_cases hil:i<len
     ·have:=hrd i hil;rw[QB (by omega)]at this;obtain⟨cs,h1,_⟩:=Option.bind_eq_some_iff.1 this;exact⟨cs,h1⟩
     ·have:=hrr (i-len) (by omega);rw[QB (by omega),show len+(i-len)=i by omega]at this;obtain⟨cs,h1,_⟩:=Option.bind_eq_some_iff.1 this;exact⟨cs,h1⟩
    have hspot:a.spot=none:=by
     obtain⟨cs,h1⟩:=hall 0 (by omega);obtain⟨_,h2,h3⟩:=World.cells?_some h1;have h4:=h3 0 (by omega);rw[Nat.zero_mul]at h4;have h5:(a.add 0).add 0=a:=by simp[Addr.add]
     rw[h5,QB (by omega)]at h4;exact World.cell?_spot h4
    have hadd:∀ i j,(a.add i).add j=⟨a.block,a.off+i+j,none⟩:=fun i j=>by
     rw[zJ4 a hspot,zJ4 _ rfl]
    obtain⟨carr,elem,fr,hblk⟩:∃ carr elem fr,w.heap[a.block]?=some (.cells carr elem fr):=by
     obtain⟨cs,h1⟩:=hall 0 (by omega);obtain⟨_,h2,h3⟩:=World.cells?_some h1;have h4:=h3 0 (by omega);rw[hadd,QB (by omega)]at h4;unfold World.cell? at h4;split at h4
     ·exact⟨_,_,_,by assumption⟩
     ·cases h4
    have hcell:∀ k,w.cell? ⟨a.block,k,none⟩=carr[k]?:=fun k=>by simp[World.cell?,hblk]
    have hpiece:∀ i,i<cap->w.cells? 0 (a.add (i*c)) c=some ((carr.toList.drop (a.off+i*c)).take c)/\a.off+i*c+c<=carr.size:=fun i hi=>by
     obtain⟨cs,h1⟩:=hall i hi;obtain⟨_,h2,h3⟩:=World.cells?_some h1;have hb:a.off+i*c+c<=carr.size:=by
      have h4:=h3 (c-1) (by omega);rw[hadd,hcell,QB (by omega)]at h4;have:=(Gz.1 h4).1;omega
     refine⟨?_,hb⟩;rw[h1];congr 1;apply List.ext_getElem?;intro j;by_cases hj:j<c
     ·rw[<-h3 j hj,hadd,hcell,GK,QF hj,Gb];simp
     ·rw[G3 (by omega),G3 (by simp;omega)]
    have hbound:a.off+cap*c<=carr.size:=by
     have:=(hpiece (cap-1) (by omega)).2;have e2:(cap-1)*c+c=cap*c:=by
      rw[<-G7];congr 1;omega
     omega
    let l:List (TypeId×List Value×DataW H):=(List.range len).map fun i=>(e,(carr.toList.drop (a.off+i*c)).take c,((elems[i]?).map (·.1)).getD .nil)
    have hget:∀ (i:Nat),i<len->∃ y,elems[i]?=some y/\l[i]?=some (e,(carr.toList.drop (a.off+i*c)).take c,y.1):=fun i hi=>by
     have hy:elems[i]?=some (elems[i]'(by omega)):=QB _;exact⟨_,hy,by simp[l,hi,hy]⟩
    obtain⟨σ',h',as,k1,k2,k3,k4,k5⟩:=zAx _ one l (fun p hp=>by
     obtain⟨i,hi⟩:=Gp.1 hp;have hik:i<len:=by have:=(QQ.1 hi).1;simpa [l]using this
     obtain⟨y,h1,h2⟩:=hget i hik;rw[h2]at hi;cases hi;have:=hrd i hik;rw[(hpiece i (by omega)).1,h1]at this;exact⟨y,this,rfl,m,hm2⟩) σ h hc
    have hlen:as.length=len:=by rw[k4];simp[l]
    have hal:∀ (i:Nat) x,as[i]?=some x->i<len/\x.length=c:=fun i x hx=>by
     have hi:i<len:=by have:=(QQ.1 hx).1;omega
     obtain⟨y,_,h2⟩:=hget i hi;have:=(k5 i x _ hx h2).1.1;refine⟨hi,?_⟩;rw[this];have:=(hpiece i (by omega)).2;simp;omega
    have hfl:as.flatten.length=len*c:=by
     rw[zEo (c:=c) (fun x hx=>by obtain⟨i,hi⟩:=Gp.1 hx;exact(hal i x hi).2),hlen]
    have hrel:WG σ' as.flatten ((carr.toList.drop a.off).take (len*c)):=by
     rw[<-zPO carr.toList a.off c (fun i=>(carr.toList.drop (a.off+i*c)).take c) len (fun i _=>rfl)];refine zFi (by simp[hlen]) fun i x y hx hy=> ?_;obtain⟨hi,_⟩:=hal i x hx;obtain⟨z,_,h2⟩:=hget i hi;have hy':y=(carr.toList.drop (a.off+i*c)).take c:=by
      rw[GS,List.getElem?_range hi]at hy;exact(GI hy).symm
     rw[hy'];exact(k5 i x _ hx h2).1
    let pl:Pl:=⟨a.block,a.off,carr.size⟩
    have hlc':len*c<=cap*c:=GO c hlc;have hor:BL P σ' pl (.row as.flatten false 0) w:=by
     refine⟨carr,elem,fr,hblk,rfl,by show a.off+as.flatten.length<=carr.size;omega,fun i v hv=> ?_,fun x=>by cases x⟩;have hi:i<len*c:=by have:=(QQ.1 hv).1;omega
     obtain⟨y,hy,hvy⟩:=hrel.get hv;rw[GK,QF hi,Gb]at hy;exact⟨y,by simpa using hy,hvy⟩
    obtain⟨r1,_,r3,r4⟩:=zIb k1.rel k1.no k1.rows (cells:=as.flatten) (pl:=pl) (Gz.1 hblk).1 hor;refine⟨Zh σ' h'.n pl,h'.push (.row as.flatten false 0),[.slice (some ⟨h'.n,0,none⟩) (elems.map (·.1)).length c],⟨r1,r3,(Zr h' _).wf k1.wf⟩,k2.trans (Zr h' _),k3.trans r4,?_,?_⟩
    ·refine .cons ?_ (.nil _);obtain⟨b,o,sp⟩:=a;simp only at hspot;subst hspot;have:=U2.slice (σ:=Zh σ' h'.n pl) (g:=h'.n) (off:=0) (len:=len) (c:=c) (cap:=cap) (pl:=pl) (yG _ _ _) (by omega) hlc hbound;simpa [pl,hel]using this
    ·subst hcd;refine .slice h'.n as.flatten _ _ hu (zc _ _) (by simp[Uy.push]) (by rw[hfl];simp[hel]) (by simp[hel];omega) fun i d hd=> ?_;simp only[GS,QO]at hd;obtain⟨y,hy,rfl⟩:=hd;have hi:i<len:=by have:=(QQ.1 hy).1;omega
     obtain⟨y',h1,h2⟩:=hget i hi;rw[hy]at h1;cases h1;have ha:as[i]?=some (as[i]'(by omega)):=QB _;have hp:=zDw ha;have hpre:(as.take i).flatten.length=i*P.cellsOf e:=by
      rw[zEo (c:=P.cellsOf e) (fun x hx=>by
       obtain⟨j,hj⟩:=Gp.1 (Qi hx);exact(hal j x hj).2)]
      simp[Gd (by omega:i<=as.length)]
     rw[hpre,(hal i _ ha).2]at hp;rw[hp];exact(k5 i _ _ ha h2).2.ext (Zr h' _)
  |_=>simp[Yp,hu]at hm
end
section
variable {P:Program}{H:Type}{enc:TypeId×Value->H}{w:World}{B:Nat}{σ:Nat->Option Pl}{h:Uy}
theorem zKM{tab:Wl}(hmix:P.follows .mixedOrders=true)(htab:tab.Ok P)(hc:BQ P B σ h w){f:FuncId}{args:List Value}{as:Array Value}(hl:WG σ args as.toList)
  (hx:WC P tab f args h fun r _=>r=.bool true):Calls P f as w fun e w'=>e=.returned (.bool true)/\Below B w w':=by
 unfold WC at hx;obtain⟨v,h',rfl,ev⟩:=hx;obtain⟨n,hn⟩:=ev.get;exact zLX hmix htab (n:=n) (by rw[hn];rfl) hc.rel hl
theorem zC4{t:TypeId}{v:Value}{d:DataW H}{p:List MemPlace}(hd:DataW.Trod enc P w 0 (fun _=>true) true t v d p)(m:Nat)(hm:Yp P m t=true)(hc:BQ P B σ h w):
  ∃ (σ':Nat->Option Pl) (h':Uy) (acs:List Value),BQ P B σ' h' w/\Ext h h'/\Le σ σ'/\WG σ' acs v.cells.toList/\Rd P h' t acs d:=by
 obtain⟨n,hn⟩:=hd;exact zIK n t _ _ hn m hm σ h hc
theorem zH1{σ:Nat->Option Pl}{av v:Value}(hl:WG σ [av] v.cells.toList)(hv:v.cells.toList=[v]):U2 σ av v:=by
 rw[hv]at hl;exact hl.2 0 _ _ rfl rfl
theorem Zp{t:TypeId}{k:IntKind}{acs:List Value}{d:DataW H}(r:Rd P h t acs d)(ht:P.underlying t=some (.int k)):∃ n,acs=[.int k n]/\(Lit.int k n).wf=true:=by
 cases r with
 |int n ht' wf=>rw[ht]at ht';cases ht';exact⟨n,rfl,wf⟩
 |bool _ ht'=>rw[ht]at ht';cases ht'
 |string _ ht'=>rw[ht]at ht';cases ht'
 |snil ht'=>rw[ht]at ht';cases ht'
 |szero _ _ ht'=>rw[ht]at ht';cases ht'
 |slice _ _ _ _ ht'=>rw[ht]at ht';cases ht'
 |struct _ _ ht'=>rw[ht]at ht';cases ht'
 |array _ _ ht'=>rw[ht]at ht';cases ht'
theorem zE2{t e:TypeId}{acs:List Value}{d:DataW H}(r:Rd P h t acs d)(ht:P.underlying t=some (.slice e)):
  (acs=[.slice none 0 0]/\d=.nil)\/(∃ a sp,acs=[.slice (some a) 0 (P.cellsOf e)]/\d=.slice [] sp)\/
  ∃ g cells elems sp,acs=[.slice (some ⟨g,0,none⟩) elems.length (P.cellsOf e)]/\d=.slice elems sp/\h.get g=some (.row cells false 0)/\g<h.n/\cells.length=elems.length*P.cellsOf e/\elems.length<=maxLen/\
   ∀ (i:Nat) (d:DataW H),elems[i]?=some d->Rd P h e ((cells.drop (i*P.cellsOf e)).take (P.cellsOf e)) d:=by
 cases r with
 |int n ht' wf=>rw[ht]at ht';cases ht'
 |bool _ ht'=>rw[ht]at ht';cases ht'
 |string _ ht'=>rw[ht]at ht';cases ht'
 |snil ht'=>exact .inl ⟨rfl,rfl⟩
 |szero a sp ht'=>rw[ht]at ht';cases ht';exact .inr (.inl ⟨a,sp,rfl,rfl⟩)
 |slice g cells elems sp ht' hg hn hl hm hr=>rw[ht]at ht';cases ht';exact .inr (.inr ⟨g,cells,elems,sp,rfl,rfl,hg,hn,hl,hm,hr⟩)
 |struct _ _ ht'=>rw[ht]at ht';cases ht'
 |array _ _ ht'=>rw[ht]at ht';cases ht'
theorem zOi{t e:TypeId}{acs:List Value}{d:DataW H}(r:Rd P h t acs d)(ht:P.underlying t=some (.slice e))(he:P.underlying e=some (.int .i64))(hc:P.cellsOf e=1):
  ∃ av l,acs=[av]/\WH h av l/\(l.length:Int)<=9223372036854775807/\∀ a∈l,(Lit.int .i64 a).wf=true:=by
 rcases zE2 r ht with⟨rfl,_⟩|⟨a,sp,rfl,_⟩|⟨g,cells,elems,sp,rfl,rfl,hg,hn,hl,hm,hr⟩
 ·exact⟨_,[],rfl,WH.nil h,by simp,fun a ha=>by cases ha⟩
 ·refine⟨_,[],rfl,?_,by simp,fun a ha=>by cases ha⟩;exact⟨by simp,.inl ⟨rfl,.inr ⟨_,_,rfl⟩⟩⟩
 ·rw[hc]at hl hr |-;simp only[JC]at hl hr;have key:∀ i,i<cells.length->∃ n,cells[i]?=some (I n)/\(Lit.int .i64 n).wf=true:=fun i hi=>by
   have hd:elems[i]?=some (elems[i]'(by omega)):=QB _;obtain⟨n,e1,e2⟩:=Zp (hr i _ hd) he;rw[GL hi,Qp,Q4]at e1;exact⟨n,by rw[QB hi];simpa using e1,e2⟩
  obtain⟨l,rfl,hw⟩:∃ l:List Int,cells=l.map I/\∀ a∈l,(Lit.int .i64 a).wf=true:=by
   clear hg hl hr;induction cells with
   |nil=>exact⟨[],rfl,fun a ha=>by cases ha⟩
   |cons x xs ih=>
    obtain⟨n,e1,e2⟩:=key 0 (by simp);obtain⟨l,rfl,e3⟩:=ih fun i hi=>by
     have:=key (i+1) (by simpa using hi);simpa using this
    simp at e1;subst e1;exact⟨n::l,rfl,fun a ha=>by
     rcases GH.1 ha with rfl|ha
     ·exact e2
     ·exact e3 a ha⟩
  have hle:elems.length=l.length:=by simpa using hl.symm
  rw[hle];refine⟨_,l,rfl,WH.own hn hg,?_,hw⟩;unfold maxLen at hm;omega
theorem zJN{t:TypeId}{v:Value}{r:Reach}{base:Nat}(ht:(∃ n e,P.underlying t=some (.array n e))\/∃ fs,P.underlying t=some (.struct fs))(hv:Value.okWide P w r base t v):∃ cs,v=.agg cs:=by
 unfold Value.okWide at hv;rcases ht with⟨n,e,ht⟩|⟨fs,ht⟩
 ·rw[ht]at hv;obtain⟨cs,h1,_⟩:=hv;exact⟨cs,h1⟩
 ·rw[ht]at hv;obtain⟨cs,h1,_⟩:=hv;exact⟨cs,h1⟩
theorem zOY{σ:Nat->Option Pl}{l:List Value}{cs:Array Value}(hl:WG σ l (Value.agg cs).cells.toList):U2 σ (.agg l.toArray) (.agg cs):=by
 have:=Ve hl;simpa [Value.cells]using this
end
def zED{H:Type}:Nat->DataW H->List Value
 |_,.lit (.bool b)=>[.bool b]
 |_,.lit (.int k n)=>[.int k n]
 |n+1,.agg parts=>(parts.map (zED n)).flatten
 |_,_=>[]
def zCR(P:Program):Nat->TypeId->Bool
 |0,_=>false
 |n+1,t=>match P.underlying t with
  |some .bool|some (.int _)=>true
  |some (.struct fs)=>(match zA1 P fs.toList 0 with|some m=>Nat.beq m (P.cellsOf t)|none=>false)&&fs.toList.all fun f=>zCR P n f.type
  |some (.array m e)=>Nat.beq (m*P.cellsOf e) (P.cellsOf t)&&zCR P n e
  |_=>false
theorem zEN:∀ (sz:List Nat) (as:List (List Value)) (cs:List Value),sz.sum=cs.length->as.length=sz.length->
  (∀ (i:Nat) a s,as[i]?=some a->sz[i]?=some s->a=(cs.drop (sz.take i).sum).take s)->as.flatten=cs
 |[],[],cs,hs,_,_=>by
  have:cs=[]:=Gi.1 (by simpa using hs.symm);subst this;rfl
 |[],_::_,_,_,hl,_=>by simp at hl
 |_::_,[],_,_,hl,_=>by simp at hl
 |s::sz,a::as,cs,hs,hl,h=>by
  have h0:=h 0 a s rfl rfl;simp only[Q4,List.sum_nil,Q5]at h0;have ih:=zEN sz as (cs.drop s) (by simp at hs;simp;omega) (by simpa using hl) (fun i x y hx hy=>by
   have:=h (i+1) x y (by simpa using hx) (by simpa using hy);simpa [List.drop_drop]using this)
  rw[GT,ih,h0,GQ]
section
variable {P:Program}{H:Type}{enc:TypeId×Value->H}{w:World}{B base:Nat}{spare:Nat->Bool}{held:Bool}
theorem zNa:∀ (n:Nat) (t:TypeId) (cs:List Value) (x:DataW H×List MemPlace),DataW.trod enc P w base spare held n t cs=some x->∀ m,zCR P m t=true->cs=zED m x.1:=by
 intro n;induction n with
 |zero=>intro t cs x hx;simp[DataW.trod]at hx
 |succ n ih=>
  intro t cs x hx m hm;cases m with
  |zero=>cases hm
  |succ m=>
  cases hu:P.underlying t with
  |none=>simp[zCR,hu]at hm
  |some u=>
  cases u with
  |bool=>obtain⟨b,rfl,rfl⟩:=DataW.trod_bool hu hx;rfl
  |int k=>obtain⟨b,rfl,rfl,_⟩:=DataW.trod_int hu hx;rfl
  |struct fs=>
   obtain⟨xs,n',e,rfl,hl,hxs,hf⟩:=DataW.trod_struct hu hx;cases e;simp only[zCR,hu,QJ,Qa]at hm;obtain⟨hm1,hm2⟩:=hm;cases hcon:zA1 P fs.toList 0 with
   |none=>simp[hcon]at hm1
   |some q=>
   simp only[hcon]at hm1;have hq:=QM hm1;obtain⟨c1,c2⟩:=zA7 hcon;simp only[zED];refine(zEN (fs.toList.map fun f=>P.cellsOf f.type) _ cs (by omega) (by simp[hxs]) fun i a s ha hs=> ?_).symm;simp only[GS,QO]at ha hs;obtain⟨d,⟨y,hy,rfl⟩,rfl⟩:=ha;obtain⟨f,hfi,rfl⟩:=hs;have h1:=hf i f (by simpa using hfi);rw[hy]at h1;have:=c2 i f hfi;rw[GF]at this;rw[<-this];exact(ih _ _ _ h1 m (hm2 f (Gg hfi))).symm
  |array k e=>
   obtain⟨xs,n',e',rfl,hl,hxs,hf⟩:=DataW.trod_array hu hx;cases e';simp only[zCR,hu,QJ]at hm;obtain⟨hm1,hm2⟩:=hm;have hq:=QM hm1;simp only[zED];have hsum:∀ i,i<=k->((List.replicate k (P.cellsOf e)).take i).sum=i*P.cellsOf e:=fun i hi=>by
    rw[List.take_replicate,List.sum_replicate_nat,Gd hi]
   refine(zEN (List.replicate k (P.cellsOf e)) _ cs (by rw[List.sum_replicate_nat];omega) (by simp[hxs]) fun i a s ha hs=> ?_).symm;simp only[GS,QO]at ha;obtain⟨d,⟨y,hy,rfl⟩,rfl⟩:=ha;have hik:i<k:=by have:=(QQ.1 hy).1;omega
   have hs':s=P.cellsOf e:=by rw[JD,QF hik]at hs;exact(GI hs).symm
   subst hs';have h1:=hf i hik;rw[hy]at h1;rw[hsum i (by omega)];exact(ih _ _ _ h1 m hm2).symm
  |_=>simp[zCR,hu]at hm
theorem zI6{nm:String}{g:Nat}{t:TypeId}{cs:Array Value}{n m:Nat}{d:DataW H}{p:List MemPlace}(hg:P.globalNamed nm=some g)(hv:w.var? P nm=some cs)
  (hd:DataW.trod enc P w base spare held n t cs.toList=some (d,p)) (hm:zCR P m t=true):∃ elem fr,w.heap[g]?=some (.cells (zED m d).toArray elem fr):=by
 have h1:=zNa n t _ _ hd m hm;simp only at h1;have h2:cs=(zED m d).toArray:=by rw[<-h1]
 unfold World.var? at hv;rw[hg,QZ]at hv;split at hv
 ·rename_i c elem fr hh;cases hv;exact⟨elem,fr,by rw[hh,h2]⟩
 ·cases hv
theorem zQC(hg:P.globals.size<=w.heap.size)(l:List (Nat×List Value))(hl:∀ x∈l,x.1<P.globals.size/\Ze x.2=true/\∃ elem fr,w.heap[x.1]?=some (.cells x.2.toArray elem fr)):
  BQ P w.heap.size (s0 P w) (zBG P.globals.size l) w:=by
 refine⟨⟨fun g h=>⟨⟨g,0,match w.heap[g]? with|some (.cells c _ _)=>c.size|_=>0⟩,QF h,rfl,rfl⟩,fun g pl hp=> ?_,fun g o hg=> ?_,fun g o g' o' pl pl' hg hg' hne hp hp' hb=> ?_,QE _⟩,fun g o hg=> ?_,fun g hn=> ?_⟩
 ·unfold s0 at hp;split at hp
  ·cases hp;exact⟨by rw[zGU];assumption,by show g<w.heap.size;omega⟩
  ·cases hp
 ·obtain⟨cells,a,rfl⟩:=Yg _ l g o hg;obtain⟨b1,b2,elem,fr,b3⟩:=hl _ a;refine⟨⟨g,0,match w.heap[g]? with|some (.cells c _ _)=>c.size|_=>0⟩,QF b1,?_,fun e=>by cases e⟩;refine⟨_,elem,fr,b3,by simp[b3],by simp only[b3];simp,fun i x hx=> ?_,fun e=>by cases e⟩;exact⟨x,by simpa using hx,VP _ (Qa.1 b2 x (Gg hx))⟩
 ·obtain⟨c,a,rfl⟩:=Yg _ l g o hg;obtain⟨c',a',rfl⟩:=Yg _ l g' o' hg';exact⟨fun⟨x,_⟩=>Bool.noConfusion x,fun x=>Bool.noConfusion x,fun x=>Bool.noConfusion x⟩
 ·obtain⟨c,a,rfl⟩:=Yg _ l g o hg;exact⟨_,_,rfl⟩
 ·cases hq:(zBG P.globals.size l).get g with
  |none=>rfl
  |some o=>
   obtain⟨c,a,rfl⟩:=Yg _ l g o hq;rw[zGU]at hn;have:=(hl _ a).1;simp only at this;omega
end
end Go.Am
