/- A part of the machine and of its soundness; proves no statement. -/
import Derived.Test.YtndffgfnndoifaaGreatDoorAmD
set_option linter.all false
namespace Go.Am
def Wv(h:WA)(v:Value)(j:Nat)(cs:List Value):Prop:=
 ∀ (P:Program) (ih:Ex) (t:WG Value) (x:Operand) (agg:Bool) (n off:Nat) (r:Value),ev t x=yH v (j+off)->0<n->(cut cs off n).bind (zI agg)=some r->WK P ih t h (.load agg n x)=some (r,h)
def W7{α:Type}(c:Nat)(R:WA->List Value->α->Prop)(h:WA)(v:Value)(l:List α):Prop:=
 ∃ cells,Wm c h v l.length cells/\∀ (i:Nat) (a:α),l[i]?=some a->R h ((cells.drop (i*c)).take c) a
section
variable {α:Type}{c:Nat}{R:WA->List Value->α->Prop}{h h':WA}{v:Value}{l:List α}{P:Program}{ih:Ex}{t:WG Value}
def W7.ext(hR:∀ cs a,R h cs a->R h' cs a)(s:W7 c R h v l)(e:WH h h'):W7 c R h' v l:=
 let⟨cells,a,b⟩:=s;⟨cells,a.ext e,fun i x hx=>hR _ _ (b i x hx)⟩
def W7.nil:W7 c R h (.slice none 0 0) []:=⟨[],Wm.nil c h,fun i a ha=>by simp at ha⟩
def Xj{x:Operand}(hx:ev t x=v)(s:W7 c R h v l):WK P ih t h (.len x)=some (I l.length,h):=let⟨_,a,_⟩:=s;zFG a hx
def Xh{x y:Operand}{i:Nat}(hx:ev t x=v)(hy:BX (ev t y)=some i)(s:W7 c R h v l)(hi:i<l.length):WK P ih t h (.idx c x y)=some (yH v (i*c),h):=
 let⟨_,a,_⟩:=s;zMl a hx hy hi
def W7.some{i:Nat}(s:W7 c R h v l)(hi:i<l.length):∃ a k m,v=.slice (some a) k m:=let⟨_,a,_⟩:=s;a.some hi
def fldP{x:Operand}{off j:Nat}(hx:ev t x=yH v j)(hv:∃ a k m,v=.slice (Option.some a) k m):WK P ih t h (.fld off x)=Option.some (yH v (j+off),h):=zSc hx hv
def W7.at{i:Nat}(s:W7 c R h v l)(hi:i<l.length):∃ cs,R h cs l[i]/\cs.length=c/\Wv h v (i*c) cs:=by
 obtain⟨cells,a,b⟩:=s;have hlen:cells.length=l.length*c:=a.1;have hle:i*c+c<=cells.length:=by
  rw[hlen,<-Gw];exact GH _ hi
 refine⟨_,b i l[i] (QB hi),by simp;omega,?_⟩;intro P ih t x agg n off r hx hn hr;cases hc:cut ((cells.drop (i*c)).take c) off n with
 |none=>rw[hc]at hr;cases hr
 |some m=>
  rw[hc]at hr;have h1:cut cells (i*c) c=Option.some ((cells.drop (i*c)).take c):=yz hle;exact zFv a hx (zGI h1 hc) hn hr
def Wv.load{x:Operand}{agg:Bool}{n off j:Nat}{r:Value}{cs:List Value}(hx:ev t x=yH v (j+off))(p:Wv h v j cs)(hn:0<n)(hr:(cut cs off n).bind (zI agg)=Option.some r):
  WK P ih t h (.load agg n x)=Option.some (r,h):=p P ih t x agg n off r hx hn hr
def Vw{x:Operand}{agg:Bool}{n j:Nat}{r:Value}{cs:List Value}(hx:ev t x=yH v j)(p:Wv h v j cs)(hn:0<n)(hr:(cut cs 0 n).bind (zI agg)=Option.some r):
  WK P ih t h (.load agg n x)=Option.some (r,h):=p P ih t x agg n 0 r hx hn hr
end
section
variable {P:Program}{tab:Ws}
def inC(h:WA):WA:={h with mark:=h.n,wr:=[]}
def zK3(o:WE)(ws:List (Nat×Nat))(rs:List (Nat×Nat×Option (Nat×Nat×List Value)))(bs:List (Nat×Nat))(t:WG Value)(h':WA):
  ((match zc t o with
   |some g=>(ws.all fun x=> !(Nat.beq g x.2&&([]:List Nat).contains x.1))&&bs.all fun x=> !([]:List Nat).contains x.1||Nat.ble (g+1) x.2
   |none=>true)&&rs.all fun x=> !(([]:List Nat).contains x.1&&h'.wr.contains x.2.1)||zCi h' x.2.1 x.2.2)=true:=by
 cases zc t o<;>simp
def yj{h:WA}{g x:Nat}(hx:x∈h.log g):x=g\/x∈h.wr:=by
 unfold WA.log at hx;cases hb:Nat.ble h.mark g with
 |true=>rw[hb]at hx;exact .inr hx
 |false=>rw[hb]at hx;exact Qt.1 hx
def zEV(ops:List (WE×List Nat)):Nat:=(ops.filter fun x=>Nat.beq (zE x.1.op) 3).length
end
section
variable {P:Program}{tab:Ws}{m:Nat}{l:List WE}{o:WE}{g:Nat}{fr:WM}{h h0 h':WA}{Q:WM->WA->Prop}{K:WL->WM->WA->Prop}
def z9(h h':WA):WA:={h' with mark:=h.mark,wr:=h.wr}
def WH.wrnil(e:WH (Am.inC h) h'):h'.wr=[]:=e.wr (QF _)
def SJ(K:WL->WM->WA->Prop)(h:WA):WM->WA->Prop:=fun ae h'=>K .normal ae (Am.z9 h h')
end
def Wm.shape{c n:Nat}{h:WA}{v:Value}{cells:List Value}(s:Wm c h v n cells):∃ a n k,v=.slice a n k:=by
 rcases s.2 with⟨_,rfl|⟨a,k,rfl⟩⟩|⟨g,off,row,rfl,_⟩
 ·exact⟨_,_,_,rfl⟩
 ·exact⟨_,_,_,rfl⟩
 ·exact⟨_,_,_,rfl⟩
section
variable {P:Program}{tab:Ws}{t:WG Value}{h h0:WA}{ds:List Deferred}{rd:Option Nat}{l:List WE}{Q:WM->WA->Prop}
def Wo(p:Value)(h h':WA):Prop:=h.n<=h'.n/\∀ g,g<h.n->p≠ .pointer (some ⟨g,0,none⟩)->h'.get g=h.get g
def Vt{x y:Operand}{p v:Value}{cells cs:List Value}{j n:Nat}(hx:ev t x=yJ p j)(hy:ev t y=v)(hv:v.cells=cs.toArray)(h1:zK cs=true)(hn:cs.length=n)(o:WB h0 h p cells)(e0:WH h0 h)(hl:j+n<=cells.length)
  (k:∀ h',WH h0 h'->WB h0 h' p (zX cells j cs)->Wo p h h'->WO P tab l ⟨t,ds,rd⟩ h' Q):WO P tab (⟨none,none,.store n x y⟩::l) ⟨t,ds,rd⟩ h Q:=by
 obtain⟨g,g1,g2,rfl,g3⟩:=o;subst hn;have aL:zk h ⟨g,j,none⟩ cs=some (h.set g (.row (zX cells j cs) true 0)):=by
  have h2:Nat.ble (j+cs.length) cells.length=true:=QK hl;have h0:Nat.ble 0 j=true:=QK (QQ _);simp only[zk,g3,h2,h0,h1,GC];rfl
 refine VR undef (h.set g (.row (zX cells j cs) true 0)) rfl ?_ (k _ (e0.set g1 g2 _) ⟨g,g1,g2,rfl,by rw[zn,QJ rfl]⟩ ⟨QF _,fun k _ hk=> ?_⟩)
 ·simp only[WK,hx,yJ,hy,Q8,hv,G2,Gl,aL,QL,cond_true]
 ·rw[zn,QC (fun e=>hk (by rw[e]))]
def XH{x y:Operand}{p v:Value}{cells cs:List Value}{n:Nat}(hx:ev t x=p)(hy:ev t y=v)(hv:v.cells=cs.toArray)(h1:zK cs=true)(hn:cs.length=n)(o:WB h0 h p cells)(e0:WH h0 h)(hl:cells.length=n)
  (k:∀ h',WH h0 h'->WB h0 h' p cs->Wo p h h'->WO P tab l ⟨t,ds,rd⟩ h' Q):WO P tab (⟨none,none,.store n x y⟩::l) ⟨t,ds,rd⟩ h Q:=by
 refine Vt (hx.trans o.at0) hy hv h1 hn o e0 ω fun h' a b c=>k h' a ?_ c;have e:zX cells 0 cs=cs:=by simp[zX,hn,hl]
 rwa [e]at b
end
def yL:WT->List Nat
 | .region ops=>ops.filterMap (·.dst)
 | .regionC ops=>ops.filterMap (·.1.dst)
 | .seq a b=>yL a++yL b
 | .cond _ a b=>yL a++yL b
 | .block _ b| .loop b| .scope b=>yL b
 |_=>[]
section
variable {P:Program}{ih:Ex}
def zCS{d:Option Nat}{fr:WM}{v:Value}{j:Nat}(hj:d≠some j):zC (val d fr v).tm j=zC fr.tm j:=by
 cases d with
 |none=>rfl
 |some d=>simp only[val,zg];rw[QC (fun e=>hj (by rw[e]))]
def zEs{o:WE}{fr ae:WM}{h h':WA}(hx:yO P ih o fr h=some (ae,h')){j:Nat}(hj:o.dst≠some j):zC ae.tm j=zC fr.tm j:=by
 unfold yO at hx;cases hw:zP fr.tm o.guard with
 |false=>
  simp only[hw,QU,QA,QE]at hx;obtain⟨rfl,_⟩:=hx;exact zCS hj
 |true=>
  simp only[hw,cond_true]at hx;cases hv:zy P ih fr.tm fr.round h o.op with
  |none=>simp[hv]at hx
  |some p=>
   obtain⟨v,ds,h1⟩:=p;simp only[hv,QA,QE]at hx;obtain⟨rfl,_⟩:=hx;exact zCS (fr:={fr with dfs:=ds++fr.dfs}) hj
def zD8:∀ {l:List WE} {fr ae:WM} {h h':WA},yd P ih l fr h=some (ae,h')->∀ {j:Nat},j∉l.filterMap (·.dst)->zC ae.tm j=zC fr.tm j:=by
 intro l;induction l with
 |nil=>intro fr ae h h' hx j _;simp only[yd,QA,QE]at hx;obtain⟨rfl,_⟩:=hx;rfl
 |cons o l cj=>
  intro fr ae h h' hx j hj;simp only[yd]at hx;cases ho:yO P ih o fr h with
  |none=>simp[ho]at hx
  |some p=>
   obtain⟨a6,h1⟩:=p;simp only[ho]at hx;have h1:o.dst≠some j:=fun e=>hj (G9.2 ⟨o,QR ..,e⟩);have h2:j∉l.filterMap (·.dst):=fun e=>by
    obtain⟨a,b,c⟩:=G9.1 e;exact hj (G9.2 ⟨a,QW _ b,c⟩)
   exact(cj hx h2).trans (zEs ho h1)
def zIC{g:Nat}{o:WE}{fr ae:WM}{h h':WA}(hx:yC P ih g o fr h=some (ae,h')){j:Nat}(hj:o.dst≠some j):zC ae.tm j=zC fr.tm j:=by
 unfold yC at hx;cases hk:Nat.beq (zE o.op) 3 with
 |false=>simp only[hk,QU]at hx;exact zEs hx hj
 |true=>
  simp only[hk,cond_true]at hx;cases hw:zP fr.tm o.guard with
  |false=>simp only[hw,QU,QA,QE]at hx;obtain⟨rfl,_⟩:=hx;exact zCS hj
  |true=>
   simp only[hw,cond_true]at hx;cases hm:yh fr.tm o.op with
   |none=>simp[hm]at hx
   |some p=>simp only[hm,QA,QE]at hx;obtain⟨rfl,_⟩:=hx;exact zCS hj
def zGo:∀ {l:List (WE×List Nat)} {i g:Nat} {ws:List (Nat×Nat)} {rs:List (Nat×Nat×Option (Nat×Nat×List Value))} {bs bG:List (Nat×Nat)} {fr ae:WM} {h h':WA},
  yD P ih l i g ws rs bs fr h=some (ae,h',bG)->∀ {j:Nat},j∉l.filterMap (·.1.dst)->zC ae.tm j=zC fr.tm j:=by
 intro l;induction l with
 |nil=>intro i g ws rs bs bG fr ae h h' hx j _;simp only[yD,QA,QE]at hx;obtain⟨rfl,_⟩:=hx;rfl
 |cons o l cj=>
  intro i g ws rs bs bG fr ae h h' hx j hj;obtain⟨o,un⟩:=o;simp only[yD]at hx;cases ho:yC P ih g o fr {h with mark:=h.n,wr:=[]} with
  |none=>simp[ho]at hx
  |some p=>
   obtain⟨a6,h1⟩:=p;simp only[ho]at hx;obtain⟨_,hx⟩:=yx hx;have h1:o.dst≠some j:=fun e=>hj (G9.2 ⟨(o,un),QR ..,e⟩);have h2:j∉l.filterMap (·.1.dst):=fun e=>by
    obtain⟨a,b,c⟩:=G9.1 e;exact hj (G9.2 ⟨a,QW _ b,c⟩)
   exact(cj hx h2).trans (zIC ho h1)
def zJX:∀ {c r:WT} {l:Nat},yG c l=some r->∀ j,j∈yL r->j∈yL c:=by
 intro c;induction c with
 |seq a b Lx Ly=>
  intro r l hx j hj;simp only[yG]at hx;cases ha:yG a l with
  |none=>rw[ha]at hx;exact GY _ (Ly hx j hj)
  |some q=>
   rw[ha]at hx;simp only[QA]at hx;subst hx;rcases Qf.1 hj with h|h
   ·exact GV _ (Lx ha j h)
   ·exact GY _ h
 |label l'=>intro r l hx j hj;simp only[yG]at hx;split at hx<;>cases hx;cases hj
 |_=>intro r l hx;cases hx
def zFE(ih:Ex):Prop:=∀ c fr h e ae h',ih.exec c fr h=some (e,ae,h')->∀ j,j∉yL c->zC ae.tm j=zC fr.tm j
def zIV(hi:zFE ih){b:WT}:∀ (n:Nat) {c:WT} {fr ae:WM} {h h':WA} {e:WL},Z5 ih n b c fr h=some (e,ae,h')->∀ j,j∉yL b->j∉yL c->zC ae.tm j=zC fr.tm j:=by
 intro n;induction n with
 |zero=>intro c fr ae h h' e hx;cases hx
 |succ n k8=>
  intro c fr ae h h' e hx j hb hc;simp only[Z5]at hx;cases he:ih.exec c fr h with
  |none=>simp[he]at hx
  |some p=>
   obtain⟨e0,bX,h0⟩:=p;have g0:=hi _ _ _ _ _ _ he j hc;rw[he]at hx;cases e0 with
   |goto l=>
    simp only at hx;cases hf:yG b l with
    |none=>simp only[hf,QA,QE]at hx;obtain⟨_,rfl,_⟩:=hx;exact g0
    |some rest=>simp only[hf]at hx;exact(k8 hx j hb (fun hj=>hb (zJX hf j hj))).trans g0
   |_=>simp only[QA,QE]at hx;obtain⟨_,rfl,_⟩:=hx;exact g0
def zDN{f:Value}{ps:List Nat}{a b:WT}{fr ae:WM}{d:Nat}{mark:List Deferred}{h h':WA}{e:WL}(hx:zAl ih f ps a b fr d mark h=some (e,ae,h')):ae.tm=fr.tm:=by
 unfold zAl at hx;split at hx
 ·cases hx
 ·split at hx
  ·repeat' split at hx
   all_goals first
    |(cases hx;done)
    |(simp only[QA,QE]at hx;obtain⟨_,rfl,_⟩:=hx;rfl)
  ·cases hx
def zJl(hi:zFE ih):zFE ⟨zo P ih,ih.call⟩:=by
 intro c fr h e ae h' cw j hj;have hx:zo P ih c fr h=some (e,ae,h'):=cw;clear cw;have one:∀ {a:WT},j∉yL a->∀ {fr:WM} {h:WA} {e:WL} {ae:WM} {h':WA},ih.exec a fr h=some (e,ae,h')->zC ae.tm j=zC fr.tm j:=by
  intro a ha fr h e ae h' hh;exact hi _ _ _ _ _ _ hh j ha
 cases c with
 |region ops=>
  simp only[zo,QT,QE]at hx;obtain⟨⟨a6,h1⟩,hx,_,rfl,_⟩:=hx;exact zD8 hx hj
 |regionC ops=>
  simp only[zo,QT,QE]at hx;obtain⟨⟨a6,h1⟩,hx,_,rfl,_⟩:=hx;unfold YZ at hx;cases hc:yD P ih ops 0 h.n [] [] [] fr {h with n:=h.n+(ops.filter fun x=>Nat.beq (zE x.1.op) 3).length} with
  |none=>simp[hc]at hx
  |some p=>
   obtain⟨gB,h2,ws⟩:=p;simp only[hc,QA,QE]at hx;obtain⟨rfl,_⟩:=hx;exact zGo hc hj
 |seq a b=>
  have ha:j∉yL a:=fun q=>hj (GV _ q);have hb:j∉yL b:=fun q=>hj (GY _ q);simp only[zo]at hx;cases he:ih.exec a fr h with
  |none=>simp[he]at hx
  |some p=>
   obtain⟨e0,bX,h0⟩:=p;have g0:=one ha he;rw[he]at hx;cases e0 with
   |normal=>exact(one hb hx).trans g0
   |_=>simp only[QA,QE]at hx;obtain⟨_,rfl,_⟩:=hx;exact g0
 |cond t a b=>
  have ha:j∉yL a:=fun q=>hj (GV _ q);have hb:j∉yL b:=fun q=>hj (GY _ q);simp only[zo]at hx;split at hx
  ·exact one ha hx
  ·exact one hb hx
  ·cases hx
 |block id b=>
  have hb:j∉yL b:=hj;simp only[zo]at hx;cases he:ih.exec b fr h with
  |none=>simp[he]at hx
  |some p=>
   obtain⟨e0,bX,h0⟩:=p;have g0:=one hb he;rw[he]at hx;cases e0 with
   |exit eI=>simp only at hx;split at hx<;>(simp only[QA,QE]at hx;obtain⟨_,rfl,_⟩:=hx;exact g0)
   |_=>simp only[QA,QE]at hx;obtain⟨_,rfl,_⟩:=hx;exact g0
 |loop b=>
  have hb:j∉yL b:=hj;simp only[zo]at hx;cases he:ih.exec b fr h with
  |none=>simp[he]at hx
  |some p=>
   obtain⟨e0,bX,h0⟩:=p;have g0:=one hb he;rw[he]at hx;cases e0 with
   |normal=>exact(one (a:= .loop b) hb hx).trans g0
   |_=>simp only[QA,QE]at hx;obtain⟨_,rfl,_⟩:=hx;exact g0
 |scope b=>exact zIV hi _ hx j hj hj
 |rangeFunc f ps a b=>
  simp only[zo]at hx;unfold zBa at hx;split at hx
  ·rw[zDN hx]
  ·split at hx
   ·rw[zDN hx]
   ·cases hx
 |_=>simp only[zo,QA,QE]at hx;obtain⟨_,rfl,_⟩:=hx;rfl
end
def zHQ{P:Program}{tab:Ws}:∀ n,zFE (BE P tab n)
 |0=>fun c fr h e ae h' hx=>by cases hx
 |n+1=>fun c fr h e ae h' hx=>zJl (P:=P) (zHQ n) c fr h e ae h' hx
section
variable {P:Program}{tab:Ws}
def WX.frame{c:WT}{fr:WM}{h:WA}{K:WL->WM->WA->Prop}(hx:WX P tab c fr h K):WX P tab c fr h fun e ae h'=>(∀ j,j∉yL c->zC ae.tm j=zC fr.tm j)/\K e ae h':=by
 unfold WX at *;obtain⟨e,ae,h',k,ev⟩:=hx;refine⟨e,ae,h',⟨?_,k⟩,ev⟩;unfold Ev at ev;obtain⟨N,a⟩:=ev;exact zHQ N _ _ _ _ _ _ (a N (QF _))
def zUw(ws:List Nat)(t0 t:WG Value):Prop:=∀ j,ws.contains j=false->zC t j=zC t0 j
def Xl{α:Type}(μ:α->Nat)(I:α->WG Value->WA->Prop)(x:α){b t0 ds rd h K}(h0:I x t0 h)
  (hb:∀ x t h,zUw (yL b) t0 t->I x t h->WX P tab b ⟨t,ds,rd⟩ h (zDa μ I x ds rd K)):WX P tab (.loop b) ⟨t0,ds,rd⟩ h K:=by
 refine WX.loop μ (fun x t h=>zUw (yL b) t0 t/\I x t h) x ⟨fun _ _=>rfl,h0⟩ fun y t h ⟨hs,hi⟩=> ?_;refine(WX.frame (hb y t h hs hi)).mono fun e fr h ⟨hf,hk⟩=> ?_;unfold zDa at hk |-;cases e with
 |normal=>
  obtain⟨k1,k2,z,k3,k4⟩:=hk;exact⟨k1,k2,z,k3,fun j hj=>(hf j (by simpa using hj)).trans (hs j hj),k4⟩
 |exit i=>exact hk
 |goto l=>exact hk
 |ret=>exact hk
end
section
variable {H:Type}{P:Program}{h:WA}
def zRp{α:Type}{p:Nat->α->Prop}:∀ n,(∀ i,i<n->∃ a,p i a)->∃ l:List α,l.length=n/\∀ (i:Nat) (a:α),l[i]?=some a->p i a:=by
 intro n;induction n with
 |zero=>exact fun _=>⟨[],rfl,fun i a ha=>by simp at ha⟩
 |succ n ih=>
  intro hx;obtain⟨l,hl,hp⟩:=ih fun i hi=>hx i ω;obtain⟨a,ha⟩:=hx n ω;refine⟨l++[a],by simp[hl],fun i b hb=> ?_⟩;by_cases hi:i<n
  ·rw[Qg ω]at hb;exact hp i b hb
  ·rw[Qk ω,hl]at hb;have:i=n:=by
    have:=(QS.1 hb).1;simp at this;omega
   subst this;simp at hb;subst hb;exact ha
end
end Go.Am
