/- A part of the abstract machine for the model's programs and of the proof that what it yields the model's call yields (definitions, operations, runs, regions that draw their order); no statement of the seat is proved in this text. -/
import Derived.Test.YtmejfcakhpihlaaGreatDoorAmD
set_option linter.unusedVariables false
set_option linter.unusedSimpArgs false
namespace Go.Am
def Wr (h:U0)(v:Value)(j:Nat)(cs:List Value):Prop:=
 ∀ (P:Program) (ih:Ex) (t:U5 Value) (x:Operand) (agg:Bool) (n off:Nat) (r:Value),ev t x=yM v (j+off)->0<n->(cut cs off n).bind (zH agg)=some r->WA P ih t h (.load agg n x)=some (r,h)
def Wz {α:Type}(c:Nat)(R:U0->List Value->α->Prop)(h:U0)(v:Value)(l:List α):Prop:=
 ∃ cells,WW c h v l.length cells/\∀ (i:Nat) (a:α),l[i]?=some a->R h ((cells.drop (i * c)).take c) a
section
variable {α:Type}{c:Nat}{R:U0->List Value->α->Prop}{h h':U0}{v:Value}{l:List α}{P:Program}{ih:Ex}{t:U5 Value}
theorem Wz.ext (hR:∀ cs a,R h cs a->R h' cs a)(s:Wz c R h v l)(e:U6 h h'):Wz c R h' v l:=
 let ⟨cells,a,b⟩:=s;⟨cells,a.ext e,fun i x hx=>hR _ _ (b i x hx)⟩
theorem Wz.nil:Wz c R h (.slice none 0 0) []:=⟨[],WW.nil c h,fun i a ha=>by simp at ha⟩
theorem Xd {x:Operand}(hx:ev t x=v)(s:Wz c R h v l):WA P ih t h (.len x)=some (I l.length,h):=let ⟨_,a,_⟩:=s;zDs a hx
theorem Xg {x y:Operand}{i:Nat}(hx:ev t x=v)(hy:W8 (ev t y)=some i)(s:Wz c R h v l)(hi:i<l.length):WA P ih t h (.idx c x y)=some (yM v (i * c),h):=
 let ⟨_,a,_⟩:=s;zKJ a hx hy hi
theorem Wz.some {i:Nat}(s:Wz c R h v l)(hi:i<l.length):∃ a k m,v= .slice (some a) k m:=let ⟨_,a,_⟩:=s;a.some hi
theorem fldP {x:Operand}{off j:Nat}(hx:ev t x=yM v j)(hv:∃ a k m,v= .slice (Option.some a) k m):WA P ih t h (.fld off x)=Option.some (yM v (j+off),h):=zSM hx hv
theorem Wz.at {i:Nat}(s:Wz c R h v l)(hi:i<l.length):∃ cs,R h cs l[i]/\cs.length=c/\Wr h v (i * c) cs:=by
 obtain⟨cells,a,b⟩:=s;have hlen:cells.length=l.length * c:=a.1;have hle:i * c+c<=cells.length:=by
  rw[hlen,<-JA];exact Gc _ hi
 refine⟨_,b i l[i] (QB hi),by simp;omega,?_⟩;intro P ih t x agg n off r hx hn hr;cases hc:cut ((cells.drop (i * c)).take c) off n with
 |none=>rw[hc]at hr;cases hr
 |some m=>
  rw[hc]at hr;have h1:cut cells (i * c) c=Option.some ((cells.drop (i * c)).take c):=ZB hle;exact zEv a hx (zEy h1 hc) hn hr
theorem Wr.load {x:Operand}{agg:Bool}{n off j:Nat}{r:Value}{cs:List Value}(hx:ev t x=yM v (j+off))(p:Wr h v j cs)(hn:0<n)(hr:(cut cs off n).bind (zH agg)=Option.some r):
  WA P ih t h (.load agg n x)=Option.some (r,h):=p P ih t x agg n off r hx hn hr
theorem Vq {x:Operand}{agg:Bool}{n j:Nat}{r:Value}{cs:List Value}(hx:ev t x=yM v j)(p:Wr h v j cs)(hn:0<n)(hr:(cut cs 0 n).bind (zH agg)=Option.some r):
  WA P ih t h (.load agg n x)=Option.some (r,h):=p P ih t x agg n 0 r hx hn hr
end
section
variable {P:Program}{tab:Wg}
def inC (h:U0):U0:={h with mark:=h.n,wr:=[]}
theorem zJx (o:U2)(ws:List (Nat×Nat))(rs:List (Nat×Nat×Option (Nat×Nat×List Value)))(bs:List (Nat×Nat))(t:U5 Value)(h':U0):
  ((match zY t o with
   |some g=>(ws.all fun x=> !(Nat.beq g x.2&&([]:List Nat).contains x.1))&&bs.all fun x=> !([]:List Nat).contains x.1||Nat.ble (g+1) x.2
   |none=>true)&&rs.all fun x=> !(([]:List Nat).contains x.1&&h'.wr.contains x.2.1)||zBj h' x.2.1 x.2.2)=true:=by
 cases zY t o<;>simp
theorem y8 {h:U0}{g x:Nat}(hx:x∈h.log g):x=g\/x∈h.wr:=by
 unfold U0.log at hx;cases hb:Nat.ble h.mark g with
 |true=>rw[hb]at hx;exact .inr hx
 |false=>rw[hb]at hx;exact GK.1 hx
def zC2 (ops:List (U2×List Nat)):Nat:=(ops.filter fun x=>Nat.beq (zE x.1.op) 3).length
end
section
variable {P:Program}{tab:Wg}{m:Nat}{l:List U2}{o:U2}{g:Nat}{fr:WB}{h h0 h':U0}{Q:WB->U0->Prop}{K:U9->WB->U0->Prop}
def yt (h h':U0):U0:={h' with mark:=h.mark,wr:=h.wr}
theorem U6.wrnil (e:U6 (Am.inC h) h'):h'.wr=[]:=e.wr (QE _)
def Bp (K:U9->WB->U0->Prop)(h:U0):WB->U0->Prop:=fun fr' h'=>K .normal fr' (Am.yt h h')
end
theorem WW.shape {c n:Nat}{h:U0}{v:Value}{cells:List Value}(s:WW c h v n cells):∃ a n k,v= .slice a n k:=by
 rcases s.2 with ⟨_,rfl|⟨a,k,rfl⟩⟩|⟨g,off,row,rfl,_⟩
 ·exact⟨_,_,_,rfl⟩
 ·exact⟨_,_,_,rfl⟩
 ·exact⟨_,_,_,rfl⟩
section
variable {P:Program}{tab:Wg}{t:U5 Value}{h h0:U0}{ds:List Deferred}{rd:Option Nat}{l:List U2}{Q:WB->U0->Prop}
def WZ (p:Value)(h h':U0):Prop:=h.n<=h'.n/\∀ g,g<h.n->p≠ .pointer (some ⟨g,0,none⟩)->h'.get g=h.get g
theorem Vm {x y:Operand}{p v:Value}{cells cs:List Value}{j n:Nat}(hx:ev t x=yB p j)(hy:ev t y=v)(hv:v.cells=cs.toArray)(h1:zK cs=true)(hn:cs.length=n)(o:U4 h0 h p cells)(e0:U6 h0 h)(hl:j+n<=cells.length)
  (k:∀ h',U6 h0 h'->U4 h0 h' p (za cells j cs)->WZ p h h'->WO P tab l ⟨t,ds,rd⟩ h' Q):WO P tab (⟨none,none,.store n x y⟩::l) ⟨t,ds,rd⟩ h Q:=by
 obtain⟨g,g1,g2,rfl,g3⟩:=o;subst hn;have hst:ze h ⟨g,j,none⟩ cs=some (h.set g (.row (za cells j cs) true 0)):=by
  have h2:Nat.ble (j+cs.length) cells.length=true:=QH hl;have h0:Nat.ble 0 j=true:=QH (QS _);simp only[ze,g3,h2,h0,h1,Q1];rfl
 refine VT undef (h.set g (.row (za cells j cs) true 0)) rfl ?_ (k _ (e0.set g1 g2 _) ⟨g,g1,g2,rfl,by rw[zj,QJ rfl]⟩ ⟨QE _,fun k _ hk=> ?_⟩)
 ·simp only[WA,hx,yB,hy,Q5,hv,Gw,Ge,hst,QL,cond_true]
 ·rw[zj,QC (fun e=>hk (by rw[e]))]
theorem V8 {x y:Operand}{p v:Value}{cells cs:List Value}{n:Nat}(hx:ev t x=p)(hy:ev t y=v)(hv:v.cells=cs.toArray)(h1:zK cs=true)(hn:cs.length=n)(o:U4 h0 h p cells)(e0:U6 h0 h)(hl:cells.length=n)
  (k:∀ h',U6 h0 h'->U4 h0 h' p cs->WZ p h h'->WO P tab l ⟨t,ds,rd⟩ h' Q):WO P tab (⟨none,none,.store n x y⟩::l) ⟨t,ds,rd⟩ h Q:=by
 refine Vm (hx.trans o.at0) hy hv h1 hn o e0 (by omega) fun h' a b c=>k h' a ?_ c;have e:za cells 0 cs=cs:=by simp[za,hn,hl]
 rwa [e]at b
end
def yE:U1->List Nat
 | .region ops=>ops.filterMap (·.dst)
 | .regionC ops=>ops.filterMap (·.1.dst)
 | .seq a b=>yE a++yE b
 | .cond _ a b=>yE a++yE b
 | .block _ b| .loop b| .scope b=>yE b
 |_=>[]
section
variable {P:Program}{ih:Ex}
theorem zBZ {d:Option Nat}{fr:WB}{v:Value}{j:Nat}(hj:d≠some j):zB (val d fr v).tm j=zB fr.tm j:=by
 cases d with
 |none=>rfl
 |some d=>simp only[val,zg];rw[QC (fun e=>hj (by rw[e]))]
theorem zDY {o:U2}{fr fr':WB}{h h':U0}(hx:yG P ih o fr h=some (fr',h')){j:Nat}(hj:o.dst≠some j):zB fr'.tm j=zB fr.tm j:=by
 unfold yG at hx;cases hw:zP fr.tm o.guard with
 |false=>
  simp only[hw,QR,QA,QD]at hx;obtain⟨rfl,_⟩:=hx;exact zBZ hj
 |true=>
  simp only[hw,cond_true]at hx;cases hv:zt P ih fr.tm fr.round h o.op with
  |none=>simp[hv]at hx
  |some p=>
   obtain⟨v,ds,h1⟩:=p;simp only[hv,QA,QD]at hx;obtain⟨rfl,_⟩:=hx;exact zBZ (fr:={fr with dfs:=ds++fr.dfs}) hj
theorem zCA:∀ {l:List U2} {fr fr':WB} {h h':U0},yV P ih l fr h=some (fr',h')->∀ {j:Nat},j∉l.filterMap (·.dst)->zB fr'.tm j=zB fr.tm j:=by
 intro l;induction l with
 |nil=>intro fr fr' h h' hx j _;simp only[yV,QA,QD]at hx;obtain⟨rfl,_⟩:=hx;rfl
 |cons o l ihl=>
  intro fr fr' h h' hx j hj;simp only[yV]at hx;cases ho:yG P ih o fr h with
  |none=>simp[ho]at hx
  |some p=>
   obtain⟨fr1,h1⟩:=p;simp only[ho]at hx;have h1:o.dst≠some j:=fun e=>hj (Gq.2 ⟨o,Qb ..,e⟩);have h2:j∉l.filterMap (·.dst):=fun e=>by
    obtain⟨a,b,c⟩:=Gq.1 e;exact hj (Gq.2 ⟨a,Qh _ b,c⟩)
   exact(ihl hx h2).trans (zDY ho h1)
theorem zHF {g:Nat}{o:U2}{fr fr':WB}{h h':U0}(hx:zw P ih g o fr h=some (fr',h')){j:Nat}(hj:o.dst≠some j):zB fr'.tm j=zB fr.tm j:=by
 unfold zw at hx;cases hk:Nat.beq (zE o.op) 3 with
 |false=>simp only[hk,QR]at hx;exact zDY hx hj
 |true=>
  simp only[hk,cond_true]at hx;cases hw:zP fr.tm o.guard with
  |false=>simp only[hw,QR,QA,QD]at hx;obtain⟨rfl,_⟩:=hx;exact zBZ hj
  |true=>
   simp only[hw,cond_true]at hx;cases hm:yb fr.tm o.op with
   |none=>simp[hm]at hx
   |some p=>simp only[hm,QA,QD]at hx;obtain⟨rfl,_⟩:=hx;exact zBZ hj
theorem zFD:∀ {l:List (U2×List Nat)} {i g:Nat} {ws:List (Nat×Nat)} {rs:List (Nat×Nat×Option (Nat×Nat×List Value))} {bs ws':List (Nat×Nat)} {fr fr':WB} {h h':U0},
  zx P ih l i g ws rs bs fr h=some (fr',h',ws')->∀ {j:Nat},j∉l.filterMap (·.1.dst)->zB fr'.tm j=zB fr.tm j:=by
 intro l;induction l with
 |nil=>intro i g ws rs bs ws' fr fr' h h' hx j _;simp only[zx,QA,QD]at hx;obtain⟨rfl,_⟩:=hx;rfl
 |cons o l ihl=>
  intro i g ws rs bs ws' fr fr' h h' hx j hj;obtain⟨o,un⟩:=o;simp only[zx]at hx;cases ho:zw P ih g o fr {h with mark:=h.n,wr:=[]} with
  |none=>simp[ho]at hx
  |some p=>
   obtain⟨fr1,h1⟩:=p;simp only[ho]at hx;obtain⟨_,hx⟩:=yl hx;have h1:o.dst≠some j:=fun e=>hj (Gq.2 ⟨(o,un),Qb ..,e⟩);have h2:j∉l.filterMap (·.1.dst):=fun e=>by
    obtain⟨a,b,c⟩:=Gq.1 e;exact hj (Gq.2 ⟨a,Qh _ b,c⟩)
   exact(ihl hx h2).trans (zHF ho h1)
theorem zH2:∀ {c r:U1} {l:Nat},z9 c l=some r->∀ j,j∈yE r->j∈yE c:=by
 intro c;induction c with
 |seq a b iha ihb=>
  intro r l hx j hj;simp only[z9]at hx;cases ha:z9 a l with
  |none=>rw[ha]at hx;exact GL _ (ihb hx j hj)
  |some q=>
   rw[ha]at hx;simp only[QA]at hx;subst hx;rcases Qi.1 hj with h|h
   ·exact GW _ (iha ha j h)
   ·exact GL _ h
 |label l'=>intro r l hx j hj;simp only[z9]at hx;split at hx<;>cases hx;cases hj
 |_=>intro r l hx;cases hx
def zDp (ih:Ex):Prop:=∀ c fr h e fr' h',ih.exec c fr h=some (e,fr',h')->∀ j,j∉yE c->zB fr'.tm j=zB fr.tm j
theorem zG3 (hi:zDp ih){b:U1}:∀ (n:Nat) {c:U1} {fr fr':WB} {h h':U0} {e:U9},Zp ih n b c fr h=some (e,fr',h')->∀ j,j∉yE b->j∉yE c->zB fr'.tm j=zB fr.tm j:=by
 intro n;induction n with
 |zero=>intro c fr fr' h h' e hx;cases hx
 |succ n ihn=>
  intro c fr fr' h h' e hx j hb hc;simp only[Zp]at hx;cases he:ih.exec c fr h with
  |none=>simp[he]at hx
  |some p=>
   obtain⟨e0,fr0,h0⟩:=p;have g0:=hi _ _ _ _ _ _ he j hc;rw[he]at hx;cases e0 with
   |goto l=>
    simp only at hx;cases hf:z9 b l with
    |none=>simp only[hf,QA,QD]at hx;obtain⟨_,rfl,_⟩:=hx;exact g0
    |some rest=>simp only[hf]at hx;exact(ihn hx j hb (fun hj=>hb (zH2 hf j hj))).trans g0
   |_=>simp only[QA,QD]at hx;obtain⟨_,rfl,_⟩:=hx;exact g0
theorem zCG {f:Value}{ps:List Nat}{a b:U1}{fr fr':WB}{d:Nat}{mark:List Deferred}{h h':U0}{e:U9}(hx:Yx ih f ps a b fr d mark h=some (e,fr',h')):fr'.tm=fr.tm:=by
 unfold Yx at hx;split at hx
 ·cases hx
 ·split at hx
  ·repeat' split at hx
   all_goals first
    |(cases hx;done)
    |(simp only[QA,QD]at hx;obtain⟨_,rfl,_⟩:=hx;rfl)
  ·cases hx
theorem zHb (hi:zDp ih):zDp ⟨zZ P ih,ih.call⟩:=by
 intro c fr h e fr' h' hx0 j hj;have hx:zZ P ih c fr h=some (e,fr',h'):=hx0;clear hx0;have one:∀ {a:U1},j∉yE a->∀ {fr:WB} {h:U0} {e:U9} {fr':WB} {h':U0},ih.exec a fr h=some (e,fr',h')->zB fr'.tm j=zB fr.tm j:=by
  intro a ha fr h e fr' h' hh;exact hi _ _ _ _ _ _ hh j ha
 cases c with
 |region ops=>
  simp only[zZ,QP,QD]at hx;obtain⟨⟨fr1,h1⟩,hx,_,rfl,_⟩:=hx;exact zCA hx hj
 |regionC ops=>
  simp only[zZ,QP,QD]at hx;obtain⟨⟨fr1,h1⟩,hx,_,rfl,_⟩:=hx;unfold Z6 at hx;cases hc:zx P ih ops 0 h.n [] [] [] fr {h with n:=h.n+(ops.filter fun x=>Nat.beq (zE x.1.op) 3).length} with
  |none=>simp[hc]at hx
  |some p=>
   obtain⟨fr2,h2,ws⟩:=p;simp only[hc,QA,QD]at hx;obtain⟨rfl,_⟩:=hx;exact zFD hc hj
 |seq a b=>
  have ha:j∉yE a:=fun q=>hj (GW _ q);have hb:j∉yE b:=fun q=>hj (GL _ q);simp only[zZ]at hx;cases he:ih.exec a fr h with
  |none=>simp[he]at hx
  |some p=>
   obtain⟨e0,fr0,h0⟩:=p;have g0:=one ha he;rw[he]at hx;cases e0 with
   |normal=>exact(one hb hx).trans g0
   |_=>simp only[QA,QD]at hx;obtain⟨_,rfl,_⟩:=hx;exact g0
 |cond t a b=>
  have ha:j∉yE a:=fun q=>hj (GW _ q);have hb:j∉yE b:=fun q=>hj (GL _ q);simp only[zZ]at hx;split at hx
  ·exact one ha hx
  ·exact one hb hx
  ·cases hx
 |block id b=>
  have hb:j∉yE b:=hj;simp only[zZ]at hx;cases he:ih.exec b fr h with
  |none=>simp[he]at hx
  |some p=>
   obtain⟨e0,fr0,h0⟩:=p;have g0:=one hb he;rw[he]at hx;cases e0 with
   |exit id'=>simp only at hx;split at hx<;>(simp only[QA,QD]at hx;obtain⟨_,rfl,_⟩:=hx;exact g0)
   |_=>simp only[QA,QD]at hx;obtain⟨_,rfl,_⟩:=hx;exact g0
 |loop b=>
  have hb:j∉yE b:=hj;simp only[zZ]at hx;cases he:ih.exec b fr h with
  |none=>simp[he]at hx
  |some p=>
   obtain⟨e0,fr0,h0⟩:=p;have g0:=one hb he;rw[he]at hx;cases e0 with
   |normal=>exact(one (a:= .loop b) hb hx).trans g0
   |_=>simp only[QA,QD]at hx;obtain⟨_,rfl,_⟩:=hx;exact g0
 |scope b=>exact zG3 hi _ hx j hj hj
 |rangeFunc f ps a b=>
  simp only[zZ]at hx;unfold zAy at hx;split at hx
  ·rw[zCG hx]
  ·split at hx
   ·rw[zCG hx]
   ·cases hx
 |_=>simp only[zZ,QA,QD]at hx;obtain⟨_,rfl,_⟩:=hx;rfl
end
theorem zF8 {P:Program}{tab:Wg}:∀ n,zDp (Wv P tab n)
 |0=>fun c fr h e fr' h' hx=>by cases hx
 |n+1=>fun c fr h e fr' h' hx=>zHb (P:=P) (zF8 n) c fr h e fr' h' hx
section
variable {P:Program}{tab:Wg}
theorem WX.frame {c:U1}{fr:WB}{h:U0}{K:U9->WB->U0->Prop}(hx:WX P tab c fr h K):WX P tab c fr h fun e fr' h'=>(∀ j,j∉yE c->zB fr'.tm j=zB fr.tm j)/\K e fr' h':=by
 unfold WX at *;obtain⟨e,fr',h',k,ev⟩:=hx;refine⟨e,fr',h',⟨?_,k⟩,ev⟩;unfold Ev at ev;obtain⟨N,a⟩:=ev;exact zF8 N _ _ _ _ _ _ (a N (QE _))
def zVf (ws:List Nat)(t0 t:U5 Value):Prop:=∀ j,ws.contains j=false->zB t j=zB t0 j
theorem XX {α:Type}(μ:α->Nat)(I:α->U5 Value->U0->Prop)(x:α){b t0 ds rd h K}(h0:I x t0 h)
  (hb:∀ x t h,zVf (yE b) t0 t->I x t h->WX P tab b ⟨t,ds,rd⟩ h (zCV μ I x ds rd K)):WX P tab (.loop b) ⟨t0,ds,rd⟩ h K:=by
 refine WX.loop μ (fun x t h=>zVf (yE b) t0 t/\I x t h) x ⟨fun _ _=>rfl,h0⟩ fun y t h ⟨hs,hi⟩=> ?_;refine(WX.frame (hb y t h hs hi)).mono fun e fr h ⟨hf,hk⟩=> ?_;unfold zCV at hk |-;cases e with
 |normal=>
  obtain⟨k1,k2,z,k3,k4⟩:=hk;exact⟨k1,k2,z,k3,fun j hj=>(hf j (by simpa using hj)).trans (hs j hj),k4⟩
 |exit i=>exact hk
 |goto l=>exact hk
 |ret=>exact hk
end
section
variable {H:Type}{P:Program}{h:U0}
theorem zQC {α:Type}{p:Nat->α->Prop}:∀ n,(∀ i,i<n->∃ a,p i a)->∃ l:List α,l.length=n/\∀ (i:Nat) (a:α),l[i]?=some a->p i a:=by
 intro n;induction n with
 |zero=>exact fun _=>⟨[],rfl,fun i a ha=>by simp at ha⟩
 |succ n ih=>
  intro hx;obtain⟨l,hl,hp⟩:=ih fun i hi=>hx i (by omega);obtain⟨a,ha⟩:=hx n (by omega);refine⟨l++[a],by simp[hl],fun i b hb=> ?_⟩;by_cases hi:i<n
  ·rw[Qy (by omega)]at hb;exact hp i b hb
  ·rw[GF (by omega),hl]at hb;have:i=n:=by
    have:=(QQ.1 hb).1;simp at this;omega
   subst this;simp at hb;subst hb;exact ha
end
end Go.Am
