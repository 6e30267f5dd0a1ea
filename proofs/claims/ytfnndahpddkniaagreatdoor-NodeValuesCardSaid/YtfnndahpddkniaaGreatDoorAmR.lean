/- A part of the machine and of its soundness; proves no statement. -/
import Derived.Test.YtfnndahpddkniaaGreatDoorAmD
set_option linter.all false
namespace Go.Am
def We(h:U0)(v:Value)(j:Nat)(cs:List Value):Prop:=
 ∀ (P:Program) (ih:Ex) (t:U5 Value) (x:Operand) (agg:Bool) (n off:Nat) (r:Value),ev t x=zv v (j+off)->0<n->(cut cs off n).bind (zM agg)=some r->U8 P ih t h (.load agg n x)=some (r,h)
def Ww{α:Type}(c:Nat)(R:U0->List Value->α->Prop)(h:U0)(v:Value)(l:List α):Prop:=
 ∃ cells,WW c h v l.length cells/\∀ (i:Nat) (a:α),l[i]?=some a->R h ((cells.drop (i*c)).take c) a
section
variable {α:Type}{c:Nat}{R:U0->List Value->α->Prop}{h h':U0}{v:Value}{l:List α}{P:Program}{ih:Ex}{t:U5 Value}
theorem Ww.ext(hR:∀ cs a,R h cs a->R h' cs a)(s:Ww c R h v l)(e:Ext h h'):Ww c R h' v l:=
 let⟨cells,a,b⟩:=s;⟨cells,a.ext e,fun i x hx=>hR _ _ (b i x hx)⟩
theorem Ww.nil:Ww c R h (.slice none 0 0) []:=⟨[],WW.nil c h,fun i a ha=>by simp at ha⟩
theorem Xr{x:Operand}(hx:ev t x=v)(s:Ww c R h v l):U8 P ih t h (.len x)=some (I l.length,h):=let⟨_,a,_⟩:=s;zDZ a hx
theorem XW{x y:Operand}{i:Nat}(hx:ev t x=v)(hy:BE (ev t y)=some i)(s:Ww c R h v l)(hi:i<l.length):U8 P ih t h (.idx c x y)=some (zv v (i*c),h):=
 let⟨_,a,_⟩:=s;zJ2 a hx hy hi
theorem Ww.some{i:Nat}(s:Ww c R h v l)(hi:i<l.length):∃ a k m,v=.slice (some a) k m:=let⟨_,a,_⟩:=s;a.some hi
theorem fldP{x:Operand}{off j:Nat}(hx:ev t x=zv v j)(hv:∃ a k m,v=.slice (Option.some a) k m):U8 P ih t h (.fld off x)=Option.some (zv v (j+off),h):=zOS hx hv
theorem Ww.at{i:Nat}(s:Ww c R h v l)(hi:i<l.length):∃ cs,R h cs l[i]/\cs.length=c/\We h v (i*c) cs:=by
 obtain⟨cells,a,b⟩:=s;have hlen:cells.length=l.length*c:=a.1;have hle:i*c+c<=cells.length:=by
  rw[hlen,<-G4];exact GP _ hi
 refine⟨_,b i l[i] (QB hi),by simp;omega,?_⟩;intro P ih t x agg n off r hx hn hr;cases hc:cut ((cells.drop (i*c)).take c) off n with
 |none=>rw[hc]at hr;cases hr
 |some m=>
  rw[hc]at hr;have h1:cut cells (i*c) c=Option.some ((cells.drop (i*c)).take c):=ZG hle;exact zD2 a hx (zD3 h1 hc) hn hr
theorem We.load{x:Operand}{agg:Bool}{n off j:Nat}{r:Value}{cs:List Value}(hx:ev t x=zv v (j+off))(p:We h v j cs)(hn:0<n)(hr:(cut cs off n).bind (zM agg)=Option.some r):
  U8 P ih t h (.load agg n x)=Option.some (r,h):=p P ih t x agg n off r hx hn hr
theorem Vs{x:Operand}{agg:Bool}{n j:Nat}{r:Value}{cs:List Value}(hx:ev t x=zv v j)(p:We h v j cs)(hn:0<n)(hr:(cut cs 0 n).bind (zM agg)=Option.some r):
  U8 P ih t h (.load agg n x)=Option.some (r,h):=p P ih t x agg n 0 r hx hn hr
end
section
variable {P:Program}{tab:Wo}
def inC(h:U0):U0:={h with mark:=h.n,wr:=[]}
theorem zM8(o:U3)(ws:List (Nat×Nat))(rs:List (Nat×Nat×Option (Nat×Nat×List Value)))(bs:List (Nat×Nat))(t:U5 Value)(h':U0):
  ((match zh t o with
   |some g=>(ws.all fun x=> !(Nat.beq g x.2&&([]:List Nat).contains x.1))&&bs.all fun x=> !([]:List Nat).contains x.1||Nat.ble (g+1) x.2
   |none=>true)&&rs.all fun x=> !(([]:List Nat).contains x.1&&h'.wr.contains x.2.1)||zEc h' x.2.1 x.2.2)=true:=by
 cases zh t o<;>simp
theorem yt{h:U0}{g x:Nat}(hx:x∈h.log g):x=g\/x∈h.wr:=by
 unfold U0.log at hx;cases hb:Nat.ble h.mark g with
 |true=>rw[hb]at hx;exact .inr hx
 |false=>rw[hb]at hx;exact GI.1 hx
def zGC(ops:List (U3×List Nat)):Nat:=(ops.filter fun x=>Nat.beq (zH x.1.op) 3).length
end
section
variable {P:Program}{tab:Wo}{m:Nat}{l:List U3}{o:U3}{g:Nat}{fr:WH}{h h0 h':U0}{Q:WH->U0->Prop}{K:WF->WH->U0->Prop}
def outC(h h':U0):U0:={h' with mark:=h.mark,wr:=h.wr}
theorem Ext.outC(e:Ext (inC h) h'):Ext h (outC h h'):=⟨e.n,e.get,fun w=>e.wf w,rfl,fun _=>rfl⟩
theorem Ext.wrnil(e:Ext (Am.inC h) h'):h'.wr=[]:=e.wr (QE _)
def zAv(K:WF->WH->U0->Prop)(h:U0):WH->U0->Prop:=fun fr' h'=>K .normal fr' (Am.outC h h')
end
theorem WW.shape{c n:Nat}{h:U0}{v:Value}{cells:List Value}(s:WW c h v n cells):∃ a n k,v=.slice a n k:=by
 rcases s.2 with⟨_,rfl|⟨a,k,rfl⟩⟩|⟨g,off,row,rfl,_⟩
 ·exact⟨_,_,_,rfl⟩
 ·exact⟨_,_,_,rfl⟩
 ·exact⟨_,_,_,rfl⟩
section
variable {P:Program}{tab:Wo}{t:U5 Value}{h h0:U0}{ds:List Deferred}{rd:Option Nat}{l:List U3}{Q:WH->U0->Prop}
def Wg(p:Value)(h h':U0):Prop:=h.n<=h'.n/\∀ g,g<h.n->p≠ .pointer (some ⟨g,0,none⟩)->h'.get g=h.get g
theorem Vr{x y:Operand}{p v:Value}{cells cs:List Value}{j n:Nat}(hx:ev t x=yG p j)(hy:ev t y=v)(hv:v.cells=cs.toArray)(h1:zK cs=true)(hn:cs.length=n)(o:U1 h0 h p cells)(e0:Ext h0 h)(hl:j+n<=cells.length)
  (k:∀ h',Ext h0 h'->U1 h0 h' p (zi cells j cs)->Wg p h h'->WO P tab l ⟨t,ds,rd⟩ h' Q):WO P tab (⟨none,none,.store n x y⟩::l) ⟨t,ds,rd⟩ h Q:=by
 obtain⟨g,g1,g2,rfl,g3⟩:=o;subst hn;have hst:zo h ⟨g,j,none⟩ cs=some (h.set g (.row (zi cells j cs) true 0)):=by
  have h2:Nat.ble (j+cs.length) cells.length=true:=QG hl;have h0:Nat.ble 0 j=true:=QG (QK _);simp only[zo,g3,h2,h0,h1,Qt];rfl
 refine VU undef (h.set g (.row (zi cells j cs) true 0)) rfl ?_ (k _ (e0.set g1 g2 _) ⟨g,g1,g2,rfl,by rw[zt,QF rfl]⟩ ⟨QE _,fun k _ hk=> ?_⟩)
 ·simp only[U8,hx,yG,hy,GC,hv,Gj,GS,hst,QI,cond_true]
 ·rw[zt,QC (fun e=>hk (by rw[e]))]
theorem XD{x y:Operand}{p v:Value}{cells cs:List Value}{n:Nat}(hx:ev t x=p)(hy:ev t y=v)(hv:v.cells=cs.toArray)(h1:zK cs=true)(hn:cs.length=n)(o:U1 h0 h p cells)(e0:Ext h0 h)(hl:cells.length=n)
  (k:∀ h',Ext h0 h'->U1 h0 h' p cs->Wg p h h'->WO P tab l ⟨t,ds,rd⟩ h' Q):WO P tab (⟨none,none,.store n x y⟩::l) ⟨t,ds,rd⟩ h Q:=by
 refine Vr (hx.trans o.at0) hy hv h1 hn o e0 (by omega) fun h' a b c=>k h' a ?_ c;have e:zi cells 0 cs=cs:=by simp[zi,hn,hl]
 rwa [e]at b
end
def yA:WK->List Nat
 | .region ops=>ops.filterMap (·.dst)
 | .regionC ops=>ops.filterMap (·.1.dst)
 | .seq a b=>yA a++yA b
 | .cond _ a b=>yA a++yA b
 | .block _ b| .loop b| .scope b=>yA b
 |_=>[]
section
variable {P:Program}{ih:Ex}
theorem zBO{d:Option Nat}{fr:WH}{v:Value}{j:Nat}(hj:d≠some j):zB (val d fr v).tm j=zB fr.tm j:=by
 cases d with
 |none=>rfl
 |some d=>simp only[val,ze];rw[QC (fun e=>hj (by rw[e]))]
theorem zDD{o:U3}{fr fr':WH}{h h':U0}(hx:yK P ih o fr h=some (fr',h')){j:Nat}(hj:o.dst≠some j):zB fr'.tm j=zB fr.tm j:=by
 unfold yK at hx;cases hw:zS fr.tm o.guard with
 |false=>
  simp only[hw,QV,QA,QD]at hx;obtain⟨rfl,_⟩:=hx;exact zBO hj
 |true=>
  simp only[hw,cond_true]at hx;cases hv:yC P ih fr.tm fr.round h o.op with
  |none=>simp[hv]at hx
  |some p=>
   obtain⟨v,ds,h1⟩:=p;simp only[hv,QA,QD]at hx;obtain⟨rfl,_⟩:=hx;exact zBO (fr:={fr with dfs:=ds++fr.dfs}) hj
theorem zCF:∀ {l:List U3} {fr fr':WH} {h h':U0},yr P ih l fr h=some (fr',h')->∀ {j:Nat},j∉l.filterMap (·.dst)->zB fr'.tm j=zB fr.tm j:=by
 intro l;induction l with
 |nil=>intro fr fr' h h' hx j _;simp only[yr,QA,QD]at hx;obtain⟨rfl,_⟩:=hx;rfl
 |cons o l ihl=>
  intro fr fr' h h' hx j hj;simp only[yr]at hx;cases ho:yK P ih o fr h with
  |none=>simp[ho]at hx
  |some p=>
   obtain⟨fr1,h1⟩:=p;simp only[ho]at hx;have h1:o.dst≠some j:=fun e=>hj (G1.2 ⟨o,Qi ..,e⟩);have h2:j∉l.filterMap (·.dst):=fun e=>by
    obtain⟨a,b,c⟩:=G1.1 e;exact hj (G1.2 ⟨a,Qq _ b,c⟩)
   exact(ihl hx h2).trans (zDD ho h1)
theorem zF6{g:Nat}{o:U3}{fr fr':WH}{h h':U0}(hx:yb P ih g o fr h=some (fr',h')){j:Nat}(hj:o.dst≠some j):zB fr'.tm j=zB fr.tm j:=by
 unfold yb at hx;cases hk:Nat.beq (zH o.op) 3 with
 |false=>simp only[hk,QV]at hx;exact zDD hx hj
 |true=>
  simp only[hk,cond_true]at hx;cases hw:zS fr.tm o.guard with
  |false=>simp only[hw,QV,QA,QD]at hx;obtain⟨rfl,_⟩:=hx;exact zBO hj
  |true=>
   simp only[hw,cond_true]at hx;cases hm:yh fr.tm o.op with
   |none=>simp[hm]at hx
   |some p=>simp only[hm,QA,QD]at hx;obtain⟨rfl,_⟩:=hx;exact zBO hj
theorem zE4:∀ {l:List (U3×List Nat)} {i g:Nat} {ws:List (Nat×Nat)} {rs:List (Nat×Nat×Option (Nat×Nat×List Value))} {bs ws':List (Nat×Nat)} {fr fr':WH} {h h':U0},
  yU P ih l i g ws rs bs fr h=some (fr',h',ws')->∀ {j:Nat},j∉l.filterMap (·.1.dst)->zB fr'.tm j=zB fr.tm j:=by
 intro l;induction l with
 |nil=>intro i g ws rs bs ws' fr fr' h h' hx j _;simp only[yU,QA,QD]at hx;obtain⟨rfl,_⟩:=hx;rfl
 |cons o l ihl=>
  intro i g ws rs bs ws' fr fr' h h' hx j hj;obtain⟨o,un⟩:=o;simp only[yU]at hx;cases ho:yb P ih g o fr {h with mark:=h.n,wr:=[]} with
  |none=>simp[ho]at hx
  |some p=>
   obtain⟨fr1,h1⟩:=p;simp only[ho]at hx;obtain⟨_,hx⟩:=yv hx;have h1:o.dst≠some j:=fun e=>hj (G1.2 ⟨(o,un),Qi ..,e⟩);have h2:j∉l.filterMap (·.1.dst):=fun e=>by
    obtain⟨a,b,c⟩:=G1.1 e;exact hj (G1.2 ⟨a,Qq _ b,c⟩)
   exact(ihl hx h2).trans (zF6 ho h1)
theorem zHR:∀ {c r:WK} {l:Nat},yM c l=some r->∀ j,j∈yA r->j∈yA c:=by
 intro c;induction c with
 |seq a b iha ihb=>
  intro r l hx j hj;simp only[yM]at hx;cases ha:yM a l with
  |none=>rw[ha]at hx;exact Gd _ (ihb hx j hj)
  |some q=>
   rw[ha]at hx;simp only[QA]at hx;subst hx;rcases Qu.1 hj with h|h
   ·exact Gh _ (iha ha j h)
   ·exact Gd _ h
 |label l'=>intro r l hx j hj;simp only[yM]at hx;split at hx<;>cases hx;cases hj
 |_=>intro r l hx;cases hx
def zDd(ih:Ex):Prop:=∀ c fr h e fr' h',ih.exec c fr h=some (e,fr',h')->∀ j,j∉yA c->zB fr'.tm j=zB fr.tm j
theorem zGA(hi:zDd ih){b:WK}:∀ (n:Nat) {c:WK} {fr fr':WH} {h h':U0} {e:WF},Z9 ih n b c fr h=some (e,fr',h')->∀ j,j∉yA b->j∉yA c->zB fr'.tm j=zB fr.tm j:=by
 intro n;induction n with
 |zero=>intro c fr fr' h h' e hx;cases hx
 |succ n ihn=>
  intro c fr fr' h h' e hx j hb hc;simp only[Z9]at hx;cases he:ih.exec c fr h with
  |none=>simp[he]at hx
  |some p=>
   obtain⟨e0,fr0,h0⟩:=p;have g0:=hi _ _ _ _ _ _ he j hc;rw[he]at hx;cases e0 with
   |goto l=>
    simp only at hx;cases hf:yM b l with
    |none=>simp only[hf,QA,QD]at hx;obtain⟨_,rfl,_⟩:=hx;exact g0
    |some rest=>simp only[hf]at hx;exact(ihn hx j hb (fun hj=>hb (zHR hf j hj))).trans g0
   |_=>simp only[QA,QD]at hx;obtain⟨_,rfl,_⟩:=hx;exact g0
theorem zCI{f:Value}{ps:List Nat}{a b:WK}{fr fr':WH}{d:Nat}{mark:List Deferred}{h h':U0}{e:WF}(hx:zAl ih f ps a b fr d mark h=some (e,fr',h')):fr'.tm=fr.tm:=by
 unfold zAl at hx;split at hx
 ·cases hx
 ·split at hx
  ·repeat' split at hx
   all_goals first
    |(cases hx;done)
    |(simp only[QA,QD]at hx;obtain⟨_,rfl,_⟩:=hx;rfl)
  ·cases hx
theorem zG9(hi:zDd ih):zDd ⟨zl P ih,ih.call⟩:=by
 intro c fr h e fr' h' hx0 j hj;have hx:zl P ih c fr h=some (e,fr',h'):=hx0;clear hx0;have one:∀ {a:WK},j∉yA a->∀ {fr:WH} {h:U0} {e:WF} {fr':WH} {h':U0},ih.exec a fr h=some (e,fr',h')->zB fr'.tm j=zB fr.tm j:=by
  intro a ha fr h e fr' h' hh;exact hi _ _ _ _ _ _ hh j ha
 cases c with
 |region ops=>
  simp only[zl,QO,QD]at hx;obtain⟨⟨fr1,h1⟩,hx,_,rfl,_⟩:=hx;exact zCF hx hj
 |regionC ops=>
  simp only[zl,QO,QD]at hx;obtain⟨⟨fr1,h1⟩,hx,_,rfl,_⟩:=hx;unfold Ye at hx;cases hc:yU P ih ops 0 h.n [] [] [] fr {h with n:=h.n+(ops.filter fun x=>Nat.beq (zH x.1.op) 3).length} with
  |none=>simp[hc]at hx
  |some p=>
   obtain⟨fr2,h2,ws⟩:=p;simp only[hc,QA,QD]at hx;obtain⟨rfl,_⟩:=hx;exact zE4 hc hj
 |seq a b=>
  have ha:j∉yA a:=fun q=>hj (Gh _ q);have hb:j∉yA b:=fun q=>hj (Gd _ q);simp only[zl]at hx;cases he:ih.exec a fr h with
  |none=>simp[he]at hx
  |some p=>
   obtain⟨e0,fr0,h0⟩:=p;have g0:=one ha he;rw[he]at hx;cases e0 with
   |normal=>exact(one hb hx).trans g0
   |_=>simp only[QA,QD]at hx;obtain⟨_,rfl,_⟩:=hx;exact g0
 |cond t a b=>
  have ha:j∉yA a:=fun q=>hj (Gh _ q);have hb:j∉yA b:=fun q=>hj (Gd _ q);simp only[zl]at hx;split at hx
  ·exact one ha hx
  ·exact one hb hx
  ·cases hx
 |block id b=>
  have hb:j∉yA b:=hj;simp only[zl]at hx;cases he:ih.exec b fr h with
  |none=>simp[he]at hx
  |some p=>
   obtain⟨e0,fr0,h0⟩:=p;have g0:=one hb he;rw[he]at hx;cases e0 with
   |exit id'=>simp only at hx;split at hx<;>(simp only[QA,QD]at hx;obtain⟨_,rfl,_⟩:=hx;exact g0)
   |_=>simp only[QA,QD]at hx;obtain⟨_,rfl,_⟩:=hx;exact g0
 |loop b=>
  have hb:j∉yA b:=hj;simp only[zl]at hx;cases he:ih.exec b fr h with
  |none=>simp[he]at hx
  |some p=>
   obtain⟨e0,fr0,h0⟩:=p;have g0:=one hb he;rw[he]at hx;cases e0 with
   |normal=>exact(one (a:= .loop b) hb hx).trans g0
   |_=>simp only[QA,QD]at hx;obtain⟨_,rfl,_⟩:=hx;exact g0
 |scope b=>exact zGA hi _ hx j hj hj
 |rangeFunc f ps a b=>
  simp only[zl]at hx;unfold zBv at hx;split at hx
  ·rw[zCI hx]
  ·split at hx
   ·rw[zCI hx]
   ·cases hx
 |_=>simp only[zl,QA,QD]at hx;obtain⟨_,rfl,_⟩:=hx;rfl
end
theorem zFT{P:Program}{tab:Wo}:∀ n,zDd (BI P tab n)
 |0=>fun c fr h e fr' h' hx=>by cases hx
 |n+1=>fun c fr h e fr' h' hx=>zG9 (P:=P) (zFT n) c fr h e fr' h' hx
section
variable {P:Program}{tab:Wo}
theorem WX.frame{c:WK}{fr:WH}{h:U0}{K:WF->WH->U0->Prop}(hx:WX P tab c fr h K):WX P tab c fr h fun e fr' h'=>(∀ j,j∉yA c->zB fr'.tm j=zB fr.tm j)/\K e fr' h':=by
 unfold WX at *;obtain⟨e,fr',h',k,ev⟩:=hx;refine⟨e,fr',h',⟨?_,k⟩,ev⟩;unfold Ev at ev;obtain⟨N,a⟩:=ev;exact zFT N _ _ _ _ _ _ (a N (QE _))
def zQM(ws:List Nat)(t0 t:U5 Value):Prop:=∀ j,ws.contains j=false->zB t j=zB t0 j
theorem Xj{α:Type}(μ:α->Nat)(I:α->U5 Value->U0->Prop)(x:α){b t0 ds rd h K}(h0:I x t0 h)
  (hb:∀ x t h,zQM (yA b) t0 t->I x t h->WX P tab b ⟨t,ds,rd⟩ h (zCZ μ I x ds rd K)):WX P tab (.loop b) ⟨t0,ds,rd⟩ h K:=by
 refine WX.loop μ (fun x t h=>zQM (yA b) t0 t/\I x t h) x ⟨fun _ _=>rfl,h0⟩ fun y t h ⟨hs,hi⟩=> ?_;refine(WX.frame (hb y t h hs hi)).mono fun e fr h ⟨hf,hk⟩=> ?_;unfold zCZ at hk |-;cases e with
 |normal=>
  obtain⟨k1,k2,z,k3,k4⟩:=hk;exact⟨k1,k2,z,k3,fun j hj=>(hf j (by simpa using hj)).trans (hs j hj),k4⟩
 |exit i=>exact hk
 |goto l=>exact hk
 |ret=>exact hk
end
section
variable {H:Type}{P:Program}{h:U0}
theorem zN4{α:Type}{p:Nat->α->Prop}:∀ n,(∀ i,i<n->∃ a,p i a)->∃ l:List α,l.length=n/\∀ (i:Nat) (a:α),l[i]?=some a->p i a:=by
 intro n;induction n with
 |zero=>exact fun _=>⟨[],rfl,fun i a ha=>by simp at ha⟩
 |succ n ih=>
  intro hx;obtain⟨l,hl,hp⟩:=ih fun i hi=>hx i (by omega);obtain⟨a,ha⟩:=hx n (by omega);refine⟨l++[a],by simp[hl],fun i b hb=> ?_⟩;by_cases hi:i<n
  ·rw[Q6 (by omega)]at hb;exact hp i b hb
  ·rw[GH (by omega),hl]at hb;have:i=n:=by
    have:=(QS.1 hb).1;simp at this;omega
   subst this;simp at hb;subst hb;exact ha
end
end Go.Am
