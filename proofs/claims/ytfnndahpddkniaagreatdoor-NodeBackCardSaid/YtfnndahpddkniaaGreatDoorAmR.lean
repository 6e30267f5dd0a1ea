/- A part of the abstract machine for the model's programs and of the proof that what it yields the model's call yields (definitions, operations, runs, regions that draw their order); no statement of the seat is proved in this text. -/
import Derived.Test.YtfnndahpddkniaaGreatDoorAmD
set_option linter.unusedVariables false
set_option linter.unusedSimpArgs false
namespace Go.Am
def Piece (h:AHeap) (v:Value) (j:Nat) (cs:List Value):Prop:=
 ∀ (P:Program) (ih:Ex) (t:Trie Value) (x:Operand) (agg:Bool) (n off:Nat) (r:Value),ev t x=yE v (j+off)->0<n->(cut cs off n).bind (zG agg)=some r->aop P ih t h (.load agg n x)=some (r,h)
def SlR {α:Type} (c:Nat) (R:AHeap->List Value->α->Prop) (h:AHeap) (v:Value) (l:List α):Prop:=
 ∃ cells,SlC c h v l.length cells/\∀ (i:Nat) (a:α),l[i]?=some a->R h ((cells.drop (i * c)).take c) a
section
variable {α:Type} {c:Nat} {R:AHeap->List Value->α->Prop} {h h':AHeap} {v:Value} {l:List α} {P:Program} {ih:Ex} {t:Trie Value}
theorem SlR.ext (hR:∀ cs a,R h cs a->R h' cs a) (s:SlR c R h v l) (e:Ext h h'):SlR c R h' v l:=
 let ⟨cells,a,b⟩:=s;⟨cells,a.ext e,fun i x hx=>hR _ _ (b i x hx)⟩
theorem SlR.nil:SlR c R h (.slice none 0 0) []:=⟨[],SlC.nil c h,fun i a ha=>by simp at ha⟩
theorem SlR.len' {x:Operand} (hx:ev t x=v) (s:SlR c R h v l):aop P ih t h (.len x)=some (I l.length,h):=let ⟨_,a,_⟩:=s;zDF a hx
theorem SlR.idx' {x y:Operand} {i:Nat} (hx:ev t x=v) (hy:asN (ev t y)=some i) (s:SlR c R h v l) (hi:i<l.length):aop P ih t h (.idx c x y)=some (yE v (i * c),h):=
 let ⟨_,a,_⟩:=s;zJC a hx hy hi
theorem SlR.some {i:Nat} (s:SlR c R h v l) (hi:i<l.length):∃ a k m,v= .slice (some a) k m:=let ⟨_,a,_⟩:=s;a.some hi
theorem fldP {x:Operand} {off j:Nat} (hx:ev t x=yE v j) (hv:∃ a k m,v= .slice (Option.some a) k m):aop P ih t h (.fld off x)=Option.some (yE v (j+off),h):=zPj hx hv
theorem SlR.at {i:Nat} (s:SlR c R h v l) (hi:i<l.length):∃ cs,R h cs l[i]/\cs.length=c/\Piece h v (i * c) cs:=by
 obtain⟨cells,a,b⟩:=s;have hlen:cells.length=l.length * c:=a.1;have hle:i * c+c<=cells.length:=by
  rw[hlen,<-G4];exact GY _ hi
 refine⟨_,b i l[i] (QC hi),by simp;omega,?_⟩;intro P ih t x agg n off r hx hn hr;cases hc:cut ((cells.drop (i * c)).take c) off n with
 |none=>rw[hc]at hr;cases hr
 |some m=>
  rw[hc]at hr;have h1:cut cells (i * c) c=Option.some ((cells.drop (i * c)).take c):=yw hle;exact zDd a hx (zEK h1 hc) hn hr
theorem Piece.load {x:Operand} {agg:Bool} {n off j:Nat} {r:Value} {cs:List Value} (hx:ev t x=yE v (j+off)) (p:Piece h v j cs) (hn:0<n) (hr:(cut cs off n).bind (zG agg)=Option.some r):
  aop P ih t h (.load agg n x)=Option.some (r,h):=p P ih t x agg n off r hx hn hr
theorem Piece.load0 {x:Operand} {agg:Bool} {n j:Nat} {r:Value} {cs:List Value} (hx:ev t x=yE v j) (p:Piece h v j cs) (hn:0<n) (hr:(cut cs 0 n).bind (zG agg)=Option.some r):
  aop P ih t h (.load agg n x)=Option.some (r,h):=p P ih t x agg n 0 r hx hn hr
end
section
variable {P:Program} {tab:Tab}
def inC (h:AHeap):AHeap:={h with mark:=h.n,wr:=[]}
theorem zNA (o:AOper) (ws:List (Nat×Nat)) (rs:List (Nat×Nat×Option (Nat×Nat×List Value))) (bs:List (Nat×Nat)) (t:Trie Value) (h':AHeap):
  ((match zX t o with
   |some g=>(ws.all fun x=> !(Nat.beq g x.2&&([]:List Nat).contains x.1))&&bs.all fun x=> !([]:List Nat).contains x.1||Nat.ble (g+1) x.2
   |none=>true)&&rs.all fun x=> !(([]:List Nat).contains x.1&&h'.wr.contains x.2.1)||zCm h' x.2.1 x.2.2)=true:=by
 cases zX t o<;>simp
theorem ZV {h:AHeap} {g x:Nat} (hx:x∈h.log g):x=g\/x∈h.wr:=by
 unfold AHeap.log at hx;cases hb:Nat.ble h.mark g with
 |true=>rw[hb]at hx;exact .inr hx
 |false=>rw[hb]at hx;exact GO.1 hx
def zFh (ops:List (AOper×List Nat)):Nat:=(ops.filter fun x=>Nat.beq (zE x.1.op) 3).length
end
section
variable {P:Program} {tab:Tab} {m:Nat} {l:List AOper} {o:AOper} {g:Nat} {fr:AFr} {h h0 h':AHeap} {Q:AFr->AHeap->Prop} {K:AExit->AFr->AHeap->Prop}
def ZM (h h':AHeap):AHeap:={h' with mark:=h.mark,wr:=h.wr}
theorem Ext.wrnil (e:Ext (Am.inC h) h'):h'.wr=[]:=e.wr (QE _)
def zCB (K:AExit->AFr->AHeap->Prop) (h:AHeap):AFr->AHeap->Prop:=fun fr' h'=>K .normal fr' (Am.ZM h h')
end
theorem SlC.shape {c n:Nat} {h:AHeap} {v:Value} {cells:List Value} (s:SlC c h v n cells):∃ a n k,v= .slice a n k:=by
 rcases s.2 with ⟨_,rfl|⟨a,k,rfl⟩⟩|⟨g,off,row,rfl,_⟩
 ·exact⟨_,_,_,rfl⟩
 ·exact⟨_,_,_,rfl⟩
 ·exact⟨_,_,_,rfl⟩
section
variable {P:Program} {tab:Tab} {t:Trie Value} {h h0:AHeap} {ds:List Deferred} {rd:Option Nat} {l:List AOper} {Q:AFr->AHeap->Prop}
def UpdC (p:Value) (h h':AHeap):Prop:=h.n<=h'.n/\∀ g,g<h.n->p≠ .pointer (some ⟨g,0,none⟩)->h'.get g=h.get g
theorem WO.storeC {x y:Operand} {p v:Value} {cells cs:List Value} {j n:Nat} (hx:ev t x=yC p j) (hy:ev t y=v) (hv:v.cells=cs.toArray) (h1:zJ cs=true) (hn:cs.length=n) (o:OwnC h0 h p cells) (e0:Ext h0 h) (hl:j+n<=cells.length)
  (k:∀ h',Ext h0 h'->OwnC h0 h' p (zb cells j cs)->UpdC p h h'->WO P tab l ⟨t,ds,rd⟩ h' Q):WO P tab (⟨none,none,.store n x y⟩::l) ⟨t,ds,rd⟩ h Q:=by
 obtain⟨g,g1,g2,rfl,g3⟩:=o;subst hn;have hst:za h ⟨g,j,none⟩ cs=some (h.set g (.row (zb cells j cs) true 0)):=by
  have h2:Nat.ble (j+cs.length) cells.length=true:=QH hl;have h0:Nat.ble 0 j=true:=QH (QV _);simp only[za,g3,h2,h0,h1,Qz];rfl
 refine WO.op0 undef (h.set g (.row (zb cells j cs) true 0)) rfl ?_ (k _ (e0.set g1 g2 _) ⟨g,g1,g2,rfl,by rw[zu,QI rfl]⟩ ⟨QE _,fun k _ hk=> ?_⟩)
 ·simp only[aop,hx,yC,hy,Q5,hv,G6,Gh,hst,QJ,cond_true]
 ·rw[zu,QD (fun e=>hk (by rw[e]))]
theorem WO.storeC0 {x y:Operand} {p v:Value} {cells cs:List Value} {n:Nat} (hx:ev t x=p) (hy:ev t y=v) (hv:v.cells=cs.toArray) (h1:zJ cs=true) (hn:cs.length=n) (o:OwnC h0 h p cells) (e0:Ext h0 h) (hl:cells.length=n)
  (k:∀ h',Ext h0 h'->OwnC h0 h' p cs->UpdC p h h'->WO P tab l ⟨t,ds,rd⟩ h' Q):WO P tab (⟨none,none,.store n x y⟩::l) ⟨t,ds,rd⟩ h Q:=by
 refine WO.storeC (hx.trans o.at0) hy hv h1 hn o e0 (by omega) fun h' a b c=>k h' a ?_ c;have e:zb cells 0 cs=cs:=by simp[zb,hn,hl]
 rwa [e]at b
end
def z0:ACode->List Nat
 | .region ops=>ops.filterMap (·.dst)
 | .regionC ops=>ops.filterMap (·.1.dst)
 | .seq a b=>z0 a++z0 b
 | .cond _ a b=>z0 a++z0 b
 | .block _ b| .loop b| .scope b=>z0 b
 |_=>[]
section
variable {P:Program} {ih:Ex}
theorem zA7 {d:Option Nat} {fr:AFr} {v:Value} {j:Nat} (hj:d≠some j):zB (val d fr v).tm j=zB fr.tm j:=by
 cases d with
 |none=>rfl
 |some d=>simp only[val,zh];rw[QD (fun e=>hj (by rw[e]))]
theorem zCn {o:AOper} {fr fr':AFr} {h h':AHeap} (hx:z8 P ih o fr h=some (fr',h')) {j:Nat} (hj:o.dst≠some j):zB fr'.tm j=zB fr.tm j:=by
 unfold z8 at hx;cases hw:zL fr.tm o.guard with
 |false=>
  simp only[hw,QR,QA,QB]at hx;obtain⟨rfl,_⟩:=hx;exact zA7 hj
 |true=>
  simp only[hw,cond_true]at hx;cases hv:zd P ih fr.tm fr.round h o.op with
  |none=>simp[hv]at hx
  |some p=>
   obtain⟨v,ds,h1⟩:=p;simp only[hv,QA,QB]at hx;obtain⟨rfl,_⟩:=hx;exact zA7 (fr:={fr with dfs:=ds++fr.dfs}) hj
theorem zCQ:∀ {l:List AOper} {fr fr':AFr} {h h':AHeap},yP P ih l fr h=some (fr',h')->∀ {j:Nat},j∉l.filterMap (·.dst)->zB fr'.tm j=zB fr.tm j:=by
 intro l;induction l with
 |nil=>intro fr fr' h h' hx j _;simp only[yP,QA,QB]at hx;obtain⟨rfl,_⟩:=hx;rfl
 |cons o l ihl=>
  intro fr fr' h h' hx j hj;simp only[yP]at hx;cases ho:z8 P ih o fr h with
  |none=>simp[ho]at hx
  |some p=>
   obtain⟨fr1,h1⟩:=p;simp only[ho]at hx;have h1:o.dst≠some j:=fun e=>hj (Gm.2 ⟨o,Qf ..,e⟩);have h2:j∉l.filterMap (·.dst):=fun e=>by
    obtain⟨a,b,c⟩:=Gm.1 e;exact hj (Gm.2 ⟨a,Qj _ b,c⟩)
   exact(ihl hx h2).trans (zCn ho h1)
theorem zFn {g:Nat} {o:AOper} {fr fr':AFr} {h h':AHeap} (hx:zx P ih g o fr h=some (fr',h')) {j:Nat} (hj:o.dst≠some j):zB fr'.tm j=zB fr.tm j:=by
 unfold zx at hx;cases hk:Nat.beq (zE o.op) 3 with
 |false=>simp only[hk,QR]at hx;exact zCn hx hj
 |true=>
  simp only[hk,cond_true]at hx;cases hw:zL fr.tm o.guard with
  |false=>simp only[hw,QR,QA,QB]at hx;obtain⟨rfl,_⟩:=hx;exact zA7 hj
  |true=>
   simp only[hw,cond_true]at hx;cases hm:yY fr.tm o.op with
   |none=>simp[hm]at hx
   |some p=>simp only[hm,QA,QB]at hx;obtain⟨rfl,_⟩:=hx;exact zA7 hj
theorem zEf:∀ {l:List (AOper×List Nat)} {i g:Nat} {ws:List (Nat×Nat)} {rs:List (Nat×Nat×Option (Nat×Nat×List Value))} {bs ws':List (Nat×Nat)} {fr fr':AFr} {h h':AHeap},
  yA P ih l i g ws rs bs fr h=some (fr',h',ws')->∀ {j:Nat},j∉l.filterMap (·.1.dst)->zB fr'.tm j=zB fr.tm j:=by
 intro l;induction l with
 |nil=>intro i g ws rs bs ws' fr fr' h h' hx j _;simp only[yA,QA,QB]at hx;obtain⟨rfl,_⟩:=hx;rfl
 |cons o l ihl=>
  intro i g ws rs bs ws' fr fr' h h' hx j hj;obtain⟨o,un⟩:=o;simp only[yA]at hx;cases ho:zx P ih g o fr {h with mark:=h.n,wr:=[]} with
  |none=>simp[ho]at hx
  |some p=>
   obtain⟨fr1,h1⟩:=p;simp only[ho]at hx;obtain⟨_,hx⟩:=yZ hx;have h1:o.dst≠some j:=fun e=>hj (Gm.2 ⟨(o,un),Qf ..,e⟩);have h2:j∉l.filterMap (·.1.dst):=fun e=>by
    obtain⟨a,b,c⟩:=Gm.1 e;exact hj (Gm.2 ⟨a,Qj _ b,c⟩)
   exact(ihl hx h2).trans (zFn ho h1)
theorem zHQ:∀ {c r:ACode} {l:Nat},zp c l=some r->∀ j,j∈z0 r->j∈z0 c:=by
 intro c;induction c with
 |seq a b iha ihb=>
  intro r l hx j hj;simp only[zp]at hx;cases ha:zp a l with
  |none=>rw[ha]at hx;exact Gb _ (ihb hx j hj)
  |some q=>
   rw[ha]at hx;simp only[QA]at hx;subst hx;rcases Qn.1 hj with h|h
   ·exact Gc _ (iha ha j h)
   ·exact Gb _ h
 |label l'=>intro r l hx j hj;simp only[zp]at hx;split at hx<;>cases hx;cases hj
 |_=>intro r l hx;cases hx
def zDC (ih:Ex):Prop:=∀ c fr h e fr' h',ih.exec c fr h=some (e,fr',h')->∀ j,j∉z0 c->zB fr'.tm j=zB fr.tm j
theorem zGZ (hi:zDC ih) {b:ACode}:∀ (n:Nat) {c:ACode} {fr fr':AFr} {h h':AHeap} {e:AExit},Zb ih n b c fr h=some (e,fr',h')->∀ j,j∉z0 b->j∉z0 c->zB fr'.tm j=zB fr.tm j:=by
 intro n;induction n with
 |zero=>intro c fr fr' h h' e hx;cases hx
 |succ n ihn=>
  intro c fr fr' h h' e hx j hb hc;simp only[Zb]at hx;cases he:ih.exec c fr h with
  |none=>simp[he]at hx
  |some p=>
   obtain⟨e0,fr0,h0⟩:=p;have g0:=hi _ _ _ _ _ _ he j hc;rw[he]at hx;cases e0 with
   |goto l=>
    simp only at hx;cases hf:zp b l with
    |none=>simp only[hf,QA,QB]at hx;obtain⟨_,rfl,_⟩:=hx;exact g0
    |some rest=>simp only[hf]at hx;exact(ihn hx j hb (fun hj=>hb (zHQ hf j hj))).trans g0
   |_=>simp only[QA,QB]at hx;obtain⟨_,rfl,_⟩:=hx;exact g0
theorem zBj {f:Value} {ps:List Nat} {a b:ACode} {fr fr':AFr} {d:Nat} {mark:List Deferred} {h h':AHeap} {e:AExit} (hx:Ya ih f ps a b fr d mark h=some (e,fr',h')):fr'.tm=fr.tm:=by
 unfold Ya at hx;split at hx
 ·cases hx
 ·split at hx
  ·repeat' split at hx
   all_goals first
    |(cases hx;done)
    |(simp only[QA,QB]at hx;obtain⟨_,rfl,_⟩:=hx;rfl)
  ·cases hx
theorem zHu (hi:zDC ih):zDC ⟨zV P ih,ih.call⟩:=by
 intro c fr h e fr' h' hx0 j hj;have hx:zV P ih c fr h=some (e,fr',h'):=hx0;clear hx0;have one:∀ {a:ACode},j∉z0 a->∀ {fr:AFr} {h:AHeap} {e:AExit} {fr':AFr} {h':AHeap},ih.exec a fr h=some (e,fr',h')->zB fr'.tm j=zB fr.tm j:=by
  intro a ha fr h e fr' h' hh;exact hi _ _ _ _ _ _ hh j ha
 cases c with
 |region ops=>
  simp only[zV,QM,QB]at hx;obtain⟨⟨fr1,h1⟩,hx,_,rfl,_⟩:=hx;exact zCQ hx hj
 |regionC ops=>
  simp only[zV,QM,QB]at hx;obtain⟨⟨fr1,h1⟩,hx,_,rfl,_⟩:=hx;unfold YD at hx;cases hc:yA P ih ops 0 h.n [] [] [] fr {h with n:=h.n+(ops.filter fun x=>Nat.beq (zE x.1.op) 3).length} with
  |none=>simp[hc]at hx
  |some p=>
   obtain⟨fr2,h2,ws⟩:=p;simp only[hc,QA,QB]at hx;obtain⟨rfl,_⟩:=hx;exact zEf hc hj
 |seq a b=>
  have ha:j∉z0 a:=fun q=>hj (Gc _ q);have hb:j∉z0 b:=fun q=>hj (Gb _ q);simp only[zV]at hx;cases he:ih.exec a fr h with
  |none=>simp[he]at hx
  |some p=>
   obtain⟨e0,fr0,h0⟩:=p;have g0:=one ha he;rw[he]at hx;cases e0 with
   |normal=>exact(one hb hx).trans g0
   |_=>simp only[QA,QB]at hx;obtain⟨_,rfl,_⟩:=hx;exact g0
 |cond t a b=>
  have ha:j∉z0 a:=fun q=>hj (Gc _ q);have hb:j∉z0 b:=fun q=>hj (Gb _ q);simp only[zV]at hx;split at hx
  ·exact one ha hx
  ·exact one hb hx
  ·cases hx
 |block id b=>
  have hb:j∉z0 b:=hj;simp only[zV]at hx;cases he:ih.exec b fr h with
  |none=>simp[he]at hx
  |some p=>
   obtain⟨e0,fr0,h0⟩:=p;have g0:=one hb he;rw[he]at hx;cases e0 with
   |exit id'=>simp only at hx;split at hx<;>(simp only[QA,QB]at hx;obtain⟨_,rfl,_⟩:=hx;exact g0)
   |_=>simp only[QA,QB]at hx;obtain⟨_,rfl,_⟩:=hx;exact g0
 |loop b=>
  have hb:j∉z0 b:=hj;simp only[zV]at hx;cases he:ih.exec b fr h with
  |none=>simp[he]at hx
  |some p=>
   obtain⟨e0,fr0,h0⟩:=p;have g0:=one hb he;rw[he]at hx;cases e0 with
   |normal=>exact(one (a:= .loop b) hb hx).trans g0
   |_=>simp only[QA,QB]at hx;obtain⟨_,rfl,_⟩:=hx;exact g0
 |scope b=>exact zGZ hi _ hx j hj hj
 |rangeFunc f ps a b=>
  simp only[zV]at hx;unfold zAX at hx;split at hx
  ·rw[zBj hx]
  ·split at hx
   ·rw[zBj hx]
   ·cases hx
 |_=>simp only[zV,QA,QB]at hx;obtain⟨_,rfl,_⟩:=hx;rfl
end
theorem zFX {P:Program} {tab:Tab}:∀ n,zDC (aex P tab n)
 |0=>fun c fr h e fr' h' hx=>by cases hx
 |n+1=>fun c fr h e fr' h' hx=>zHu (P:=P) (zFX n) c fr h e fr' h' hx
section
variable {P:Program} {tab:Tab}
theorem WX.frame {c:ACode} {fr:AFr} {h:AHeap} {K:AExit->AFr->AHeap->Prop} (hx:WX P tab c fr h K):WX P tab c fr h fun e fr' h'=>(∀ j,j∉z0 c->zB fr'.tm j=zB fr.tm j)/\K e fr' h':=by
 unfold WX at *;obtain⟨e,fr',h',k,ev⟩:=hx;refine⟨e,fr',h',⟨?_,k⟩,ev⟩;unfold Ev at ev;obtain⟨N,a⟩:=ev;exact zFX N _ _ _ _ _ _ (a N (QE _))
def zTg (ws:List Nat) (t0 t:Trie Value):Prop:=∀ j,ws.contains j=false->zB t j=zB t0 j
theorem WX.loopF {α:Type} (μ:α->Nat) (I:α->Trie Value->AHeap->Prop) (x:α) {b t0 ds rd h K} (h0:I x t0 h)
  (hb:∀ x t h,zTg (z0 b) t0 t->I x t h->WX P tab b ⟨t,ds,rd⟩ h (zBn μ I x ds rd K)):WX P tab (.loop b) ⟨t0,ds,rd⟩ h K:=by
 refine WX.loop μ (fun x t h=>zTg (z0 b) t0 t/\I x t h) x ⟨fun _ _=>rfl,h0⟩ fun y t h ⟨hs,hi⟩=> ?_;refine(WX.frame (hb y t h hs hi)).mono fun e fr h ⟨hf,hk⟩=> ?_;unfold zBn at hk |-;cases e with
 |normal=>
  obtain⟨k1,k2,z,k3,k4⟩:=hk;exact⟨k1,k2,z,k3,fun j hj=>(hf j (by simpa using hj)).trans (hs j hj),k4⟩
 |exit i=>exact hk
 |goto l=>exact hk
 |ret=>exact hk
end
section
variable {H:Type} {P:Program} {h:AHeap}
theorem zOy {α:Type} {p:Nat->α->Prop}:∀ n,(∀ i,i<n->∃ a,p i a)->∃ l:List α,l.length=n/\∀ (i:Nat) (a:α),l[i]?=some a->p i a:=by
 intro n;induction n with
 |zero=>exact fun _=>⟨[],rfl,fun i a ha=>by simp at ha⟩
 |succ n ih=>
  intro hx;obtain⟨l,hl,hp⟩:=ih fun i hi=>hx i (by omega);obtain⟨a,ha⟩:=hx n (by omega);refine⟨l++[a],by simp[hl],fun i b hb=> ?_⟩;by_cases hi:i<n
  ·rw[Qy (by omega)]at hb;exact hp i b hb
  ·rw[GE (by omega),hl]at hb;have:i=n:=by
    have:=(QO.1 hb).1;simp at this;omega
   subst this;simp at hb;subst hb;exact ha
end
end Go.Am
