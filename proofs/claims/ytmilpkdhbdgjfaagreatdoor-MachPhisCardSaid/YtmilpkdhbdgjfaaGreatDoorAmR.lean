/- A part of the machine and of its soundness; proves no statement. -/
import Derived.Test.YtmilpkdhbdgjfaaGreatDoorAmD
set_option linter.all false
namespace Go.Am
def Wh(h:WF)(v:Value)(j:Nat)(cs:List Value):Prop:=
 ∀ (P:Program) (ih:Ex) (t:WI Value) (x:Operand) (agg:Bool) (n off:Nat) (r:Value),ev t x=zR v (j+off)->0<n->(cut cs off n).bind (zI agg)=some r->WN P ih t h (.load agg n x)=some (r,h)
def Ww{α:Type}(c:Nat)(R:WF->List Value->α->Prop)(h:WF)(v:Value)(l:List α):Prop:=
 ∃ cells,Wt c h v l.length cells/\∀ (i:Nat) (a:α),l[i]?=some a->R h ((cells.drop (i*c)).take c) a
section
variable {α:Type}{c:Nat}{R:WF->List Value->α->Prop}{h h':WF}{v:Value}{l:List α}{P:Program}{ih:Ex}{t:WI Value}
theorem Ww.ext(hR:∀ cs a,R h cs a->R h' cs a)(s:Ww c R h v l)(e:WK h h'):Ww c R h' v l:=
 let⟨cells,a,b⟩:=s;⟨cells,a.ext e,fun i x hx=>hR _ _ (b i x hx)⟩
theorem Ww.nil:Ww c R h (.slice none 0 0) []:=⟨[],Wt.nil c h,fun i a ha=>by simp at ha⟩
theorem UH{x:Operand}(hx:ev t x=v)(s:Ww c R h v l):WN P ih t h (.len x)=some (I l.length,h):=let⟨_,a,_⟩:=s;zDa a hx
theorem Xm{x y:Operand}{i:Nat}(hx:ev t x=v)(hy:BH (ev t y)=some i)(s:Ww c R h v l)(hi:i<l.length):WN P ih t h (.idx c x y)=some (zR v (i*c),h):=
 let⟨_,a,_⟩:=s;zJf a hx hy hi
theorem Ww.some{i:Nat}(s:Ww c R h v l)(hi:i<l.length):∃ a k m,v=.slice (some a) k m:=let⟨_,a,_⟩:=s;a.some hi
theorem fldP{x:Operand}{off j:Nat}(hx:ev t x=zR v j)(hv:∃ a k m,v=.slice (Option.some a) k m):WN P ih t h (.fld off x)=Option.some (zR v (j+off),h):=zOk hx hv
theorem Ww.at{i:Nat}(s:Ww c R h v l)(hi:i<l.length):∃ cs,R h cs l[i]/\cs.length=c/\Wh h v (i*c) cs:=by
 obtain⟨cells,a,b⟩:=s;have hlen:cells.length=l.length*c:=a.1;have hle:i*c+c<=cells.length:=by
  rw[hlen,<-GX];exact Qr _ hi
 refine⟨_,b i l[i] (QB hi),by simp;omega,?_⟩;intro P ih t x agg n off r hx hn hr;cases hc:cut ((cells.drop (i*c)).take c) off n with
 |none=>rw[hc]at hr;cases hr
 |some m=>
  rw[hc]at hr;have h1:cut cells (i*c) c=Option.some ((cells.drop (i*c)).take c):=yt hle;exact zD9 a hx (zDq h1 hc) hn hr
theorem Wh.load{x:Operand}{agg:Bool}{n off j:Nat}{r:Value}{cs:List Value}(hx:ev t x=zR v (j+off))(p:Wh h v j cs)(hn:0<n)(hr:(cut cs off n).bind (zI agg)=Option.some r):
  WN P ih t h (.load agg n x)=Option.some (r,h):=p P ih t x agg n off r hx hn hr
theorem Vs{x:Operand}{agg:Bool}{n j:Nat}{r:Value}{cs:List Value}(hx:ev t x=zR v j)(p:Wh h v j cs)(hn:0<n)(hr:(cut cs 0 n).bind (zI agg)=Option.some r):
  WN P ih t h (.load agg n x)=Option.some (r,h):=p P ih t x agg n 0 r hx hn hr
end
section
variable {P:Program}{tab:Wv}
def inC(h:WF):WF:={h with mark:=h.n,wr:=[]}
theorem zNJ(o:WG)(ws:List (Nat×Nat))(rs:List (Nat×Nat×Option (Nat×Nat×List Value)))(bs:List (Nat×Nat))(t:WI Value)(h':WF):
  ((match zi t o with
   |some g=>(ws.all fun x=> !(Nat.beq g x.2&&([]:List Nat).contains x.1))&&bs.all fun x=> !([]:List Nat).contains x.1||Nat.ble (g+1) x.2
   |none=>true)&&rs.all fun x=> !(([]:List Nat).contains x.1&&h'.wr.contains x.2.1)||zDC h' x.2.1 x.2.2)=true:=by
 cases zi t o<;>simp
theorem yw{h:WF}{g x:Nat}(hx:x∈h.log g):x=g\/x∈h.wr:=by
 unfold WF.log at hx;cases hb:Nat.ble h.mark g with
 |true=>rw[hb]at hx;exact .inr hx
 |false=>rw[hb]at hx;exact GI.1 hx
def zFk(ops:List (WG×List Nat)):Nat:=(ops.filter fun x=>Nat.beq (zG x.1.op) 3).length
end
section
variable {P:Program}{tab:Wv}{m:Nat}{l:List WG}{o:WG}{g:Nat}{fr:WR}{h h0 h':WF}{Q:WR->WF->Prop}{K:WP->WR->WF->Prop}
def zq(h h':WF):WF:={h' with mark:=h.mark,wr:=h.wr}
theorem WK.wrnil(e:WK (Am.inC h) h'):h'.wr=[]:=e.wr (QE _)
def B5(K:WP->WR->WF->Prop)(h:WF):WR->WF->Prop:=fun fr' h'=>K .normal fr' (Am.zq h h')
end
theorem Wt.shape{c n:Nat}{h:WF}{v:Value}{cells:List Value}(s:Wt c h v n cells):∃ a n k,v=.slice a n k:=by
 rcases s.2 with⟨_,rfl|⟨a,k,rfl⟩⟩|⟨g,off,row,rfl,_⟩
 ·exact⟨_,_,_,rfl⟩
 ·exact⟨_,_,_,rfl⟩
 ·exact⟨_,_,_,rfl⟩
section
variable {P:Program}{tab:Wv}{t:WI Value}{h h0:WF}{ds:List Deferred}{rd:Option Nat}{l:List WG}{Q:WR->WF->Prop}
def Ws(p:Value)(h h':WF):Prop:=h.n<=h'.n/\∀ g,g<h.n->p≠ .pointer (some ⟨g,0,none⟩)->h'.get g=h.get g
theorem Vq{x y:Operand}{p v:Value}{cells cs:List Value}{j n:Nat}(hx:ev t x=zw p j)(hy:ev t y=v)(hv:v.cells=cs.toArray)(h1:zH cs=true)(hn:cs.length=n)(o:WH h0 h p cells)(e0:WK h0 h)(hl:j+n<=cells.length)
  (k:∀ h',WK h0 h'->WH h0 h' p (zO cells j cs)->Ws p h h'->WO P tab l ⟨t,ds,rd⟩ h' Q):WO P tab (⟨none,none,.store n x y⟩::l) ⟨t,ds,rd⟩ h Q:=by
 obtain⟨g,g1,g2,rfl,g3⟩:=o;subst hn;have hst:ze h ⟨g,j,none⟩ cs=some (h.set g (.row (zO cells j cs) true 0)):=by
  have h2:Nat.ble (j+cs.length) cells.length=true:=QF hl;have h0:Nat.ble 0 j=true:=QF (QU _);simp only[ze,g3,h2,h0,h1,Qn];rfl
 refine VS undef (h.set g (.row (zO cells j cs) true 0)) rfl ?_ (k _ (e0.set g1 g2 _) ⟨g,g1,g2,rfl,by rw[zT,QG rfl]⟩ ⟨QE _,fun k _ hk=> ?_⟩)
 ·simp only[WN,hx,zw,hy,Qk,hv,Gw,GP,hst,QH,cond_true]
 ·rw[zT,QC (fun e=>hk (by rw[e]))]
theorem XD{x y:Operand}{p v:Value}{cells cs:List Value}{n:Nat}(hx:ev t x=p)(hy:ev t y=v)(hv:v.cells=cs.toArray)(h1:zH cs=true)(hn:cs.length=n)(o:WH h0 h p cells)(e0:WK h0 h)(hl:cells.length=n)
  (k:∀ h',WK h0 h'->WH h0 h' p cs->Ws p h h'->WO P tab l ⟨t,ds,rd⟩ h' Q):WO P tab (⟨none,none,.store n x y⟩::l) ⟨t,ds,rd⟩ h Q:=by
 refine Vq (hx.trans o.at0) hy hv h1 hn o e0 (by omega) fun h' a b c=>k h' a ?_ c;have e:zO cells 0 cs=cs:=by simp[zO,hn,hl]
 rwa [e]at b
end
def yE:WU->List Nat
 | .region ops=>ops.filterMap (·.dst)
 | .regionC ops=>ops.filterMap (·.1.dst)
 | .seq a b=>yE a++yE b
 | .cond _ a b=>yE a++yE b
 | .block _ b| .loop b| .scope b=>yE b
 |_=>[]
section
variable {P:Program}{ih:Ex}
theorem zBB{d:Option Nat}{fr:WR}{v:Value}{j:Nat}(hj:d≠some j):zC (val d fr v).tm j=zC fr.tm j:=by
 cases d with
 |none=>rfl
 |some d=>simp only[val,yH];rw[QC (fun e=>hj (by rw[e]))]
theorem zCt{o:WG}{fr fr':WR}{h h':WF}(hx:yD P ih o fr h=some (fr',h')){j:Nat}(hj:o.dst≠some j):zC fr'.tm j=zC fr.tm j:=by
 unfold yD at hx;cases hw:zW fr.tm o.guard with
 |false=>
  simp only[hw,QR,QA,QD]at hx;obtain⟨rfl,_⟩:=hx;exact zBB hj
 |true=>
  simp only[hw,cond_true]at hx;cases hv:zk P ih fr.tm fr.round h o.op with
  |none=>simp[hv]at hx
  |some p=>
   obtain⟨v,ds,h1⟩:=p;simp only[hv,QA,QD]at hx;obtain⟨rfl,_⟩:=hx;exact zBB (fr:={fr with dfs:=ds++fr.dfs}) hj
theorem zCO:∀ {l:List WG} {fr fr':WR} {h h':WF},yT P ih l fr h=some (fr',h')->∀ {j:Nat},j∉l.filterMap (·.dst)->zC fr'.tm j=zC fr.tm j:=by
 intro l;induction l with
 |nil=>intro fr fr' h h' hx j _;simp only[yT,QA,QD]at hx;obtain⟨rfl,_⟩:=hx;rfl
 |cons o l ihl=>
  intro fr fr' h h' hx j hj;simp only[yT]at hx;cases ho:yD P ih o fr h with
  |none=>simp[ho]at hx
  |some p=>
   obtain⟨fr1,h1⟩:=p;simp only[ho]at hx;have h1:o.dst≠some j:=fun e=>hj (Gq.2 ⟨o,Q0 ..,e⟩);have h2:j∉l.filterMap (·.dst):=fun e=>by
    obtain⟨a,b,c⟩:=Gq.1 e;exact hj (Gq.2 ⟨a,GC _ b,c⟩)
   exact(ihl hx h2).trans (zCt ho h1)
theorem zF1{g:Nat}{o:WG}{fr fr':WR}{h h':WF}(hx:yB P ih g o fr h=some (fr',h')){j:Nat}(hj:o.dst≠some j):zC fr'.tm j=zC fr.tm j:=by
 unfold yB at hx;cases hk:Nat.beq (zG o.op) 3 with
 |false=>simp only[hk,QR]at hx;exact zCt hx hj
 |true=>
  simp only[hk,cond_true]at hx;cases hw:zW fr.tm o.guard with
  |false=>simp only[hw,QR,QA,QD]at hx;obtain⟨rfl,_⟩:=hx;exact zBB hj
  |true=>
   simp only[hw,cond_true]at hx;cases hm:yg fr.tm o.op with
   |none=>simp[hm]at hx
   |some p=>simp only[hm,QA,QD]at hx;obtain⟨rfl,_⟩:=hx;exact zBB hj
theorem zEm:∀ {l:List (WG×List Nat)} {i g:Nat} {ws:List (Nat×Nat)} {rs:List (Nat×Nat×Option (Nat×Nat×List Value))} {bs ws':List (Nat×Nat)} {fr fr':WR} {h h':WF},
  yF P ih l i g ws rs bs fr h=some (fr',h',ws')->∀ {j:Nat},j∉l.filterMap (·.1.dst)->zC fr'.tm j=zC fr.tm j:=by
 intro l;induction l with
 |nil=>intro i g ws rs bs ws' fr fr' h h' hx j _;simp only[yF,QA,QD]at hx;obtain⟨rfl,_⟩:=hx;rfl
 |cons o l ihl=>
  intro i g ws rs bs ws' fr fr' h h' hx j hj;obtain⟨o,un⟩:=o;simp only[yF]at hx;cases ho:yB P ih g o fr {h with mark:=h.n,wr:=[]} with
  |none=>simp[ho]at hx
  |some p=>
   obtain⟨fr1,h1⟩:=p;simp only[ho]at hx;obtain⟨_,hx⟩:=yi hx;have h1:o.dst≠some j:=fun e=>hj (Gq.2 ⟨(o,un),Q0 ..,e⟩);have h2:j∉l.filterMap (·.1.dst):=fun e=>by
    obtain⟨a,b,c⟩:=Gq.1 e;exact hj (Gq.2 ⟨a,GC _ b,c⟩)
   exact(ihl hx h2).trans (zF1 ho h1)
theorem zHM:∀ {c r:WU} {l:Nat},zx c l=some r->∀ j,j∈yE r->j∈yE c:=by
 intro c;induction c with
 |seq a b iha ihb=>
  intro r l hx j hj;simp only[zx]at hx;cases ha:zx a l with
  |none=>rw[ha]at hx;exact Gd _ (ihb hx j hj)
  |some q=>
   rw[ha]at hx;simp only[QA]at hx;subst hx;rcases Qy.1 hj with h|h
   ·exact Gg _ (iha ha j h)
   ·exact Gd _ h
 |label l'=>intro r l hx j hj;simp only[zx]at hx;split at hx<;>cases hx;cases hj
 |_=>intro r l hx;cases hx
def zDR(ih:Ex):Prop:=∀ c fr h e fr' h',ih.exec c fr h=some (e,fr',h')->∀ j,j∉yE c->zC fr'.tm j=zC fr.tm j
theorem zGr(hi:zDR ih){b:WU}:∀ (n:Nat) {c:WU} {fr fr':WR} {h h':WF} {e:WP},Zk ih n b c fr h=some (e,fr',h')->∀ j,j∉yE b->j∉yE c->zC fr'.tm j=zC fr.tm j:=by
 intro n;induction n with
 |zero=>intro c fr fr' h h' e hx;cases hx
 |succ n ihn=>
  intro c fr fr' h h' e hx j hb hc;simp only[Zk]at hx;cases he:ih.exec c fr h with
  |none=>simp[he]at hx
  |some p=>
   obtain⟨e0,fr0,h0⟩:=p;have g0:=hi _ _ _ _ _ _ he j hc;rw[he]at hx;cases e0 with
   |goto l=>
    simp only at hx;cases hf:zx b l with
    |none=>simp only[hf,QA,QD]at hx;obtain⟨_,rfl,_⟩:=hx;exact g0
    |some rest=>simp only[hf]at hx;exact(ihn hx j hb (fun hj=>hb (zHM hf j hj))).trans g0
   |_=>simp only[QA,QD]at hx;obtain⟨_,rfl,_⟩:=hx;exact g0
theorem zB1{f:Value}{ps:List Nat}{a b:WU}{fr fr':WR}{d:Nat}{mark:List Deferred}{h h':WF}{e:WP}(hx:Yu ih f ps a b fr d mark h=some (e,fr',h')):fr'.tm=fr.tm:=by
 unfold Yu at hx;split at hx
 ·cases hx
 ·split at hx
  ·repeat' split at hx
   all_goals first
    |(cases hx;done)
    |(simp only[QA,QD]at hx;obtain⟨_,rfl,_⟩:=hx;rfl)
  ·cases hx
theorem zIC(hi:zDR ih):zDR ⟨zh P ih,ih.call⟩:=by
 intro c fr h e fr' h' hx0 j hj;have hx:zh P ih c fr h=some (e,fr',h'):=hx0;clear hx0;have one:∀ {a:WU},j∉yE a->∀ {fr:WR} {h:WF} {e:WP} {fr':WR} {h':WF},ih.exec a fr h=some (e,fr',h')->zC fr'.tm j=zC fr.tm j:=by
  intro a ha fr h e fr' h' hh;exact hi _ _ _ _ _ _ hh j ha
 cases c with
 |region ops=>
  simp only[zh,QP,QD]at hx;obtain⟨⟨fr1,h1⟩,hx,_,rfl,_⟩:=hx;exact zCO hx hj
 |regionC ops=>
  simp only[zh,QP,QD]at hx;obtain⟨⟨fr1,h1⟩,hx,_,rfl,_⟩:=hx;unfold YN at hx;cases hc:yF P ih ops 0 h.n [] [] [] fr {h with n:=h.n+(ops.filter fun x=>Nat.beq (zG x.1.op) 3).length} with
  |none=>simp[hc]at hx
  |some p=>
   obtain⟨fr2,h2,ws⟩:=p;simp only[hc,QA,QD]at hx;obtain⟨rfl,_⟩:=hx;exact zEm hc hj
 |seq a b=>
  have ha:j∉yE a:=fun q=>hj (Gg _ q);have hb:j∉yE b:=fun q=>hj (Gd _ q);simp only[zh]at hx;cases he:ih.exec a fr h with
  |none=>simp[he]at hx
  |some p=>
   obtain⟨e0,fr0,h0⟩:=p;have g0:=one ha he;rw[he]at hx;cases e0 with
   |normal=>exact(one hb hx).trans g0
   |_=>simp only[QA,QD]at hx;obtain⟨_,rfl,_⟩:=hx;exact g0
 |cond t a b=>
  have ha:j∉yE a:=fun q=>hj (Gg _ q);have hb:j∉yE b:=fun q=>hj (Gd _ q);simp only[zh]at hx;split at hx
  ·exact one ha hx
  ·exact one hb hx
  ·cases hx
 |block id b=>
  have hb:j∉yE b:=hj;simp only[zh]at hx;cases he:ih.exec b fr h with
  |none=>simp[he]at hx
  |some p=>
   obtain⟨e0,fr0,h0⟩:=p;have g0:=one hb he;rw[he]at hx;cases e0 with
   |exit id'=>simp only at hx;split at hx<;>(simp only[QA,QD]at hx;obtain⟨_,rfl,_⟩:=hx;exact g0)
   |_=>simp only[QA,QD]at hx;obtain⟨_,rfl,_⟩:=hx;exact g0
 |loop b=>
  have hb:j∉yE b:=hj;simp only[zh]at hx;cases he:ih.exec b fr h with
  |none=>simp[he]at hx
  |some p=>
   obtain⟨e0,fr0,h0⟩:=p;have g0:=one hb he;rw[he]at hx;cases e0 with
   |normal=>exact(one (a:= .loop b) hb hx).trans g0
   |_=>simp only[QA,QD]at hx;obtain⟨_,rfl,_⟩:=hx;exact g0
 |scope b=>exact zGr hi _ hx j hj hj
 |rangeFunc f ps a b=>
  simp only[zh]at hx;unfold zAe at hx;split at hx
  ·rw[zB1 hx]
  ·split at hx
   ·rw[zB1 hx]
   ·cases hx
 |_=>simp only[zh,QA,QD]at hx;obtain⟨_,rfl,_⟩:=hx;rfl
end
theorem zFR{P:Program}{tab:Wv}:∀ n,zDR (BI P tab n)
 |0=>fun c fr h e fr' h' hx=>by cases hx
 |n+1=>fun c fr h e fr' h' hx=>zIC (P:=P) (zFR n) c fr h e fr' h' hx
section
variable {P:Program}{tab:Wv}
theorem WX.frame{c:WU}{fr:WR}{h:WF}{K:WP->WR->WF->Prop}(hx:WX P tab c fr h K):WX P tab c fr h fun e fr' h'=>(∀ j,j∉yE c->zC fr'.tm j=zC fr.tm j)/\K e fr' h':=by
 unfold WX at *;obtain⟨e,fr',h',k,ev⟩:=hx;refine⟨e,fr',h',⟨?_,k⟩,ev⟩;unfold Ev at ev;obtain⟨N,a⟩:=ev;exact zFR N _ _ _ _ _ _ (a N (QE _))
def zQn(ws:List Nat)(t0 t:WI Value):Prop:=∀ j,ws.contains j=false->zC t j=zC t0 j
theorem Xy{α:Type}(μ:α->Nat)(I:α->WI Value->WF->Prop)(x:α){b t0 ds rd h K}(h0:I x t0 h)
  (hb:∀ x t h,zQn (yE b) t0 t->I x t h->WX P tab b ⟨t,ds,rd⟩ h (zCS μ I x ds rd K)):WX P tab (.loop b) ⟨t0,ds,rd⟩ h K:=by
 refine WX.loop μ (fun x t h=>zQn (yE b) t0 t/\I x t h) x ⟨fun _ _=>rfl,h0⟩ fun y t h ⟨hs,hi⟩=> ?_;refine(WX.frame (hb y t h hs hi)).mono fun e fr h ⟨hf,hk⟩=> ?_;unfold zCS at hk |-;cases e with
 |normal=>
  obtain⟨k1,k2,z,k3,k4⟩:=hk;exact⟨k1,k2,z,k3,fun j hj=>(hf j (by simpa using hj)).trans (hs j hj),k4⟩
 |exit i=>exact hk
 |goto l=>exact hk
 |ret=>exact hk
end
section
variable {H:Type}{P:Program}{h:WF}
theorem zJ2{α:Type}{p:Nat->α->Prop}:∀ n,(∀ i,i<n->∃ a,p i a)->∃ l:List α,l.length=n/\∀ (i:Nat) (a:α),l[i]?=some a->p i a:=by
 intro n;induction n with
 |zero=>exact fun _=>⟨[],rfl,fun i a ha=>by simp at ha⟩
 |succ n ih=>
  intro hx;obtain⟨l,hl,hp⟩:=ih fun i hi=>hx i (by omega);obtain⟨a,ha⟩:=hx n (by omega);refine⟨l++[a],by simp[hl],fun i b hb=> ?_⟩;by_cases hi:i<n
  ·rw[Qc (by omega)]at hb;exact hp i b hb
  ·rw[Qm (by omega),hl]at hb;have:i=n:=by
    have:=(QM.1 hb).1;simp at this;omega
   subst this;simp at hb;subst hb;exact ha
end
end Go.Am
