/- A part of the machine and of its soundness; proves no statement. -/
import Derived.Test.YtmejfcakhpihlaaGreatDoorAmD
set_option linter.unusedVariables false
set_option linter.unusedSimpArgs false
namespace Go.Am
def Wt(h:U2)(v:Value)(j:Nat)(cs:List Value):Prop:=
 ∀ (P:Program) (ih:Ex) (t:U7 Value) (x:Operand) (agg:Bool) (n off:Nat) (r:Value),ev t x=yM v (j+off)->0<n->(cut cs off n).bind (zH agg)=some r->WE P ih t h (.load agg n x)=some (r,h)
def W4{α:Type}(c:Nat)(R:U2->List Value->α->Prop)(h:U2)(v:Value)(l:List α):Prop:=
 ∃ cells,Wb c h v l.length cells/\∀ (i:Nat) (a:α),l[i]?=some a->R h ((cells.drop (i*c)).take c) a
section
variable {α:Type}{c:Nat}{R:U2->List Value->α->Prop}{h h':U2}{v:Value}{l:List α}{P:Program}{ih:Ex}{t:U7 Value}
theorem W4.ext(hR:∀ cs a,R h cs a->R h' cs a)(s:W4 c R h v l)(e:U8 h h'):W4 c R h' v l:=
 let⟨cells,a,b⟩:=s;⟨cells,a.ext e,fun i x hx=>hR _ _ (b i x hx)⟩
theorem W4.nil:W4 c R h (.slice none 0 0) []:=⟨[],Wb.nil c h,fun i a ha=>by simp at ha⟩
theorem Xh{x:Operand}(hx:ev t x=v)(s:W4 c R h v l):WE P ih t h (.len x)=some (I l.length,h):=let⟨_,a,_⟩:=s;zDq a hx
theorem XZ{x y:Operand}{i:Nat}(hx:ev t x=v)(hy:W9 (ev t y)=some i)(s:W4 c R h v l)(hi:i<l.length):WE P ih t h (.idx c x y)=some (yM v (i*c),h):=
 let⟨_,a,_⟩:=s;zKN a hx hy hi
theorem W4.some{i:Nat}(s:W4 c R h v l)(hi:i<l.length):∃ a k m,v=.slice (some a) k m:=let⟨_,a,_⟩:=s;a.some hi
theorem fldP{x:Operand}{off j:Nat}(hx:ev t x=yM v j)(hv:∃ a k m,v=.slice (Option.some a) k m):WE P ih t h (.fld off x)=Option.some (yM v (j+off),h):=zSh hx hv
theorem W4.at{i:Nat}(s:W4 c R h v l)(hi:i<l.length):∃ cs,R h cs l[i]/\cs.length=c/\Wt h v (i*c) cs:=by
 obtain⟨cells,a,b⟩:=s;have hlen:cells.length=l.length*c:=a.1;have hle:i*c+c<=cells.length:=by
  rw[hlen,<-JC];exact Gc _ hi
 refine⟨_,b i l[i] (QB hi),by simp;omega,?_⟩;intro P ih t x agg n off r hx hn hr;cases hc:cut ((cells.drop (i*c)).take c) off n with
 |none=>rw[hc]at hr;cases hr
 |some m=>
  rw[hc]at hr;have h1:cut cells (i*c) c=Option.some ((cells.drop (i*c)).take c):=ZE hle;exact zFB a hx (zEC h1 hc) hn hr
theorem Wt.load{x:Operand}{agg:Bool}{n off j:Nat}{r:Value}{cs:List Value}(hx:ev t x=yM v (j+off))(p:Wt h v j cs)(hn:0<n)(hr:(cut cs off n).bind (zH agg)=Option.some r):
  WE P ih t h (.load agg n x)=Option.some (r,h):=p P ih t x agg n off r hx hn hr
theorem Vq{x:Operand}{agg:Bool}{n j:Nat}{r:Value}{cs:List Value}(hx:ev t x=yM v j)(p:Wt h v j cs)(hn:0<n)(hr:(cut cs 0 n).bind (zH agg)=Option.some r):
  WE P ih t h (.load agg n x)=Option.some (r,h):=p P ih t x agg n 0 r hx hn hr
end
section
variable {P:Program}{tab:Wi}
def inC(h:U2):U2:={h with mark:=h.n,wr:=[]}
theorem zJB(o:U4)(ws:List (Nat×Nat))(rs:List (Nat×Nat×Option (Nat×Nat×List Value)))(bs:List (Nat×Nat))(t:U7 Value)(h':U2):
  ((match zZ t o with
   |some g=>(ws.all fun x=> !(Nat.beq g x.2&&([]:List Nat).contains x.1))&&bs.all fun x=> !([]:List Nat).contains x.1||Nat.ble (g+1) x.2
   |none=>true)&&rs.all fun x=> !(([]:List Nat).contains x.1&&h'.wr.contains x.2.1)||zBo h' x.2.1 x.2.2)=true:=by
 cases zZ t o<;>simp
theorem ZB{h:U2}{g x:Nat}(hx:x∈h.log g):x=g\/x∈h.wr:=by
 unfold U2.log at hx;cases hb:Nat.ble h.mark g with
 |true=>rw[hb]at hx;exact .inr hx
 |false=>rw[hb]at hx;exact GL.1 hx
def zC8(ops:List (U4×List Nat)):Nat:=(ops.filter fun x=>Nat.beq (zE x.1.op) 3).length
end
section
variable {P:Program}{tab:Wi}{m:Nat}{l:List U4}{o:U4}{g:Nat}{fr:WF}{h h0 h':U2}{Q:WF->U2->Prop}{K:WB->WF->U2->Prop}
def yu(h h':U2):U2:={h' with mark:=h.mark,wr:=h.wr}
theorem U8.wrnil(e:U8 (Am.inC h) h'):h'.wr=[]:=e.wr (QE _)
def Bq(K:WB->WF->U2->Prop)(h:U2):WF->U2->Prop:=fun fr' h'=>K .normal fr' (Am.yu h h')
end
theorem Wb.shape{c n:Nat}{h:U2}{v:Value}{cells:List Value}(s:Wb c h v n cells):∃ a n k,v=.slice a n k:=by
 rcases s.2 with⟨_,rfl|⟨a,k,rfl⟩⟩|⟨g,off,row,rfl,_⟩
 ·exact⟨_,_,_,rfl⟩
 ·exact⟨_,_,_,rfl⟩
 ·exact⟨_,_,_,rfl⟩
section
variable {P:Program}{tab:Wi}{t:U7 Value}{h h0:U2}{ds:List Deferred}{rd:Option Nat}{l:List U4}{Q:WF->U2->Prop}
def Wc(p:Value)(h h':U2):Prop:=h.n<=h'.n/\∀ g,g<h.n->p≠ .pointer (some ⟨g,0,none⟩)->h'.get g=h.get g
theorem Vn{x y:Operand}{p v:Value}{cells cs:List Value}{j n:Nat}(hx:ev t x=yC p j)(hy:ev t y=v)(hv:v.cells=cs.toArray)(h1:zK cs=true)(hn:cs.length=n)(o:U6 h0 h p cells)(e0:U8 h0 h)(hl:j+n<=cells.length)
  (k:∀ h',U8 h0 h'->U6 h0 h' p (zd cells j cs)->Wc p h h'->WO P tab l ⟨t,ds,rd⟩ h' Q):WO P tab (⟨none,none,.store n x y⟩::l) ⟨t,ds,rd⟩ h Q:=by
 obtain⟨g,g1,g2,rfl,g3⟩:=o;subst hn;have hst:zg h ⟨g,j,none⟩ cs=some (h.set g (.row (zd cells j cs) true 0)):=by
  have h2:Nat.ble (j+cs.length) cells.length=true:=QH hl;have h0:Nat.ble 0 j=true:=QH (QT _);simp only[zg,g3,h2,h0,h1,Q1];rfl
 refine VR undef (h.set g (.row (zd cells j cs) true 0)) rfl ?_ (k _ (e0.set g1 g2 _) ⟨g,g1,g2,rfl,by rw[zj,QI rfl]⟩ ⟨QE _,fun k _ hk=> ?_⟩)
 ·simp only[WE,hx,yC,hy,Q6,hv,Gx,Ge,hst,QL,cond_true]
 ·rw[zj,QC (fun e=>hk (by rw[e]))]
theorem XB{x y:Operand}{p v:Value}{cells cs:List Value}{n:Nat}(hx:ev t x=p)(hy:ev t y=v)(hv:v.cells=cs.toArray)(h1:zK cs=true)(hn:cs.length=n)(o:U6 h0 h p cells)(e0:U8 h0 h)(hl:cells.length=n)
  (k:∀ h',U8 h0 h'->U6 h0 h' p cs->Wc p h h'->WO P tab l ⟨t,ds,rd⟩ h' Q):WO P tab (⟨none,none,.store n x y⟩::l) ⟨t,ds,rd⟩ h Q:=by
 refine Vn (hx.trans o.at0) hy hv h1 hn o e0 (by omega) fun h' a b c=>k h' a ?_ c;have e:zd cells 0 cs=cs:=by simp[zd,hn,hl]
 rwa [e]at b
end
def yH:U3->List Nat
 | .region ops=>ops.filterMap (·.dst)
 | .regionC ops=>ops.filterMap (·.1.dst)
 | .seq a b=>yH a++yH b
 | .cond _ a b=>yH a++yH b
 | .block _ b| .loop b| .scope b=>yH b
 |_=>[]
section
variable {P:Program}{ih:Ex}
theorem zBc{d:Option Nat}{fr:WF}{v:Value}{j:Nat}(hj:d≠some j):zB (val d fr v).tm j=zB fr.tm j:=by
 cases d with
 |none=>rfl
 |some d=>simp only[val,zh];rw[QC (fun e=>hj (by rw[e]))]
theorem zDO{o:U4}{fr fr':WF}{h h':U2}(hx:yI P ih o fr h=some (fr',h')){j:Nat}(hj:o.dst≠some j):zB fr'.tm j=zB fr.tm j:=by
 unfold yI at hx;cases hw:zP fr.tm o.guard with
 |false=>
  simp only[hw,QR,QA,QD]at hx;obtain⟨rfl,_⟩:=hx;exact zBc hj
 |true=>
  simp only[hw,cond_true]at hx;cases hv:zt P ih fr.tm fr.round h o.op with
  |none=>simp[hv]at hx
  |some p=>
   obtain⟨v,ds,h1⟩:=p;simp only[hv,QA,QD]at hx;obtain⟨rfl,_⟩:=hx;exact zBc (fr:={fr with dfs:=ds++fr.dfs}) hj
theorem zCL:∀ {l:List U4} {fr fr':WF} {h h':U2},yV P ih l fr h=some (fr',h')->∀ {j:Nat},j∉l.filterMap (·.dst)->zB fr'.tm j=zB fr.tm j:=by
 intro l;induction l with
 |nil=>intro fr fr' h h' hx j _;simp only[yV,QA,QD]at hx;obtain⟨rfl,_⟩:=hx;rfl
 |cons o l ihl=>
  intro fr fr' h h' hx j hj;simp only[yV]at hx;cases ho:yI P ih o fr h with
  |none=>simp[ho]at hx
  |some p=>
   obtain⟨fr1,h1⟩:=p;simp only[ho]at hx;have h1:o.dst≠some j:=fun e=>hj (Gs.2 ⟨o,Qc ..,e⟩);have h2:j∉l.filterMap (·.dst):=fun e=>by
    obtain⟨a,b,c⟩:=Gs.1 e;exact hj (Gs.2 ⟨a,Qh _ b,c⟩)
   exact(ihl hx h2).trans (zDO ho h1)
theorem zHR{g:Nat}{o:U4}{fr fr':WF}{h h':U2}(hx:z0 P ih g o fr h=some (fr',h')){j:Nat}(hj:o.dst≠some j):zB fr'.tm j=zB fr.tm j:=by
 unfold z0 at hx;cases hk:Nat.beq (zE o.op) 3 with
 |false=>simp only[hk,QR]at hx;exact zDO hx hj
 |true=>
  simp only[hk,cond_true]at hx;cases hw:zP fr.tm o.guard with
  |false=>simp only[hw,QR,QA,QD]at hx;obtain⟨rfl,_⟩:=hx;exact zBc hj
  |true=>
   simp only[hw,cond_true]at hx;cases hm:ye fr.tm o.op with
   |none=>simp[hm]at hx
   |some p=>simp only[hm,QA,QD]at hx;obtain⟨rfl,_⟩:=hx;exact zBc hj
theorem zFP:∀ {l:List (U4×List Nat)} {i g:Nat} {ws:List (Nat×Nat)} {rs:List (Nat×Nat×Option (Nat×Nat×List Value))} {bs ws':List (Nat×Nat)} {fr fr':WF} {h h':U2},
  zz P ih l i g ws rs bs fr h=some (fr',h',ws')->∀ {j:Nat},j∉l.filterMap (·.1.dst)->zB fr'.tm j=zB fr.tm j:=by
 intro l;induction l with
 |nil=>intro i g ws rs bs ws' fr fr' h h' hx j _;simp only[zz,QA,QD]at hx;obtain⟨rfl,_⟩:=hx;rfl
 |cons o l ihl=>
  intro i g ws rs bs ws' fr fr' h h' hx j hj;obtain⟨o,un⟩:=o;simp only[zz]at hx;cases ho:z0 P ih g o fr {h with mark:=h.n,wr:=[]} with
  |none=>simp[ho]at hx
  |some p=>
   obtain⟨fr1,h1⟩:=p;simp only[ho]at hx;obtain⟨_,hx⟩:=yl hx;have h1:o.dst≠some j:=fun e=>hj (Gs.2 ⟨(o,un),Qc ..,e⟩);have h2:j∉l.filterMap (·.1.dst):=fun e=>by
    obtain⟨a,b,c⟩:=Gs.1 e;exact hj (Gs.2 ⟨a,Qh _ b,c⟩)
   exact(ihl hx h2).trans (zHR ho h1)
theorem zH2:∀ {c r:U3} {l:Nat},yB c l=some r->∀ j,j∈yH r->j∈yH c:=by
 intro c;induction c with
 |seq a b iha ihb=>
  intro r l hx j hj;simp only[yB]at hx;cases ha:yB a l with
  |none=>rw[ha]at hx;exact GM _ (ihb hx j hj)
  |some q=>
   rw[ha]at hx;simp only[QA]at hx;subst hx;rcases Qi.1 hj with h|h
   ·exact GW _ (iha ha j h)
   ·exact GM _ h
 |label l'=>intro r l hx j hj;simp only[yB]at hx;split at hx<;>cases hx;cases hj
 |_=>intro r l hx;cases hx
def zDs(ih:Ex):Prop:=∀ c fr h e fr' h',ih.exec c fr h=some (e,fr',h')->∀ j,j∉yH c->zB fr'.tm j=zB fr.tm j
theorem zHO(hi:zDs ih){b:U3}:∀ (n:Nat) {c:U3} {fr fr':WF} {h h':U2} {e:WB},Zr ih n b c fr h=some (e,fr',h')->∀ j,j∉yH b->j∉yH c->zB fr'.tm j=zB fr.tm j:=by
 intro n;induction n with
 |zero=>intro c fr fr' h h' e hx;cases hx
 |succ n ihn=>
  intro c fr fr' h h' e hx j hb hc;simp only[Zr]at hx;cases he:ih.exec c fr h with
  |none=>simp[he]at hx
  |some p=>
   obtain⟨e0,fr0,h0⟩:=p;have g0:=hi _ _ _ _ _ _ he j hc;rw[he]at hx;cases e0 with
   |goto l=>
    simp only at hx;cases hf:yB b l with
    |none=>simp only[hf,QA,QD]at hx;obtain⟨_,rfl,_⟩:=hx;exact g0
    |some rest=>simp only[hf]at hx;exact(ihn hx j hb (fun hj=>hb (zH2 hf j hj))).trans g0
   |_=>simp only[QA,QD]at hx;obtain⟨_,rfl,_⟩:=hx;exact g0
theorem zCN{f:Value}{ps:List Nat}{a b:U3}{fr fr':WF}{d:Nat}{mark:List Deferred}{h h':U2}{e:WB}(hx:Y4 ih f ps a b fr d mark h=some (e,fr',h')):fr'.tm=fr.tm:=by
 unfold Y4 at hx;split at hx
 ·cases hx
 ·split at hx
  ·repeat' split at hx
   all_goals first
    |(cases hx;done)
    |(simp only[QA,QD]at hx;obtain⟨_,rfl,_⟩:=hx;rfl)
  ·cases hx
theorem zHX(hi:zDs ih):zDs ⟨ze P ih,ih.call⟩:=by
 intro c fr h e fr' h' hx0 j hj;have hx:ze P ih c fr h=some (e,fr',h'):=hx0;clear hx0;have one:∀ {a:U3},j∉yH a->∀ {fr:WF} {h:U2} {e:WB} {fr':WF} {h':U2},ih.exec a fr h=some (e,fr',h')->zB fr'.tm j=zB fr.tm j:=by
  intro a ha fr h e fr' h' hh;exact hi _ _ _ _ _ _ hh j ha
 cases c with
 |region ops=>
  simp only[ze,QP,QD]at hx;obtain⟨⟨fr1,h1⟩,hx,_,rfl,_⟩:=hx;exact zCL hx hj
 |regionC ops=>
  simp only[ze,QP,QD]at hx;obtain⟨⟨fr1,h1⟩,hx,_,rfl,_⟩:=hx;unfold YB at hx;cases hc:zz P ih ops 0 h.n [] [] [] fr {h with n:=h.n+(ops.filter fun x=>Nat.beq (zE x.1.op) 3).length} with
  |none=>simp[hc]at hx
  |some p=>
   obtain⟨fr2,h2,ws⟩:=p;simp only[hc,QA,QD]at hx;obtain⟨rfl,_⟩:=hx;exact zFP hc hj
 |seq a b=>
  have ha:j∉yH a:=fun q=>hj (GW _ q);have hb:j∉yH b:=fun q=>hj (GM _ q);simp only[ze]at hx;cases he:ih.exec a fr h with
  |none=>simp[he]at hx
  |some p=>
   obtain⟨e0,fr0,h0⟩:=p;have g0:=one ha he;rw[he]at hx;cases e0 with
   |normal=>exact(one hb hx).trans g0
   |_=>simp only[QA,QD]at hx;obtain⟨_,rfl,_⟩:=hx;exact g0
 |cond t a b=>
  have ha:j∉yH a:=fun q=>hj (GW _ q);have hb:j∉yH b:=fun q=>hj (GM _ q);simp only[ze]at hx;split at hx
  ·exact one ha hx
  ·exact one hb hx
  ·cases hx
 |block id b=>
  have hb:j∉yH b:=hj;simp only[ze]at hx;cases he:ih.exec b fr h with
  |none=>simp[he]at hx
  |some p=>
   obtain⟨e0,fr0,h0⟩:=p;have g0:=one hb he;rw[he]at hx;cases e0 with
   |exit id'=>simp only at hx;split at hx<;>(simp only[QA,QD]at hx;obtain⟨_,rfl,_⟩:=hx;exact g0)
   |_=>simp only[QA,QD]at hx;obtain⟨_,rfl,_⟩:=hx;exact g0
 |loop b=>
  have hb:j∉yH b:=hj;simp only[ze]at hx;cases he:ih.exec b fr h with
  |none=>simp[he]at hx
  |some p=>
   obtain⟨e0,fr0,h0⟩:=p;have g0:=one hb he;rw[he]at hx;cases e0 with
   |normal=>exact(one (a:= .loop b) hb hx).trans g0
   |_=>simp only[QA,QD]at hx;obtain⟨_,rfl,_⟩:=hx;exact g0
 |scope b=>exact zHO hi _ hx j hj hj
 |rangeFunc f ps a b=>
  simp only[ze]at hx;unfold zAv at hx;split at hx
  ·rw[zCN hx]
  ·split at hx
   ·rw[zCN hx]
   ·cases hx
 |_=>simp only[ze,QA,QD]at hx;obtain⟨_,rfl,_⟩:=hx;rfl
end
theorem zFn{P:Program}{tab:Wi}:∀ n,zDs (Wy P tab n)
 |0=>fun c fr h e fr' h' hx=>by cases hx
 |n+1=>fun c fr h e fr' h' hx=>zHX (P:=P) (zFn n) c fr h e fr' h' hx
section
variable {P:Program}{tab:Wi}
theorem WX.frame{c:U3}{fr:WF}{h:U2}{K:WB->WF->U2->Prop}(hx:WX P tab c fr h K):WX P tab c fr h fun e fr' h'=>(∀ j,j∉yH c->zB fr'.tm j=zB fr.tm j)/\K e fr' h':=by
 unfold WX at *;obtain⟨e,fr',h',k,ev⟩:=hx;refine⟨e,fr',h',⟨?_,k⟩,ev⟩;unfold Ev at ev;obtain⟨N,a⟩:=ev;exact zFn N _ _ _ _ _ _ (a N (QE _))
def zVO(ws:List Nat)(t0 t:U7 Value):Prop:=∀ j,ws.contains j=false->zB t j=zB t0 j
theorem Xq{α:Type}(μ:α->Nat)(I:α->U7 Value->U2->Prop)(x:α){b t0 ds rd h K}(h0:I x t0 h)
  (hb:∀ x t h,zVO (yH b) t0 t->I x t h->WX P tab b ⟨t,ds,rd⟩ h (zCS μ I x ds rd K)):WX P tab (.loop b) ⟨t0,ds,rd⟩ h K:=by
 refine WX.loop μ (fun x t h=>zVO (yH b) t0 t/\I x t h) x ⟨fun _ _=>rfl,h0⟩ fun y t h ⟨hs,hi⟩=> ?_;refine(WX.frame (hb y t h hs hi)).mono fun e fr h ⟨hf,hk⟩=> ?_;unfold zCS at hk |-;cases e with
 |normal=>
  obtain⟨k1,k2,z,k3,k4⟩:=hk;exact⟨k1,k2,z,k3,fun j hj=>(hf j (by simpa using hj)).trans (hs j hj),k4⟩
 |exit i=>exact hk
 |goto l=>exact hk
 |ret=>exact hk
end
section
variable {H:Type}{P:Program}{h:U2}
theorem zQw{α:Type}{p:Nat->α->Prop}:∀ n,(∀ i,i<n->∃ a,p i a)->∃ l:List α,l.length=n/\∀ (i:Nat) (a:α),l[i]?=some a->p i a:=by
 intro n;induction n with
 |zero=>exact fun _=>⟨[],rfl,fun i a ha=>by simp at ha⟩
 |succ n ih=>
  intro hx;obtain⟨l,hl,hp⟩:=ih fun i hi=>hx i (by omega);obtain⟨a,ha⟩:=hx n (by omega);refine⟨l++[a],by simp[hl],fun i b hb=> ?_⟩;by_cases hi:i<n
  ·rw[Qx (by omega)]at hb;exact hp i b hb
  ·rw[GG (by omega),hl]at hb;have:i=n:=by
    have:=(QQ.1 hb).1;simp at this;omega
   subst this;simp at hb;subst hb;exact ha
end
end Go.Am
