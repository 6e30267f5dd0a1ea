/- A part of the abstract machine for the model's programs and of the proof that what it yields the model's call yields (definitions, operations, runs, regions that draw their order); no statement of the seat is proved in this text. -/
import Derived.Test.YtmejfcakhpihlaaGreatDoorAmD
set_option linter.unusedVariables false
set_option linter.unusedSimpArgs false
namespace Go.Am
def Wp (h:Uz)(v:Value)(j:Nat)(cs:List Value):Prop:=
 ∀ (P:Program) (ih:Ex) (t:U4 Value) (x:Operand) (agg:Bool) (n off:Nat) (r:Value),ev t x=yI v (j+off)->0<n->(cut cs off n).bind (zH agg)=some r->U9 P ih t h (.load agg n x)=some (r,h)
def Wx {α:Type}(c:Nat)(R:Uz->List Value->α->Prop)(h:Uz)(v:Value)(l:List α):Prop:=
 ∃ cells,WZ c h v l.length cells/\∀ (i:Nat) (a:α),l[i]?=some a->R h ((cells.drop (i * c)).take c) a
section
variable {α:Type}{c:Nat}{R:Uz->List Value->α->Prop}{h h':Uz}{v:Value}{l:List α}{P:Program}{ih:Ex}{t:U4 Value}
theorem Wx.ext (hR:∀ cs a,R h cs a->R h' cs a)(s:Wx c R h v l)(e:U5 h h'):Wx c R h' v l:=
 let ⟨cells,a,b⟩:=s;⟨cells,a.ext e,fun i x hx=>hR _ _ (b i x hx)⟩
theorem Wx.nil:Wx c R h (.slice none 0 0) []:=⟨[],WZ.nil c h,fun i a ha=>by simp at ha⟩
theorem Xh {x:Operand}(hx:ev t x=v)(s:Wx c R h v l):U9 P ih t h (.len x)=some (I l.length,h):=let ⟨_,a,_⟩:=s;zDj a hx
theorem XS {x y:Operand}{i:Nat}(hx:ev t x=v)(hy:W4 (ev t y)=some i)(s:Wx c R h v l)(hi:i<l.length):U9 P ih t h (.idx c x y)=some (yI v (i * c),h):=
 let ⟨_,a,_⟩:=s;zKF a hx hy hi
theorem Wx.some {i:Nat}(s:Wx c R h v l)(hi:i<l.length):∃ a k m,v= .slice (some a) k m:=let ⟨_,a,_⟩:=s;a.some hi
theorem fldP {x:Operand}{off j:Nat}(hx:ev t x=yI v j)(hv:∃ a k m,v= .slice (Option.some a) k m):U9 P ih t h (.fld off x)=Option.some (yI v (j+off),h):=zQP hx hv
theorem Wx.at {i:Nat}(s:Wx c R h v l)(hi:i<l.length):∃ cs,R h cs l[i]/\cs.length=c/\Wp h v (i * c) cs:=by
 obtain⟨cells,a,b⟩:=s;have hlen:cells.length=l.length * c:=a.1;have hle:i * c+c<=cells.length:=by
  rw[hlen,<-JB];exact GY _ hi
 refine⟨_,b i l[i] (QD hi),by simp;omega,?_⟩;intro P ih t x agg n off r hx hn hr;cases hc:cut ((cells.drop (i * c)).take c) off n with
 |none=>rw[hc]at hr;cases hr
 |some m=>
  rw[hc]at hr;have h1:cut cells (i * c) c=Option.some ((cells.drop (i * c)).take c):=ZK hle;exact zEk a hx (zD8 h1 hc) hn hr
theorem Wp.load {x:Operand}{agg:Bool}{n off j:Nat}{r:Value}{cs:List Value}(hx:ev t x=yI v (j+off))(p:Wp h v j cs)(hn:0<n)(hr:(cut cs off n).bind (zH agg)=Option.some r):
  U9 P ih t h (.load agg n x)=Option.some (r,h):=p P ih t x agg n off r hx hn hr
theorem Vp {x:Operand}{agg:Bool}{n j:Nat}{r:Value}{cs:List Value}(hx:ev t x=yI v j)(p:Wp h v j cs)(hn:0<n)(hr:(cut cs 0 n).bind (zH agg)=Option.some r):
  U9 P ih t h (.load agg n x)=Option.some (r,h):=p P ih t x agg n 0 r hx hn hr
end
section
variable {P:Program}{tab:Wd}
def inC (h:Uz):Uz:={h with mark:=h.n,wr:=[]}
theorem zJL (o:U1)(ws:List (Nat×Nat))(rs:List (Nat×Nat×Option (Nat×Nat×List Value)))(bs:List (Nat×Nat))(t:U4 Value)(h':Uz):
  ((match zX t o with
   |some g=>(ws.all fun x=> !(Nat.beq g x.2&&([]:List Nat).contains x.1))&&bs.all fun x=> !([]:List Nat).contains x.1||Nat.ble (g+1) x.2
   |none=>true)&&rs.all fun x=> !(([]:List Nat).contains x.1&&h'.wr.contains x.2.1)||zBg h' x.2.1 x.2.2)=true:=by
 cases zX t o<;>simp
theorem y9 {h:Uz}{g x:Nat}(hx:x∈h.log g):x=g\/x∈h.wr:=by
 unfold Uz.log at hx;cases hb:Nat.ble h.mark g with
 |true=>rw[hb]at hx;exact .inr hx
 |false=>rw[hb]at hx;exact GL.1 hx
def zC2 (ops:List (U1×List Nat)):Nat:=(ops.filter fun x=>Nat.beq (zE x.1.op) 3).length
end
section
variable {P:Program}{tab:Wd}{m:Nat}{l:List U1}{o:U1}{g:Nat}{fr:WA}{h h0 h':Uz}{Q:WA->Uz->Prop}{K:U8->WA->Uz->Prop}
def yu (h h':Uz):Uz:={h' with mark:=h.mark,wr:=h.wr}
theorem U5.wrnil (e:U5 (Am.inC h) h'):h'.wr=[]:=e.wr (QE _)
def Bm (K:U8->WA->Uz->Prop)(h:Uz):WA->Uz->Prop:=fun fr' h'=>K .normal fr' (Am.yu h h')
end
theorem WZ.shape {c n:Nat}{h:Uz}{v:Value}{cells:List Value}(s:WZ c h v n cells):∃ a n k,v= .slice a n k:=by
 rcases s.2 with ⟨_,rfl|⟨a,k,rfl⟩⟩|⟨g,off,row,rfl,_⟩
 ·exact⟨_,_,_,rfl⟩
 ·exact⟨_,_,_,rfl⟩
 ·exact⟨_,_,_,rfl⟩
section
variable {P:Program}{tab:Wd}{t:U4 Value}{h h0:Uz}{ds:List Deferred}{rd:Option Nat}{l:List U1}{Q:WA->Uz->Prop}
def Wb (p:Value)(h h':Uz):Prop:=h.n<=h'.n/\∀ g,g<h.n->p≠ .pointer (some ⟨g,0,none⟩)->h'.get g=h.get g
theorem Vl {x y:Operand}{p v:Value}{cells cs:List Value}{j n:Nat}(hx:ev t x=zz p j)(hy:ev t y=v)(hv:v.cells=cs.toArray)(h1:zJ cs=true)(hn:cs.length=n)(o:U3 h0 h p cells)(e0:U5 h0 h)(hl:j+n<=cells.length)
  (k:∀ h',U5 h0 h'->U3 h0 h' p (za cells j cs)->Wb p h h'->WO P tab l ⟨t,ds,rd⟩ h' Q):WO P tab (⟨none,none,.store n x y⟩::l) ⟨t,ds,rd⟩ h Q:=by
 obtain⟨g,g1,g2,rfl,g3⟩:=o;subst hn;have hst:zc h ⟨g,j,none⟩ cs=some (h.set g (.row (za cells j cs) true 0)):=by
  have h2:Nat.ble (j+cs.length) cells.length=true:=QH hl;have h0:Nat.ble 0 j=true:=QH (QT _);simp only[zc,g3,h2,h0,h1,Q2];rfl
 refine VS undef (h.set g (.row (za cells j cs) true 0)) rfl ?_ (k _ (e0.set g1 g2 _) ⟨g,g1,g2,rfl,by rw[ze,QJ rfl]⟩ ⟨QE _,fun k _ hk=> ?_⟩)
 ·simp only[U9,hx,zz,hy,Q4,hv,Gx,Gd,hst,QK,cond_true]
 ·rw[ze,QB (fun e=>hk (by rw[e]))]
theorem V9 {x y:Operand}{p v:Value}{cells cs:List Value}{n:Nat}(hx:ev t x=p)(hy:ev t y=v)(hv:v.cells=cs.toArray)(h1:zJ cs=true)(hn:cs.length=n)(o:U3 h0 h p cells)(e0:U5 h0 h)(hl:cells.length=n)
  (k:∀ h',U5 h0 h'->U3 h0 h' p cs->Wb p h h'->WO P tab l ⟨t,ds,rd⟩ h' Q):WO P tab (⟨none,none,.store n x y⟩::l) ⟨t,ds,rd⟩ h Q:=by
 refine Vl (hx.trans o.at0) hy hv h1 hn o e0 (by omega) fun h' a b c=>k h' a ?_ c;have e:za cells 0 cs=cs:=by simp[za,hn,hl]
 rwa [e]at b
end
def yA:U0->List Nat
 | .region ops=>ops.filterMap (·.dst)
 | .regionC ops=>ops.filterMap (·.1.dst)
 | .seq a b=>yA a++yA b
 | .cond _ a b=>yA a++yA b
 | .block _ b| .loop b| .scope b=>yA b
 |_=>[]
section
variable {P:Program}{ih:Ex}
theorem zBW {d:Option Nat}{fr:WA}{v:Value}{j:Nat}(hj:d≠some j):zB (val d fr v).tm j=zB fr.tm j:=by
 cases d with
 |none=>rfl
 |some d=>simp only[val,zd];rw[QB (fun e=>hj (by rw[e]))]
theorem zDU {o:U1}{fr fr':WA}{h h':Uz}(hx:yD P ih o fr h=some (fr',h')){j:Nat}(hj:o.dst≠some j):zB fr'.tm j=zB fr.tm j:=by
 unfold yD at hx;cases hw:zP fr.tm o.guard with
 |false=>
  simp only[hw,QR,QA,QC]at hx;obtain⟨rfl,_⟩:=hx;exact zBW hj
 |true=>
  simp only[hw,cond_true]at hx;cases hv:zl P ih fr.tm fr.round h o.op with
  |none=>simp[hv]at hx
  |some p=>
   obtain⟨v,ds,h1⟩:=p;simp only[hv,QA,QC]at hx;obtain⟨rfl,_⟩:=hx;exact zBW (fr:={fr with dfs:=ds++fr.dfs}) hj
theorem zCR:∀ {l:List U1} {fr fr':WA} {h h':Uz},yR P ih l fr h=some (fr',h')->∀ {j:Nat},j∉l.filterMap (·.dst)->zB fr'.tm j=zB fr.tm j:=by
 intro l;induction l with
 |nil=>intro fr fr' h h' hx j _;simp only[yR,QA,QC]at hx;obtain⟨rfl,_⟩:=hx;rfl
 |cons o l ihl=>
  intro fr fr' h h' hx j hj;simp only[yR]at hx;cases ho:yD P ih o fr h with
  |none=>simp[ho]at hx
  |some p=>
   obtain⟨fr1,h1⟩:=p;simp only[ho]at hx;have h1:o.dst≠some j:=fun e=>hj (Gu.2 ⟨o,Qd ..,e⟩);have h2:j∉l.filterMap (·.dst):=fun e=>by
    obtain⟨a,b,c⟩:=Gu.1 e;exact hj (Gu.2 ⟨a,Qi _ b,c⟩)
   exact(ihl hx h2).trans (zDU ho h1)
theorem zGm {g:Nat}{o:U1}{fr fr':WA}{h h':Uz}(hx:zv P ih g o fr h=some (fr',h')){j:Nat}(hj:o.dst≠some j):zB fr'.tm j=zB fr.tm j:=by
 unfold zv at hx;cases hk:Nat.beq (zE o.op) 3 with
 |false=>simp only[hk,QR]at hx;exact zDU hx hj
 |true=>
  simp only[hk,cond_true]at hx;cases hw:zP fr.tm o.guard with
  |false=>simp only[hw,QR,QA,QC]at hx;obtain⟨rfl,_⟩:=hx;exact zBW hj
  |true=>
   simp only[hw,cond_true]at hx;cases hm:yb fr.tm o.op with
   |none=>simp[hm]at hx
   |some p=>simp only[hm,QA,QC]at hx;obtain⟨rfl,_⟩:=hx;exact zBW hj
theorem zFC:∀ {l:List (U1×List Nat)} {i g:Nat} {ws:List (Nat×Nat)} {rs:List (Nat×Nat×Option (Nat×Nat×List Value))} {bs ws':List (Nat×Nat)} {fr fr':WA} {h h':Uz},
  zu P ih l i g ws rs bs fr h=some (fr',h',ws')->∀ {j:Nat},j∉l.filterMap (·.1.dst)->zB fr'.tm j=zB fr.tm j:=by
 intro l;induction l with
 |nil=>intro i g ws rs bs ws' fr fr' h h' hx j _;simp only[zu,QA,QC]at hx;obtain⟨rfl,_⟩:=hx;rfl
 |cons o l ihl=>
  intro i g ws rs bs ws' fr fr' h h' hx j hj;obtain⟨o,un⟩:=o;simp only[zu]at hx;cases ho:zv P ih g o fr {h with mark:=h.n,wr:=[]} with
  |none=>simp[ho]at hx
  |some p=>
   obtain⟨fr1,h1⟩:=p;simp only[ho]at hx;obtain⟨_,hx⟩:=yk hx;have h1:o.dst≠some j:=fun e=>hj (Gu.2 ⟨(o,un),Qd ..,e⟩);have h2:j∉l.filterMap (·.1.dst):=fun e=>by
    obtain⟨a,b,c⟩:=Gu.1 e;exact hj (Gu.2 ⟨a,Qi _ b,c⟩)
   exact(ihl hx h2).trans (zGm ho h1)
theorem zIb:∀ {c r:U0} {l:Nat},zy c l=some r->∀ j,j∈yA r->j∈yA c:=by
 intro c;induction c with
 |seq a b iha ihb=>
  intro r l hx j hj;simp only[zy]at hx;cases ha:zy a l with
  |none=>rw[ha]at hx;exact Gc _ (ihb hx j hj)
  |some q=>
   rw[ha]at hx;simp only[QA]at hx;subst hx;rcases Qj.1 hj with h|h
   ·exact Gf _ (iha ha j h)
   ·exact Gc _ h
 |label l'=>intro r l hx j hj;simp only[zy]at hx;split at hx<;>cases hx;cases hj
 |_=>intro r l hx;cases hx
def zDv (ih:Ex):Prop:=∀ c fr h e fr' h',ih.exec c fr h=some (e,fr',h')->∀ j,j∉yA c->zB fr'.tm j=zB fr.tm j
theorem zGl (hi:zDv ih){b:U0}:∀ (n:Nat) {c:U0} {fr fr':WA} {h h':Uz} {e:U8},Zk ih n b c fr h=some (e,fr',h')->∀ j,j∉yA b->j∉yA c->zB fr'.tm j=zB fr.tm j:=by
 intro n;induction n with
 |zero=>intro c fr fr' h h' e hx;cases hx
 |succ n ihn=>
  intro c fr fr' h h' e hx j hb hc;simp only[Zk]at hx;cases he:ih.exec c fr h with
  |none=>simp[he]at hx
  |some p=>
   obtain⟨e0,fr0,h0⟩:=p;have g0:=hi _ _ _ _ _ _ he j hc;rw[he]at hx;cases e0 with
   |goto l=>
    simp only at hx;cases hf:zy b l with
    |none=>simp only[hf,QA,QC]at hx;obtain⟨_,rfl,_⟩:=hx;exact g0
    |some rest=>simp only[hf]at hx;exact(ihn hx j hb (fun hj=>hb (zIb hf j hj))).trans g0
   |_=>simp only[QA,QC]at hx;obtain⟨_,rfl,_⟩:=hx;exact g0
theorem zCK {f:Value}{ps:List Nat}{a b:U0}{fr fr':WA}{d:Nat}{mark:List Deferred}{h h':Uz}{e:U8}(hx:Y0 ih f ps a b fr d mark h=some (e,fr',h')):fr'.tm=fr.tm:=by
 unfold Y0 at hx;split at hx
 ·cases hx
 ·split at hx
  ·repeat' split at hx
   all_goals first
    |(cases hx;done)
    |(simp only[QA,QC]at hx;obtain⟨_,rfl,_⟩:=hx;rfl)
  ·cases hx
theorem zHW (hi:zDv ih):zDv ⟨zb P ih,ih.call⟩:=by
 intro c fr h e fr' h' hx0 j hj;have hx:zb P ih c fr h=some (e,fr',h'):=hx0;clear hx0;have one:∀ {a:U0},j∉yA a->∀ {fr:WA} {h:Uz} {e:U8} {fr':WA} {h':Uz},ih.exec a fr h=some (e,fr',h')->zB fr'.tm j=zB fr.tm j:=by
  intro a ha fr h e fr' h' hh;exact hi _ _ _ _ _ _ hh j ha
 cases c with
 |region ops=>
  simp only[zb,QP,QC]at hx;obtain⟨⟨fr1,h1⟩,hx,_,rfl,_⟩:=hx;exact zCR hx hj
 |regionC ops=>
  simp only[zb,QP,QC]at hx;obtain⟨⟨fr1,h1⟩,hx,_,rfl,_⟩:=hx;unfold Z8 at hx;cases hc:zu P ih ops 0 h.n [] [] [] fr {h with n:=h.n+(ops.filter fun x=>Nat.beq (zE x.1.op) 3).length} with
  |none=>simp[hc]at hx
  |some p=>
   obtain⟨fr2,h2,ws⟩:=p;simp only[hc,QA,QC]at hx;obtain⟨rfl,_⟩:=hx;exact zFC hc hj
 |seq a b=>
  have ha:j∉yA a:=fun q=>hj (Gf _ q);have hb:j∉yA b:=fun q=>hj (Gc _ q);simp only[zb]at hx;cases he:ih.exec a fr h with
  |none=>simp[he]at hx
  |some p=>
   obtain⟨e0,fr0,h0⟩:=p;have g0:=one ha he;rw[he]at hx;cases e0 with
   |normal=>exact(one hb hx).trans g0
   |_=>simp only[QA,QC]at hx;obtain⟨_,rfl,_⟩:=hx;exact g0
 |cond t a b=>
  have ha:j∉yA a:=fun q=>hj (Gf _ q);have hb:j∉yA b:=fun q=>hj (Gc _ q);simp only[zb]at hx;split at hx
  ·exact one ha hx
  ·exact one hb hx
  ·cases hx
 |block id b=>
  have hb:j∉yA b:=hj;simp only[zb]at hx;cases he:ih.exec b fr h with
  |none=>simp[he]at hx
  |some p=>
   obtain⟨e0,fr0,h0⟩:=p;have g0:=one hb he;rw[he]at hx;cases e0 with
   |exit id'=>simp only at hx;split at hx<;>(simp only[QA,QC]at hx;obtain⟨_,rfl,_⟩:=hx;exact g0)
   |_=>simp only[QA,QC]at hx;obtain⟨_,rfl,_⟩:=hx;exact g0
 |loop b=>
  have hb:j∉yA b:=hj;simp only[zb]at hx;cases he:ih.exec b fr h with
  |none=>simp[he]at hx
  |some p=>
   obtain⟨e0,fr0,h0⟩:=p;have g0:=one hb he;rw[he]at hx;cases e0 with
   |normal=>exact(one (a:= .loop b) hb hx).trans g0
   |_=>simp only[QA,QC]at hx;obtain⟨_,rfl,_⟩:=hx;exact g0
 |scope b=>exact zGl hi _ hx j hj hj
 |rangeFunc f ps a b=>
  simp only[zb]at hx;unfold zAs at hx;split at hx
  ·rw[zCK hx]
  ·split at hx
   ·rw[zCK hx]
   ·cases hx
 |_=>simp only[zb,QA,QC]at hx;obtain⟨_,rfl,_⟩:=hx;rfl
end
theorem zGC {P:Program}{tab:Wd}:∀ n,zDv (Ws P tab n)
 |0=>fun c fr h e fr' h' hx=>by cases hx
 |n+1=>fun c fr h e fr' h' hx=>zHW (P:=P) (zGC n) c fr h e fr' h' hx
section
variable {P:Program}{tab:Wd}
theorem WX.frame {c:U0}{fr:WA}{h:Uz}{K:U8->WA->Uz->Prop}(hx:WX P tab c fr h K):WX P tab c fr h fun e fr' h'=>(∀ j,j∉yA c->zB fr'.tm j=zB fr.tm j)/\K e fr' h':=by
 unfold WX at *;obtain⟨e,fr',h',k,ev⟩:=hx;refine⟨e,fr',h',⟨?_,k⟩,ev⟩;unfold Ev at ev;obtain⟨N,a⟩:=ev;exact zGC N _ _ _ _ _ _ (a N (QE _))
def zUq (ws:List Nat)(t0 t:U4 Value):Prop:=∀ j,ws.contains j=false->zB t j=zB t0 j
theorem Xb {α:Type}(μ:α->Nat)(I:α->U4 Value->Uz->Prop)(x:α){b t0 ds rd h K}(h0:I x t0 h)
  (hb:∀ x t h,zUq (yA b) t0 t->I x t h->WX P tab b ⟨t,ds,rd⟩ h (zCn μ I x ds rd K)):WX P tab (.loop b) ⟨t0,ds,rd⟩ h K:=by
 refine WX.loop μ (fun x t h=>zUq (yA b) t0 t/\I x t h) x ⟨fun _ _=>rfl,h0⟩ fun y t h ⟨hs,hi⟩=> ?_;refine(WX.frame (hb y t h hs hi)).mono fun e fr h ⟨hf,hk⟩=> ?_;unfold zCn at hk |-;cases e with
 |normal=>
  obtain⟨k1,k2,z,k3,k4⟩:=hk;exact⟨k1,k2,z,k3,fun j hj=>(hf j (by simpa using hj)).trans (hs j hj),k4⟩
 |exit i=>exact hk
 |goto l=>exact hk
 |ret=>exact hk
end
section
variable {H:Type}{P:Program}{h:Uz}
theorem zRa {α:Type}{p:Nat->α->Prop}:∀ n,(∀ i,i<n->∃ a,p i a)->∃ l:List α,l.length=n/\∀ (i:Nat) (a:α),l[i]?=some a->p i a:=by
 intro n;induction n with
 |zero=>exact fun _=>⟨[],rfl,fun i a ha=>by simp at ha⟩
 |succ n ih=>
  intro hx;obtain⟨l,hl,hp⟩:=ih fun i hi=>hx i (by omega);obtain⟨a,ha⟩:=hx n (by omega);refine⟨l++[a],by simp[hl],fun i b hb=> ?_⟩;by_cases hi:i<n
  ·rw[Qv (by omega)]at hb;exact hp i b hb
  ·rw[GB (by omega),hl]at hb;have:i=n:=by
    have:=(QQ.1 hb).1;simp at this;omega
   subst this;simp at hb;subst hb;exact ha
end
end Go.Am
