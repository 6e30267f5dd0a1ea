/- A part of the machine and of its soundness; proves no statement. -/
import Derived.Test.YtmejfcakhpihlaaGreatDoorAmD
set_option linter.all false
namespace Go.Am
def Wp(h:WA)(v:Value)(j:Nat)(cs:List Value):Prop:=
 ∀ (P:Program) (ih:Ex) (t:WG Value) (x:Operand) (agg:Bool) (n off:Nat) (r:Value),ev t x=yB v (j+off)->0<n->(cut cs off n).bind (zO agg)=some r->WN P ih t h (.load agg n x)=some (r,h)
def BE{α:Type}(c:Nat)(R:WA->List Value->α->Prop)(h:WA)(v:Value)(l:List α):Prop:=
 ∃ cells,Wi c h v l.length cells/\∀ (i:Nat) (a:α),l[i]?=some a->R h ((cells.drop (i*c)).take c) a
section
variable {α:Type}{c:Nat}{R:WA->List Value->α->Prop}{h h':WA}{v:Value}{l:List α}{P:Program}{ih:Ex}{t:WG Value}
theorem BE.ext(hR:∀ cs a,R h cs a->R h' cs a)(s:BE c R h v l)(e:Ext h h'):BE c R h' v l:=
 let⟨cells,a,b⟩:=s;⟨cells,a.ext e,fun i x hx=>hR _ _ (b i x hx)⟩
theorem BE.nil:BE c R h (.slice none 0 0) []:=⟨[],Wi.nil c h,fun i a ha=>by simp at ha⟩
theorem Xx{x:Operand}(hx:ev t x=v)(s:BE c R h v l):WN P ih t h (.len x)=some (I l.length,h):=let⟨_,a,_⟩:=s;zEI a hx
theorem Xc{x y:Operand}{i:Nat}(hx:ev t x=v)(hy:BO (ev t y)=some i)(s:BE c R h v l)(hi:i<l.length):WN P ih t h (.idx c x y)=some (yB v (i*c),h):=
 let⟨_,a,_⟩:=s;zKF a hx hy hi
theorem BE.some{i:Nat}(s:BE c R h v l)(hi:i<l.length):∃ a k m,v=.slice (some a) k m:=let⟨_,a,_⟩:=s;a.some hi
theorem fldP{x:Operand}{off j:Nat}(hx:ev t x=yB v j)(hv:∃ a k m,v=.slice (Option.some a) k m):WN P ih t h (.fld off x)=Option.some (yB v (j+off),h):=zPA hx hv
theorem BE.at{i:Nat}(s:BE c R h v l)(hi:i<l.length):∃ cs,R h cs l[i]/\cs.length=c/\Wp h v (i*c) cs:=by
 obtain⟨cells,a,b⟩:=s;have hlen:cells.length=l.length*c:=a.1;have hle:i*c+c<=cells.length:=by
  rw[hlen,<-G8];exact GK _ hi
 refine⟨_,b i l[i] (QB hi),by simp;omega,?_⟩;intro P ih t x agg n off r hx hn hr;cases hc:cut ((cells.drop (i*c)).take c) off n with
 |none=>rw[hc]at hr;cases hr
 |some m=>
  rw[hc]at hr;have h1:cut cells (i*c) c=Option.some ((cells.drop (i*c)).take c):=ZD hle;exact zEt a hx (zEm h1 hc) hn hr
theorem Wp.load{x:Operand}{agg:Bool}{n off j:Nat}{r:Value}{cs:List Value}(hx:ev t x=yB v (j+off))(p:Wp h v j cs)(hn:0<n)(hr:(cut cs off n).bind (zO agg)=Option.some r):
  WN P ih t h (.load agg n x)=Option.some (r,h):=p P ih t x agg n off r hx hn hr
theorem Vs{x:Operand}{agg:Bool}{n j:Nat}{r:Value}{cs:List Value}(hx:ev t x=yB v j)(p:Wp h v j cs)(hn:0<n)(hr:(cut cs 0 n).bind (zO agg)=Option.some r):
  WN P ih t h (.load agg n x)=Option.some (r,h):=p P ih t x agg n 0 r hx hn hr
end
section
variable {P:Program}{tab:Wy}
def inC(h:WA):WA:={h with mark:=h.n,wr:=[]}
theorem zJs(o:WF)(ws:List (Nat×Nat))(rs:List (Nat×Nat×Option (Nat×Nat×List Value)))(bs:List (Nat×Nat))(t:WG Value)(h':WA):
  ((match zl t o with
   |some g=>(ws.all fun x=> !(Nat.beq g x.2&&([]:List Nat).contains x.1))&&bs.all fun x=> !([]:List Nat).contains x.1||Nat.ble (g+1) x.2
   |none=>true)&&rs.all fun x=> !(([]:List Nat).contains x.1&&h'.wr.contains x.2.1)||zCh h' x.2.1 x.2.2)=true:=by
 cases zl t o<;>simp
theorem yc{h:WA}{g x:Nat}(hx:x∈h.log g):x=g\/x∈h.wr:=by
 unfold WA.log at hx;cases hb:Nat.ble h.mark g with
 |true=>rw[hb]at hx;exact .inr hx
 |false=>rw[hb]at hx;exact GG.1 hx
def zDO(ops:List (WF×List Nat)):Nat:=(ops.filter fun x=>Nat.beq (zI x.1.op) 3).length
end
section
variable {P:Program}{tab:Wy}{m:Nat}{l:List WF}{o:WF}{g:Nat}{fr:WR}{h h0 h':WA}{Q:WR->WA->Prop}{K:WP->WR->WA->Prop}
def outC(h h':WA):WA:={h' with mark:=h.mark,wr:=h.wr}
theorem Ext.outC(e:Ext (inC h) h'):Ext h (outC h h'):=⟨e.n,e.get,fun w=>e.wf w,rfl,fun _=>rfl⟩
theorem Ext.inC(e:Ext (inC h0) h)(k:Ext (inC h) h'):Ext (inC h0) {h' with mark:=h0.n,wr:=[]}:=⟨QP e.n k.n,fun g hg=>(k.get g (QI hg e.n)).trans (e.get g hg),fun w=>k.wf (e.wf w),rfl,fun _=>rfl⟩
theorem Ext.wrnil(e:Ext (Am.inC h) h'):h'.wr=[]:=e.wr (QE _)
def Bt(K:WP->WR->WA->Prop)(h:WA):WR->WA->Prop:=fun af h'=>K .normal af (Am.outC h h')
end
theorem Wi.shape{c n:Nat}{h:WA}{v:Value}{cells:List Value}(s:Wi c h v n cells):∃ a n k,v=.slice a n k:=by
 rcases s.2 with⟨_,rfl|⟨a,k,rfl⟩⟩|⟨g,off,row,rfl,_⟩
 ·exact⟨_,_,_,rfl⟩
 ·exact⟨_,_,_,rfl⟩
 ·exact⟨_,_,_,rfl⟩
section
variable {P:Program}{tab:Wy}{t:WG Value}{h h0:WA}{ds:List Deferred}{rd:Option Nat}{l:List WF}{Q:WR->WA->Prop}
def Wm(p:Value)(h h':WA):Prop:=h.n<=h'.n/\∀ g,g<h.n->p≠ .pointer (some ⟨g,0,none⟩)->h'.get g=h.get g
theorem Vo{x y:Operand}{p v:Value}{cells cs:List Value}{j n:Nat}(hx:ev t x=yE p j)(hy:ev t y=v)(hv:v.cells=cs.toArray)(h1:zL cs=true)(hn:cs.length=n)(o:WB h0 h p cells)(e0:Ext h0 h)(hl:j+n<=cells.length)
  (k:∀ h',Ext h0 h'->WB h0 h' p (zh cells j cs)->Wm p h h'->WO P tab l ⟨t,ds,rd⟩ h' Q):WO P tab (⟨none,none,.store n x y⟩::l) ⟨t,ds,rd⟩ h Q:=by
 obtain⟨g,g1,g2,rfl,g3⟩:=o;subst hn;have aX:zr h ⟨g,j,none⟩ cs=some (h.set g (.row (zh cells j cs) true 0)):=by
  have h2:Nat.ble (j+cs.length) cells.length=true:=QH hl;have h0:Nat.ble 0 j=true:=QH (QK _);simp only[zr,g3,h2,h0,h1,Qv];rfl
 refine VP undef (h.set g (.row (zh cells j cs) true 0)) rfl ?_ (k _ (e0.set g1 g2 _) ⟨g,g1,g2,rfl,by rw[zg,QF rfl]⟩ ⟨QE _,fun k _ hk=> ?_⟩)
 ·simp only[WN,hx,yE,hy,GH,hv,Gc,GR,aX,QJ,cond_true]
 ·rw[zg,QC (fun e=>hk (by rw[e]))]
theorem XC{x y:Operand}{p v:Value}{cells cs:List Value}{n:Nat}(hx:ev t x=p)(hy:ev t y=v)(hv:v.cells=cs.toArray)(h1:zL cs=true)(hn:cs.length=n)(o:WB h0 h p cells)(e0:Ext h0 h)(hl:cells.length=n)
  (k:∀ h',Ext h0 h'->WB h0 h' p cs->Wm p h h'->WO P tab l ⟨t,ds,rd⟩ h' Q):WO P tab (⟨none,none,.store n x y⟩::l) ⟨t,ds,rd⟩ h Q:=by
 refine Vo (hx.trans o.at0) hy hv h1 hn o e0 (by omega) fun h' a b c=>k h' a ?_ c;have e:zh cells 0 cs=cs:=by simp[zh,hn,hl]
 rwa [e]at b
end
def yJ:WY->List Nat
 | .region ops=>ops.filterMap (·.dst)
 | .regionC ops=>ops.filterMap (·.1.dst)
 | .seq a b=>yJ a++yJ b
 | .cond _ a b=>yJ a++yJ b
 | .block _ b| .loop b| .scope b=>yJ b
 |_=>[]
section
variable {P:Program}{ih:Ex}
theorem zBp{d:Option Nat}{fr:WR}{v:Value}{j:Nat}(hj:d≠some j):zC (val d fr v).tm j=zC fr.tm j:=by
 cases d with
 |none=>rfl
 |some d=>simp only[val,zb];rw[QC (fun e=>hj (by rw[e]))]
theorem zDl{o:WF}{fr af:WR}{h h':WA}(hx:yU P ih o fr h=some (af,h')){j:Nat}(hj:o.dst≠some j):zC af.tm j=zC fr.tm j:=by
 unfold yU at hx;cases hw:zV fr.tm o.guard with
 |false=>
  simp only[hw,QU,QA,QD]at hx;obtain⟨rfl,_⟩:=hx;exact zBp hj
 |true=>
  simp only[hw,cond_true]at hx;cases hv:yP P ih fr.tm fr.round h o.op with
  |none=>simp[hv]at hx
  |some p=>
   obtain⟨v,ds,h1⟩:=p;simp only[hv,QA,QD]at hx;obtain⟨rfl,_⟩:=hx;exact zBp (fr:={fr with dfs:=ds++fr.dfs}) hj
theorem zCr:∀ {l:List WF} {fr af:WR} {h h':WA},ZA P ih l fr h=some (af,h')->∀ {j:Nat},j∉l.filterMap (·.dst)->zC af.tm j=zC fr.tm j:=by
 intro l;induction l with
 |nil=>intro fr af h h' hx j _;simp only[ZA,QA,QD]at hx;obtain⟨rfl,_⟩:=hx;rfl
 |cons o l cI=>
  intro fr af h h' hx j hj;simp only[ZA]at hx;cases ho:yU P ih o fr h with
  |none=>simp[ho]at hx
  |some p=>
   obtain⟨bB,h1⟩:=p;simp only[ho]at hx;have h1:o.dst≠some j:=fun e=>hj (Gz.2 ⟨o,Qj ..,e⟩);have h2:j∉l.filterMap (·.dst):=fun e=>by
    obtain⟨a,b,c⟩:=Gz.1 e;exact hj (Gz.2 ⟨a,Qu _ b,c⟩)
   exact(cI hx h2).trans (zDl ho h1)
theorem zGV{g:Nat}{o:WF}{fr af:WR}{h h':WA}(hx:yT P ih g o fr h=some (af,h')){j:Nat}(hj:o.dst≠some j):zC af.tm j=zC fr.tm j:=by
 unfold yT at hx;cases hk:Nat.beq (zI o.op) 3 with
 |false=>simp only[hk,QU]at hx;exact zDl hx hj
 |true=>
  simp only[hk,cond_true]at hx;cases hw:zV fr.tm o.guard with
  |false=>simp only[hw,QU,QA,QD]at hx;obtain⟨rfl,_⟩:=hx;exact zBp hj
  |true=>
   simp only[hw,cond_true]at hx;cases hm:yi fr.tm o.op with
   |none=>simp[hm]at hx
   |some p=>simp only[hm,QA,QD]at hx;obtain⟨rfl,_⟩:=hx;exact zBp hj
theorem zFg:∀ {l:List (WF×List Nat)} {i g:Nat} {ws:List (Nat×Nat)} {rs:List (Nat×Nat×Option (Nat×Nat×List Value))} {bs cj:List (Nat×Nat)} {fr af:WR} {h h':WA},
  yH P ih l i g ws rs bs fr h=some (af,h',cj)->∀ {j:Nat},j∉l.filterMap (·.1.dst)->zC af.tm j=zC fr.tm j:=by
 intro l;induction l with
 |nil=>intro i g ws rs bs cj fr af h h' hx j _;simp only[yH,QA,QD]at hx;obtain⟨rfl,_⟩:=hx;rfl
 |cons o l cI=>
  intro i g ws rs bs cj fr af h h' hx j hj;obtain⟨o,un⟩:=o;simp only[yH]at hx;cases ho:yT P ih g o fr {h with mark:=h.n,wr:=[]} with
  |none=>simp[ho]at hx
  |some p=>
   obtain⟨bB,h1⟩:=p;simp only[ho]at hx;obtain⟨_,hx⟩:=ZG hx;have h1:o.dst≠some j:=fun e=>hj (Gz.2 ⟨(o,un),Qj ..,e⟩);have h2:j∉l.filterMap (·.1.dst):=fun e=>by
    obtain⟨a,b,c⟩:=Gz.1 e;exact hj (Gz.2 ⟨a,Qu _ b,c⟩)
   exact(cI hx h2).trans (zGV ho h1)
theorem zIK:∀ {c r:WY} {l:Nat},yW c l=some r->∀ j,j∈yJ r->j∈yJ c:=by
 intro c;induction c with
 |seq a b EF Nv=>
  intro r l hx j hj;simp only[yW]at hx;cases ha:yW a l with
  |none=>rw[ha]at hx;exact GT _ (Nv hx j hj)
  |some q=>
   rw[ha]at hx;simp only[QA]at hx;subst hx;rcases Qs.1 hj with h|h
   ·exact GX _ (EF ha j h)
   ·exact GT _ h
 |label l'=>intro r l hx j hj;simp only[yW]at hx;split at hx<;>cases hx;cases hj
 |_=>intro r l hx;cases hx
def zEQ(ih:Ex):Prop:=∀ c fr h e af h',ih.exec c fr h=some (e,af,h')->∀ j,j∉yJ c->zC af.tm j=zC fr.tm j
theorem zGl(hi:zEQ ih){b:WY}:∀ (n:Nat) {c:WY} {fr af:WR} {h h':WA} {e:WP},Ya ih n b c fr h=some (e,af,h')->∀ j,j∉yJ b->j∉yJ c->zC af.tm j=zC fr.tm j:=by
 intro n;induction n with
 |zero=>intro c fr af h h' e hx;cases hx
 |succ n nG=>
  intro c fr af h h' e hx j hb hc;simp only[Ya]at hx;cases he:ih.exec c fr h with
  |none=>simp[he]at hx
  |some p=>
   obtain⟨e0,cF,h0⟩:=p;have g0:=hi _ _ _ _ _ _ he j hc;rw[he]at hx;cases e0 with
   |goto l=>
    simp only at hx;cases hf:yW b l with
    |none=>simp only[hf,QA,QD]at hx;obtain⟨_,rfl,_⟩:=hx;exact g0
    |some rest=>simp only[hf]at hx;exact(nG hx j hb (fun hj=>hb (zIK hf j hj))).trans g0
   |_=>simp only[QA,QD]at hx;obtain⟨_,rfl,_⟩:=hx;exact g0
theorem zCw{f:Value}{ps:List Nat}{a b:WY}{fr af:WR}{d:Nat}{mark:List Deferred}{h h':WA}{e:WP}(hx:zA0 ih f ps a b fr d mark h=some (e,af,h')):af.tm=fr.tm:=by
 unfold zA0 at hx;split at hx
 ·cases hx
 ·split at hx
  ·repeat' split at hx
   all_goals first
    |(cases hx;done)
    |(simp only[QA,QD]at hx;obtain⟨_,rfl,_⟩:=hx;rfl)
  ·cases hx
theorem zIC(hi:zEQ ih):zEQ ⟨zv P ih,ih.call⟩:=by
 intro c fr h e af h' cL j hj;have hx:zv P ih c fr h=some (e,af,h'):=cL;clear cL;have one:∀ {a:WY},j∉yJ a->∀ {fr:WR} {h:WA} {e:WP} {af:WR} {h':WA},ih.exec a fr h=some (e,af,h')->zC af.tm j=zC fr.tm j:=by
  intro a ha fr h e af h' hh;exact hi _ _ _ _ _ _ hh j ha
 cases c with
 |region ops=>
  simp only[zv,QQ,QD]at hx;obtain⟨⟨bB,h1⟩,hx,_,rfl,_⟩:=hx;exact zCr hx hj
 |regionC ops=>
  simp only[zv,QQ,QD]at hx;obtain⟨⟨bB,h1⟩,hx,_,rfl,_⟩:=hx;unfold Yo at hx;cases hc:yH P ih ops 0 h.n [] [] [] fr {h with n:=h.n+(ops.filter fun x=>Nat.beq (zI x.1.op) 3).length} with
  |none=>simp[hc]at hx
  |some p=>
   obtain⟨lr,h2,ws⟩:=p;simp only[hc,QA,QD]at hx;obtain⟨rfl,_⟩:=hx;exact zFg hc hj
 |seq a b=>
  have ha:j∉yJ a:=fun q=>hj (GX _ q);have hb:j∉yJ b:=fun q=>hj (GT _ q);simp only[zv]at hx;cases he:ih.exec a fr h with
  |none=>simp[he]at hx
  |some p=>
   obtain⟨e0,cF,h0⟩:=p;have g0:=one ha he;rw[he]at hx;cases e0 with
   |normal=>exact(one hb hx).trans g0
   |_=>simp only[QA,QD]at hx;obtain⟨_,rfl,_⟩:=hx;exact g0
 |cond t a b=>
  have ha:j∉yJ a:=fun q=>hj (GX _ q);have hb:j∉yJ b:=fun q=>hj (GT _ q);simp only[zv]at hx;split at hx
  ·exact one ha hx
  ·exact one hb hx
  ·cases hx
 |block id b=>
  have hb:j∉yJ b:=hj;simp only[zv]at hx;cases he:ih.exec b fr h with
  |none=>simp[he]at hx
  |some p=>
   obtain⟨e0,cF,h0⟩:=p;have g0:=one hb he;rw[he]at hx;cases e0 with
   |exit js=>simp only at hx;split at hx<;>(simp only[QA,QD]at hx;obtain⟨_,rfl,_⟩:=hx;exact g0)
   |_=>simp only[QA,QD]at hx;obtain⟨_,rfl,_⟩:=hx;exact g0
 |loop b=>
  have hb:j∉yJ b:=hj;simp only[zv]at hx;cases he:ih.exec b fr h with
  |none=>simp[he]at hx
  |some p=>
   obtain⟨e0,cF,h0⟩:=p;have g0:=one hb he;rw[he]at hx;cases e0 with
   |normal=>exact(one (a:= .loop b) hb hx).trans g0
   |_=>simp only[QA,QD]at hx;obtain⟨_,rfl,_⟩:=hx;exact g0
 |scope b=>exact zGl hi _ hx j hj hj
 |rangeFunc f ps a b=>
  simp only[zv]at hx;unfold zCU at hx;split at hx
  ·rw[zCw hx]
  ·split at hx
   ·rw[zCw hx]
   ·cases hx
 |_=>simp only[zv,QA,QD]at hx;obtain⟨_,rfl,_⟩:=hx;rfl
end
theorem zGK{P:Program}{tab:Wy}:∀ n,zEQ (BI P tab n)
 |0=>fun c fr h e af h' hx=>by cases hx
 |n+1=>fun c fr h e af h' hx=>zIC (P:=P) (zGK n) c fr h e af h' hx
section
variable {P:Program}{tab:Wy}
theorem WX.frame{c:WY}{fr:WR}{h:WA}{K:WP->WR->WA->Prop}(hx:WX P tab c fr h K):WX P tab c fr h fun e af h'=>(∀ j,j∉yJ c->zC af.tm j=zC fr.tm j)/\K e af h':=by
 unfold WX at *;obtain⟨e,af,h',k,ev⟩:=hx;refine⟨e,af,h',⟨?_,k⟩,ev⟩;unfold Ev at ev;obtain⟨N,a⟩:=ev;exact zGK N _ _ _ _ _ _ (a N (QE _))
def zRO(ws:List Nat)(t0 t:WG Value):Prop:=∀ j,ws.contains j=false->zC t j=zC t0 j
theorem Xl{α:Type}(μ:α->Nat)(I:α->WG Value->WA->Prop)(x:α){b t0 ds rd h K}(h0:I x t0 h)
  (hb:∀ x t h,zRO (yJ b) t0 t->I x t h->WX P tab b ⟨t,ds,rd⟩ h (zCd μ I x ds rd K)):WX P tab (.loop b) ⟨t0,ds,rd⟩ h K:=by
 refine WX.loop μ (fun x t h=>zRO (yJ b) t0 t/\I x t h) x ⟨fun _ _=>rfl,h0⟩ fun y t h ⟨hs,hi⟩=> ?_;refine(WX.frame (hb y t h hs hi)).mono fun e fr h ⟨hf,hk⟩=> ?_;unfold zCd at hk |-;cases e with
 |normal=>
  obtain⟨k1,k2,z,k3,k4⟩:=hk;exact⟨k1,k2,z,k3,fun j hj=>(hf j (by simpa using hj)).trans (hs j hj),k4⟩
 |exit i=>exact hk
 |goto l=>exact hk
 |ret=>exact hk
end
section
variable {H:Type}{P:Program}{h:WA}
theorem zOz{α:Type}{p:Nat->α->Prop}:∀ n,(∀ i,i<n->∃ a,p i a)->∃ l:List α,l.length=n/\∀ (i:Nat) (a:α),l[i]?=some a->p i a:=by
 intro n;induction n with
 |zero=>exact fun _=>⟨[],rfl,fun i a ha=>by simp at ha⟩
 |succ n ih=>
  intro hx;obtain⟨l,hl,hp⟩:=ih fun i hi=>hx i (by omega);obtain⟨a,ha⟩:=hx n (by omega);refine⟨l++[a],by simp[hl],fun i b hb=> ?_⟩;by_cases hi:i<n
  ·rw[Qy (by omega)]at hb;exact hp i b hb
  ·rw[GD (by omega),hl]at hb;have:i=n:=by
    have:=(QR.1 hb).1;simp at this;omega
   subst this;simp at hb;subst hb;exact ha
end
end Go.Am
