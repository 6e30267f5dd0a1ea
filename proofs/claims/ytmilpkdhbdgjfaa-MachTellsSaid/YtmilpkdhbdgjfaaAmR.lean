/- A part of the abstract machine for the model's programs and of the proof that what it yields the model's call yields (definitions, operations, runs, regions that draw their order); no statement of the seat is proved in this text. -/
import Derived.Test.YtmilpkdhbdgjfaaAmD
set_option linter.unusedVariables false
set_option linter.unusedSimpArgs false
namespace Go.Am
def Piece (h:AHeap) (v:Value) (j:Nat) (cs:List Value):Prop:=
 ∀ (P:Program) (ih:Ex) (t:Trie Value) (x:Operand) (agg:Bool) (n off:Nat) (r:Value),ev t x=elemP v (j+off)→0<n→(cut cs off n).bind (ofCells agg)=some r→aop P ih t h (.load agg n x)=some (r,h)
def SlR {α:Type} (c:Nat) (R:AHeap→List Value→α→Prop) (h:AHeap) (v:Value) (l:List α):Prop:=
 ∃ cells,SlC c h v l.length cells∧∀ (i:Nat) (a:α),l[i]?=some a→R h ((cells.drop (i * c)).take c) a
section
variable {α:Type} {c:Nat} {R:AHeap→List Value→α→Prop} {h h':AHeap} {v:Value} {l:List α} {P:Program} {ih:Ex} {t:Trie Value}
theorem SlR.ext (hR:∀ cs a,R h cs a→R h' cs a) (s:SlR c R h v l) (e:Ext h h'):SlR c R h' v l:=
 let ⟨cells,a,b⟩:=s;⟨cells,a.ext e,fun i x hx=>hR _ _ (b i x hx)⟩
theorem SlR.nil:SlR c R h (.slice none 0 0) []:=⟨[],SlC.nil c h,fun i a ha=>by simp at ha⟩
theorem SlR.len' {x:Operand} (hx:ev t x=v) (s:SlR c R h v l):aop P ih t h (.len x)=some (I l.length,h):=let ⟨_,a,_⟩:=s;aop_len a hx
theorem SlR.idx' {x y:Operand} {i:Nat} (hx:ev t x=v) (hy:asN (ev t y)=some i) (s:SlR c R h v l) (hi:i<l.length):aop P ih t h (.idx c x y)=some (elemP v (i * c),h):=
 let ⟨_,a,_⟩:=s;aop_idx a hx hy hi
theorem SlR.some {i:Nat} (s:SlR c R h v l) (hi:i<l.length):∃ a k m,v= .slice (some a) k m:=let ⟨_,a,_⟩:=s;a.some hi
theorem fldP {x:Operand} {off j:Nat} (hx:ev t x=elemP v j) (hv:∃ a k m,v= .slice (Option.some a) k m):aop P ih t h (.fld off x)=Option.some (elemP v (j+off),h):=aop_fld hx hv
theorem SlR.at {i:Nat} (s:SlR c R h v l) (hi:i<l.length):∃ cs,R h cs l[i]∧cs.length=c∧Piece h v (i * c) cs:=by
 obtain⟨cells,a,b⟩:=s
 have hlen:cells.length=l.length * c:=a.1
 have hle:i * c+c≤cells.length:=by
  rw[hlen,←Nat.succ_mul];exact Nat.mul_le_mul_right _ hi
 refine⟨_,b i l[i] (List.getElem?_eq_getElem hi),by simp;omega,?_⟩
 intro P ih t x agg n off r hx hn hr
 cases hc:cut ((cells.drop (i * c)).take c) off n with
 |none=>rw[hc]at hr;cases hr
 |some m=>
  rw[hc]at hr
  have h1:cut cells (i * c) c=Option.some ((cells.drop (i * c)).take c):=cut_ok hle
  exact aop_load a hx (load_cut h1 hc) hn hr
theorem Piece.load {x:Operand} {agg:Bool} {n off j:Nat} {r:Value} {cs:List Value} (hx:ev t x=elemP v (j+off)) (p:Piece h v j cs) (hn:0<n) (hr:(cut cs off n).bind (ofCells agg)=Option.some r):
  aop P ih t h (.load agg n x)=Option.some (r,h):=p P ih t x agg n off r hx hn hr
theorem Piece.load0 {x:Operand} {agg:Bool} {n j:Nat} {r:Value} {cs:List Value} (hx:ev t x=elemP v j) (p:Piece h v j cs) (hn:0<n) (hr:(cut cs 0 n).bind (ofCells agg)=Option.some r):
  aop P ih t h (.load agg n x)=Option.some (r,h):=p P ih t x agg n 0 r hx hn hr
end
section
variable {P:Program} {tab:Tab}
def inC (h:AHeap):AHeap:={h with mark:=h.n,wr:=[]}
def WU (P:Program) (tab:Tab) (m:Nat):List AOper→Nat→AFr→AHeap→(AFr→AHeap→Prop)→Prop
 |[],_,fr,h,Q=>Q fr h
 |o::l,g,fr,h,Q=>
  if Nat.beq (kindA o.op) 3=true then
   (wantedA fr.tm o.guard=true∧m≤g∧∃ ob f,madeA fr.tm o.op=some (ob,f)∧WU P tab m l (g+1) (val o.dst fr (f g)) ((inC h).lay g ob) Q)∨
   (wantedA fr.tm o.guard=false∧WU P tab m l (g+1) (val o.dst fr undef) (inC h) Q)
  else WO P tab [o] fr (inC h) fun fr' h'=>(∀ g∈h'.wr,m≤g)∧WU P tab m l g fr' h' Q
theorem ok_nil (o:AOper) (ws:List (Nat×Nat)) (rs:List (Nat×Nat×Option (Nat×Nat×List Value))) (bs:List (Nat×Nat)) (t:Trie Value) (h':AHeap):
  ((match readsA t o with
   |some g=>(ws.all fun x=> !(Nat.beq g x.2&&([]:List Nat).contains x.1))&&bs.all fun x=> !([]:List Nat).contains x.1||Nat.ble (g+1) x.2
   |none=>true)&&rs.all fun x=> !(([]:List Nat).contains x.1&&h'.wr.contains x.2.1)||seenA h' x.2.1 x.2.2)=true:=by
 cases readsA t o<;>simp
theorem log_mem {h:AHeap} {g x:Nat} (hx:x∈h.log g):x=g∨x∈h.wr:=by
 unfold AHeap.log at hx
 cases hb:Nat.ble h.mark g with
 |true=>rw[hb]at hx;exact .inr hx
 |false=>rw[hb]at hx;exact List.mem_cons.1 hx
theorem WU.run {m:Nat}:∀ {ops:List (AOper×List Nat)} {g:Nat} {fr:AFr} {h:AHeap} {Q:AFr→AHeap→Prop},(∀ x∈ops,x.2=[])→WU P tab m (ops.map (·.1)) g fr h Q→
  ∃ fr' h',Q fr' h'∧∀ (i:Nat) (ws:List (Nat×Nat)) (rs:List (Nat×Nat×Option (Nat×Nat×List Value))) (bs:List (Nat×Nat)),(∀ e∈ws,m≤e.2)→
   ∃ ws',(∀ e∈ws',m≤e.2)∧Ev fun n=>aopersC P (aex P tab n) ops i g ws rs bs fr h=some (fr',h',ws'):=by
 intro ops
 induction ops with
 |nil=>intro g fr h Q _ hx;exact⟨fr,h,hx,fun i ws rs bs hw=>⟨ws,hw,Ev.all fun n=>rfl⟩⟩
 |cons x ops ihl=>
  intro g fr h Q hun hx
  obtain⟨o,un⟩:=x
  have hu:un=[]:=hun (o,un) (by simp)
  subst hu
  have hun':∀ x∈ops,x.2=[]:=fun x hx=>hun x (by simp[hx])
  simp only[List.map_cons,WU]at hx
  have go:∀ {g':Nat} {fr1:AFr} {h1:AHeap},(g'=bif Nat.beq (kindA o.op) 3 then g+1 else g)→(Ev fun n=>aoperC P (aex P tab n) g o fr (inC h)=some (fr1,h1))→(∀ x∈h1.wr,m≤x)→WU P tab m (ops.map (·.1)) g' fr1 h1 Q→
    ∃ fr' h',Q fr' h'∧∀ (i:Nat) (ws:List (Nat×Nat)) (rs:List (Nat×Nat×Option (Nat×Nat×List Value))) (bs:List (Nat×Nat)),(∀ e∈ws,m≤e.2)→
     ∃ ws',(∀ e∈ws',m≤e.2)∧Ev fun n=>aopersC P (aex P tab n) ((o,[])::ops) i g ws rs bs fr h=some (fr',h',ws'):=by
   intro g' fr1 h1 hg ev hw hx
   obtain⟨fr',h',q,run⟩:=ihl hun' hx
   refine⟨fr',h',q,fun i ws rs bs hws=> ?_⟩
   obtain⟨ws',w1,w2⟩:=run (i+1) (h1.wr.map (fun g=>(i,g))++ws) (match readsA fr.tm o with
     |some g=>(i,g,viewA fr.tm h o.op)::rs
     |none=>rs) ((i,h.n)::bs) (fun e he=>by
      rcases List.mem_append.1 he with he|he
      ·obtain⟨y,hy,rfl⟩:=List.mem_map.1 he;exact hw y hy
      ·exact hws e he)
   refine⟨ws',w1,(ev.and w2).mono fun n ⟨e1,e2⟩=> ?_⟩
   simp only[aopersC]
   have e1':aoperC P (aex P tab n) g o fr {h with mark:=h.n,wr:=[]}=some (fr1,h1):=e1
   rw[e1']
   have hok:=ok_nil o ws rs bs fr.tm h1
   exact(congrArg (fun b:Bool=>bif b then aopersC P (aex P tab n) ops (i+1) (bif Nat.beq (kindA o.op) 3 then g+1 else g) (h1.wr.map (fun g=>(i,g))++ws) (match readsA fr.tm o with
     |some g=>(i,g,viewA fr.tm h o.op)::rs
     |none=>rs) ((i,h.n)::bs) fr1 h1 else none) hok).trans (by rw[cond_true,←hg];exact e2)
  by_cases hk:Nat.beq (kindA o.op) 3=true
  ·rw[if_pos hk]at hx
   rcases hx with ⟨hw,hm,ob,f,hmade,hx⟩|⟨hw,hx⟩
   ·refine go (g':=g+1) (by rw[hk];rfl) (Ev.all fun n=> ?_) (fun x hx=> ?_) hx
    ·unfold aoperC;simp only[hk,hw,hmade,cond_true]
    ·rcases log_mem hx with rfl|hx
     ·exact hm
     ·cases hx
   ·refine go (g':=g+1) (by rw[hk];rfl) (Ev.all fun n=> ?_) (fun x hx=>by cases hx) hx
    unfold aoperC;simp only[hk,hw,cond_true,cond_false]
  ·rw[if_neg hk]at hx
   have hk':Nat.beq (kindA o.op) 3=false:=by cases hb:Nat.beq (kindA o.op) 3 with
    |false=>rfl
    |true=>exact absurd hb hk
   unfold WO at hx
   obtain⟨fr1,h1,⟨q1,q2⟩,ev⟩:=hx
   refine go (g':=g) (by rw[hk'];rfl) (ev.mono fun n e=> ?_) q1 q2
   unfold aoperC;simp only[hk',cond_false]
   simp only[aopers]at e
   cases ha:aoper P (aex P tab n) o fr (inC h)with
   |none=>rw[ha]at e;cases e
   |some p=>rw[ha]at e;exact e
def cnt3 (ops:List (AOper×List Nat)):Nat:=(ops.filter fun x=>Nat.beq (kindA x.1.op) 3).length
end
section
variable {P:Program} {tab:Tab} {m:Nat} {l:List AOper} {o:AOper} {g:Nat} {fr:AFr} {h h0 h':AHeap} {Q:AFr→AHeap→Prop} {K:AExit→AFr→AHeap→Prop}
def outC (h h':AHeap):AHeap:={h' with mark:=h.mark,wr:=h.wr}
theorem Ext.outC (e:Ext (inC h) h'):Ext h (outC h h'):=⟨e.n,e.get,fun w=>e.wf w,rfl,fun _=>rfl⟩
theorem Ext.inC (e:Ext (inC h0) h) (k:Ext (inC h) h'):Ext (inC h0) {h' with mark:=h0.n,wr:=[]}:=⟨Nat.le_trans e.n k.n,fun g hg=>(k.get g (Nat.lt_of_lt_of_le hg e.n)).trans (e.get g hg),fun w=>k.wf (e.wf w),rfl,fun _=>rfl⟩
theorem Ext.wrnil (e:Ext (Am.inC h) h'):h'.wr=[]:=e.wr (Nat.le_refl _)
def regQ (K:AExit→AFr→AHeap→Prop) (h:AHeap):AFr→AHeap→Prop:=fun fr' h'=>K .normal fr' (Am.outC h h')
def uK (P:Program) (tab:Tab) (m:Nat) (l:List AOper) (g:Nat) (Q:AFr→AHeap→Prop):AFr→AHeap→Prop:=fun fr' h'=>(∀ g∈h'.wr,m≤g)∧WU P tab m l g fr' h' Q
theorem WU.q (hk:Nat.beq (kindA o.op) 3=false) (hx:WO P tab [o] fr (Am.inC h) (uK P tab m l g Q)):WU P tab m (o::l) g fr (Am.inC h) Q:=by
 simp only[WU];rw[if_neg (by rw[hk];exact Bool.noConfusion)];exact hx
end
theorem SlC.shape {c n:Nat} {h:AHeap} {v:Value} {cells:List Value} (s:SlC c h v n cells):∃ a n k,v= .slice a n k:=by
 rcases s.2 with ⟨_,rfl|⟨a,k,rfl⟩⟩|⟨g,off,row,rfl,_⟩
 ·exact⟨_,_,_,rfl⟩
 ·exact⟨_,_,_,rfl⟩
 ·exact⟨_,_,_,rfl⟩
section
variable {P:Program} {tab:Tab} {t:Trie Value} {h h0:AHeap} {ds:List Deferred} {rd:Option Nat} {l:List AOper} {Q:AFr→AHeap→Prop}
def UpdC (p:Value) (h h':AHeap):Prop:=h.n≤h'.n∧∀ g,g<h.n→p≠ .pointer (some ⟨g,0,none⟩)→h'.get g=h.get g
theorem WO.storeC {x y:Operand} {p v:Value} {cells cs:List Value} {j n:Nat} (hx:ev t x=ptrAt p j) (hy:ev t y=v) (hv:v.cells=cs.toArray) (h1:oneCells cs=true) (hn:cs.length=n) (o:OwnC h0 h p cells) (e0:Ext h0 h) (hl:j+n≤cells.length)
  (k:∀ h',Ext h0 h'→OwnC h0 h' p (putAt cells j cs)→UpdC p h h'→WO P tab l ⟨t,ds,rd⟩ h' Q):WO P tab (⟨none,none,.store n x y⟩::l) ⟨t,ds,rd⟩ h Q:=by
 obtain⟨g,g1,g2,rfl,g3⟩:=o
 subst hn
 have hst:storeA h ⟨g,j,none⟩ cs=some (h.set g (.row (putAt cells j cs) true 0)):=by
  have h2:Nat.ble (j+cs.length) cells.length=true:=Nat.ble_eq_true_of_le hl
  have h0:Nat.ble 0 j=true:=Nat.ble_eq_true_of_le (Nat.zero_le _)
  simp only[storeA,g3,h2,h0,h1,Bool.and_self]
  rfl
 refine WO.op0 undef (h.set g (.row (putAt cells j cs) true 0)) rfl ?_ (k _ (e0.set g1 g2 _) ⟨g,g1,g2,rfl,by rw[get_set,if_pos rfl]⟩ ⟨Nat.le_refl _,fun k _ hk=> ?_⟩)
 ·simp only[aop,hx,ptrAt,hy,Nat.zero_add,hv,List.size_toArray,Nat.beq_refl,hst,Option.map_some,cond_true]
 ·rw[get_set,if_neg (fun e=>hk (by rw[e]))]
theorem WO.storeC0 {x y:Operand} {p v:Value} {cells cs:List Value} {n:Nat} (hx:ev t x=p) (hy:ev t y=v) (hv:v.cells=cs.toArray) (h1:oneCells cs=true) (hn:cs.length=n) (o:OwnC h0 h p cells) (e0:Ext h0 h) (hl:cells.length=n)
  (k:∀ h',Ext h0 h'→OwnC h0 h' p cs→UpdC p h h'→WO P tab l ⟨t,ds,rd⟩ h' Q):WO P tab (⟨none,none,.store n x y⟩::l) ⟨t,ds,rd⟩ h Q:=by
 refine WO.storeC (hx.trans o.at0) hy hv h1 hn o e0 (by omega) fun h' a b c=>k h' a ?_ c
 have e:putAt cells 0 cs=cs:=by simp[putAt,hn,hl]
 rwa [e]at b
end
end Go.Am
namespace Go.Am
def writesOf:ACode→List Nat
 | .region ops=>ops.filterMap (·.dst)
 | .regionC ops=>ops.filterMap (·.1.dst)
 | .seq a b=>writesOf a++writesOf b
 | .cond _ a b=>writesOf a++writesOf b
 | .block _ b| .loop b| .scope b=>writesOf b
 |_=>[]
section
variable {P:Program} {ih:Ex}
theorem val_frame {d:Option Nat} {fr:AFr} {v:Value} {j:Nat} (hj:d≠some j):tmGet (val d fr v).tm j=tmGet fr.tm j:=by
 cases d with
 |none=>rfl
 |some d=>simp only[val,tmGet_set];rw[if_neg (fun e=>hj (by rw[e]))]
theorem aoper_frame {o:AOper} {fr fr':AFr} {h h':AHeap} (hx:aoper P ih o fr h=some (fr',h')) {j:Nat} (hj:o.dst≠some j):tmGet fr'.tm j=tmGet fr.tm j:=by
 unfold aoper at hx
 cases hw:wantedA fr.tm o.guard with
 |false=>
  simp only[hw,cond_false,Option.some.injEq,Prod.mk.injEq]at hx
  obtain⟨rfl,_⟩:=hx
  exact val_frame hj
 |true=>
  simp only[hw,cond_true]at hx
  cases hv:aoperV P ih fr.tm fr.round h o.op with
  |none=>simp[hv]at hx
  |some p=>
   obtain⟨v,ds,h1⟩:=p
   simp only[hv,Option.some.injEq,Prod.mk.injEq]at hx
   obtain⟨rfl,_⟩:=hx
   exact val_frame (fr:={fr with dfs:=ds++fr.dfs}) hj
theorem aopers_frame:∀ {l:List AOper} {fr fr':AFr} {h h':AHeap},aopers P ih l fr h=some (fr',h')→∀ {j:Nat},j∉l.filterMap (·.dst)→tmGet fr'.tm j=tmGet fr.tm j:=by
 intro l
 induction l with
 |nil=>intro fr fr' h h' hx j _;simp only[aopers,Option.some.injEq,Prod.mk.injEq]at hx;obtain⟨rfl,_⟩:=hx;rfl
 |cons o l ihl=>
  intro fr fr' h h' hx j hj
  simp only[aopers]at hx
  cases ho:aoper P ih o fr h with
  |none=>simp[ho]at hx
  |some p=>
   obtain⟨fr1,h1⟩:=p
   simp only[ho]at hx
   have h1:o.dst≠some j:=fun e=>hj (List.mem_filterMap.2 ⟨o,List.mem_cons_self ..,e⟩)
   have h2:j∉l.filterMap (·.dst):=fun e=>by
    obtain⟨a,b,c⟩:=List.mem_filterMap.1 e
    exact hj (List.mem_filterMap.2 ⟨a,List.mem_cons_of_mem _ b,c⟩)
   exact(ihl hx h2).trans (aoper_frame ho h1)
theorem aoperC_frame {g:Nat} {o:AOper} {fr fr':AFr} {h h':AHeap} (hx:aoperC P ih g o fr h=some (fr',h')) {j:Nat} (hj:o.dst≠some j):tmGet fr'.tm j=tmGet fr.tm j:=by
 unfold aoperC at hx
 cases hk:Nat.beq (kindA o.op) 3 with
 |false=>simp only[hk,cond_false]at hx;exact aoper_frame hx hj
 |true=>
  simp only[hk,cond_true]at hx
  cases hw:wantedA fr.tm o.guard with
  |false=>simp only[hw,cond_false,Option.some.injEq,Prod.mk.injEq]at hx;obtain⟨rfl,_⟩:=hx;exact val_frame hj
  |true=>
   simp only[hw,cond_true]at hx
   cases hm:madeA fr.tm o.op with
   |none=>simp[hm]at hx
   |some p=>simp only[hm,Option.some.injEq,Prod.mk.injEq]at hx;obtain⟨rfl,_⟩:=hx;exact val_frame hj
theorem aopersC_frame:∀ {l:List (AOper×List Nat)} {i g:Nat} {ws:List (Nat×Nat)} {rs:List (Nat×Nat×Option (Nat×Nat×List Value))} {bs ws':List (Nat×Nat)} {fr fr':AFr} {h h':AHeap},
  aopersC P ih l i g ws rs bs fr h=some (fr',h',ws')→∀ {j:Nat},j∉l.filterMap (·.1.dst)→tmGet fr'.tm j=tmGet fr.tm j:=by
 intro l
 induction l with
 |nil=>intro i g ws rs bs ws' fr fr' h h' hx j _;simp only[aopersC,Option.some.injEq,Prod.mk.injEq]at hx;obtain⟨rfl,_⟩:=hx;rfl
 |cons o l ihl=>
  intro i g ws rs bs ws' fr fr' h h' hx j hj
  obtain⟨o,un⟩:=o
  simp only[aopersC]at hx
  cases ho:aoperC P ih g o fr {h with mark:=h.n,wr:=[]} with
  |none=>simp[ho]at hx
  |some p=>
   obtain⟨fr1,h1⟩:=p
   simp only[ho]at hx
   obtain⟨_,hx⟩:=cond_some hx
   have h1:o.dst≠some j:=fun e=>hj (List.mem_filterMap.2 ⟨(o,un),List.mem_cons_self ..,e⟩)
   have h2:j∉l.filterMap (·.1.dst):=fun e=>by
    obtain⟨a,b,c⟩:=List.mem_filterMap.1 e
    exact hj (List.mem_filterMap.2 ⟨a,List.mem_cons_of_mem _ b,c⟩)
   exact(ihl hx h2).trans (aoperC_frame ho h1)
theorem find_writes:∀ {c r:ACode} {l:Nat},findLabelA c l=some r→∀ j,j∈writesOf r→j∈writesOf c:=by
 intro c
 induction c with
 |seq a b iha ihb=>
  intro r l hx j hj
  simp only[findLabelA]at hx
  cases ha:findLabelA a l with
  |none=>rw[ha]at hx;exact List.mem_append_right _ (ihb hx j hj)
  |some q=>
   rw[ha]at hx
   simp only[Option.some.injEq]at hx
   subst hx
   rcases List.mem_append.1 hj with h|h
   ·exact List.mem_append_left _ (iha ha j h)
   ·exact List.mem_append_right _ h
 |label l'=>intro r l hx j hj;simp only[findLabelA]at hx;split at hx<;>cases hx;cases hj
 |_=>intro r l hx;cases hx
def FrameOk (ih:Ex):Prop:=∀ c fr h e fr' h',ih.exec c fr h=some (e,fr',h')→∀ j,j∉writesOf c→tmGet fr'.tm j=tmGet fr.tm j
theorem scopeA_frame (hi:FrameOk ih) {b:ACode}:∀ (n:Nat) {c:ACode} {fr fr':AFr} {h h':AHeap} {e:AExit},scopeA ih n b c fr h=some (e,fr',h')→∀ j,j∉writesOf b→j∉writesOf c→tmGet fr'.tm j=tmGet fr.tm j:=by
 intro n
 induction n with
 |zero=>intro c fr fr' h h' e hx;cases hx
 |succ n ihn=>
  intro c fr fr' h h' e hx j hb hc
  simp only[scopeA]at hx
  cases he:ih.exec c fr h with
  |none=>simp[he]at hx
  |some p=>
   obtain⟨e0,fr0,h0⟩:=p
   have g0:=hi _ _ _ _ _ _ he j hc
   rw[he]at hx
   cases e0 with
   |goto l=>
    simp only at hx
    cases hf:findLabelA b l with
    |none=>simp only[hf,Option.some.injEq,Prod.mk.injEq]at hx;obtain⟨_,rfl,_⟩:=hx;exact g0
    |some rest=>simp only[hf]at hx;exact(ihn hx j hb (fun hj=>hb (find_writes hf j hj))).trans g0
   |_=>simp only[Option.some.injEq,Prod.mk.injEq]at hx;obtain⟨_,rfl,_⟩:=hx;exact g0
theorem rangeB_frame {f:Value} {ps:List Nat} {a b:ACode} {fr fr':AFr} {d:Nat} {mark:List Deferred} {h h':AHeap} {e:AExit} (hx:rangeB ih f ps a b fr d mark h=some (e,fr',h')):fr'.tm=fr.tm:=by
 unfold rangeB at hx
 split at hx
 ·cases hx
 ·split at hx
  ·repeat' split at hx
   all_goals first
    |(cases hx;done)
    |(simp only[Option.some.injEq,Prod.mk.injEq]at hx;obtain⟨_,rfl,_⟩:=hx;rfl)
  ·cases hx
theorem execA_frame (hi:FrameOk ih):FrameOk ⟨execA P ih,ih.call⟩:=by
 intro c fr h e fr' h' hx0 j hj
 have hx:execA P ih c fr h=some (e,fr',h'):=hx0
 clear hx0
 have one:∀ {a:ACode},j∉writesOf a→∀ {fr:AFr} {h:AHeap} {e:AExit} {fr':AFr} {h':AHeap},ih.exec a fr h=some (e,fr',h')→tmGet fr'.tm j=tmGet fr.tm j:=by
  intro a ha fr h e fr' h' hh
  exact hi _ _ _ _ _ _ hh j ha
 cases c with
 |region ops=>
  simp only[execA,Option.map_eq_some_iff,Prod.mk.injEq]at hx
  obtain⟨⟨fr1,h1⟩,hx,_,rfl,_⟩:=hx
  exact aopers_frame hx hj
 |regionC ops=>
  simp only[execA,Option.map_eq_some_iff,Prod.mk.injEq]at hx
  obtain⟨⟨fr1,h1⟩,hx,_,rfl,_⟩:=hx
  unfold regionA at hx
  cases hc:aopersC P ih ops 0 h.n [] [] [] fr {h with n:=h.n+(ops.filter fun x=>Nat.beq (kindA x.1.op) 3).length} with
  |none=>simp[hc]at hx
  |some p=>
   obtain⟨fr2,h2,ws⟩:=p
   simp only[hc,Option.some.injEq,Prod.mk.injEq]at hx
   obtain⟨rfl,_⟩:=hx
   exact aopersC_frame hc hj
 |seq a b=>
  have ha:j∉writesOf a:=fun q=>hj (List.mem_append_left _ q)
  have hb:j∉writesOf b:=fun q=>hj (List.mem_append_right _ q)
  simp only[execA]at hx
  cases he:ih.exec a fr h with
  |none=>simp[he]at hx
  |some p=>
   obtain⟨e0,fr0,h0⟩:=p
   have g0:=one ha he
   rw[he]at hx
   cases e0 with
   |normal=>exact(one hb hx).trans g0
   |_=>simp only[Option.some.injEq,Prod.mk.injEq]at hx;obtain⟨_,rfl,_⟩:=hx;exact g0
 |cond t a b=>
  have ha:j∉writesOf a:=fun q=>hj (List.mem_append_left _ q)
  have hb:j∉writesOf b:=fun q=>hj (List.mem_append_right _ q)
  simp only[execA]at hx
  split at hx
  ·exact one ha hx
  ·exact one hb hx
  ·cases hx
 |block id b=>
  have hb:j∉writesOf b:=hj
  simp only[execA]at hx
  cases he:ih.exec b fr h with
  |none=>simp[he]at hx
  |some p=>
   obtain⟨e0,fr0,h0⟩:=p
   have g0:=one hb he
   rw[he]at hx
   cases e0 with
   |exit id'=>simp only at hx;split at hx<;>(simp only[Option.some.injEq,Prod.mk.injEq]at hx;obtain⟨_,rfl,_⟩:=hx;exact g0)
   |_=>simp only[Option.some.injEq,Prod.mk.injEq]at hx;obtain⟨_,rfl,_⟩:=hx;exact g0
 |loop b=>
  have hb:j∉writesOf b:=hj
  simp only[execA]at hx
  cases he:ih.exec b fr h with
  |none=>simp[he]at hx
  |some p=>
   obtain⟨e0,fr0,h0⟩:=p
   have g0:=one hb he
   rw[he]at hx
   cases e0 with
   |normal=>exact(one (a:= .loop b) hb hx).trans g0
   |_=>simp only[Option.some.injEq,Prod.mk.injEq]at hx;obtain⟨_,rfl,_⟩:=hx;exact g0
 |scope b=>exact scopeA_frame hi _ hx j hj hj
 |rangeFunc f ps a b=>
  simp only[execA]at hx
  unfold rangeA at hx
  split at hx
  ·rw[rangeB_frame hx]
  ·split at hx
   ·rw[rangeB_frame hx]
   ·cases hx
 |_=>simp only[execA,Option.some.injEq,Prod.mk.injEq]at hx;obtain⟨_,rfl,_⟩:=hx;rfl
end
theorem aex_frame {P:Program} {tab:Tab}:∀ n,FrameOk (aex P tab n)
 |0=>fun c fr h e fr' h' hx=>by cases hx
 |n+1=>fun c fr h e fr' h' hx=>execA_frame (P:=P) (aex_frame n) c fr h e fr' h' hx
section
variable {P:Program} {tab:Tab}
theorem WX.frame {c:ACode} {fr:AFr} {h:AHeap} {K:AExit→AFr→AHeap→Prop} (hx:WX P tab c fr h K):WX P tab c fr h fun e fr' h'=>(∀ j,j∉writesOf c→tmGet fr'.tm j=tmGet fr.tm j)∧K e fr' h':=by
 unfold WX at *
 obtain⟨e,fr',h',k,ev⟩:=hx
 refine⟨e,fr',h',⟨?_,k⟩,ev⟩
 unfold Ev at ev
 obtain⟨N,a⟩:=ev
 exact aex_frame N _ _ _ _ _ _ (a N (Nat.le_refl _))
def Same (ws:List Nat) (t0 t:Trie Value):Prop:=∀ j,ws.contains j=false→tmGet t j=tmGet t0 j
theorem WX.loopF {α:Type} (μ:α→Nat) (I:α→Trie Value→AHeap→Prop) (x:α) {b t0 ds rd h K} (h0:I x t0 h)
  (hb:∀ x t h,Same (writesOf b) t0 t→I x t h→WX P tab b ⟨t,ds,rd⟩ h (loopK μ I x ds rd K)):WX P tab (.loop b) ⟨t0,ds,rd⟩ h K:=by
 refine WX.loop μ (fun x t h=>Same (writesOf b) t0 t∧I x t h) x ⟨fun _ _=>rfl,h0⟩ fun y t h ⟨hs,hi⟩=> ?_
 refine(WX.frame (hb y t h hs hi)).mono fun e fr h ⟨hf,hk⟩=> ?_
 unfold loopK at hk ⊢
 cases e with
 |normal=>
  obtain⟨k1,k2,z,k3,k4⟩:=hk
  exact⟨k1,k2,z,k3,fun j hj=>(hf j (by simpa using hj)).trans (hs j hj),k4⟩
 |exit i=>exact hk
 |goto l=>exact hk
 |ret=>exact hk
end
end Go.Am
namespace Go.Am
section
variable {H:Type} {P:Program} {h:AHeap}
theorem rd_struct {t:TypeId} {fs:Array Field} {acs:List Value} {d:DataW H} (r:Rd P h t acs d) (ht:P.underlying t=some (.struct fs)):
  ∃ parts,d= .agg parts∧acs.length=P.cellsOf t∧parts.length=fs.size∧∀ (i:Nat) (f:Field),fs[i]?=some f→∃ d:DataW H,Rd P h f.type ((acs.drop f.offset).take (P.cellsOf f.type)) d:=by
 cases r with
 |int n ht' wf=>rw[ht]at ht';cases ht'
 |bool _ ht'=>rw[ht]at ht';cases ht'
 |string _ ht'=>rw[ht]at ht';cases ht'
 |snil ht'=>rw[ht]at ht';cases ht'
 |szero a sp ht'=>rw[ht]at ht';cases ht'
 |slice g cells elems sp ht' hg hn hl hm hr=>rw[ht]at ht';cases ht'
 |array _ _ ht'=>rw[ht]at ht';cases ht'
 |struct cells parts ht' hl hp hr=>
  rw[ht]at ht';cases ht'
  refine⟨parts,rfl,hl,hp,fun i f hf=> ?_⟩
  have hi:i<parts.length:=by rw[hp];exact(Array.getElem?_eq_some_iff.1 hf).1
  exact⟨_,hr i f _ hf (List.getElem?_eq_getElem hi)⟩
theorem list_of {α:Type} {p:Nat→α→Prop}:∀ n,(∀ i,i<n→∃ a,p i a)→∃ l:List α,l.length=n∧∀ (i:Nat) (a:α),l[i]?=some a→p i a:=by
 intro n
 induction n with
 |zero=>exact fun _=>⟨[],rfl,fun i a ha=>by simp at ha⟩
 |succ n ih=>
  intro hx
  obtain⟨l,hl,hp⟩:=ih fun i hi=>hx i (by omega)
  obtain⟨a,ha⟩:=hx n (by omega)
  refine⟨l++[a],by simp[hl],fun i b hb=> ?_⟩
  by_cases hi:i<n
  ·rw[List.getElem?_append_left (by omega)]at hb;exact hp i b hb
  ·rw[List.getElem?_append_right (by omega),hl]at hb
   have:i=n:=by
    have:=(List.getElem?_eq_some_iff.1 hb).1
    simp at this;omega
   subst this
   simp at hb;subst hb;exact ha
theorem rd_recs {α:Type} {c:Nat} {R:AHeap→List Value→α→Prop} {t e:TypeId} {acs:List Value} {d:DataW H} (r:Rd P h t acs d) (ht:P.underlying t=some (.slice e)) (hc:P.cellsOf e=c)
  (hR:∀ cs (d:DataW H),Rd P h e cs d→∃ a,R h cs a):∃ av l,acs=[av]∧SlR c R h av l∧(l.length:Int)≤9223372036854775807:=by
 subst hc
 rcases rd_slice r ht with ⟨rfl,_⟩|⟨a,sp,rfl,_⟩|⟨g,cells,elems,sp,rfl,rfl,hg,hn,hl,hm,hr⟩
 ·exact⟨_,[],rfl,SlR.nil,by simp⟩
 ·exact⟨_,[],rfl,⟨[],⟨by simp,.inl ⟨rfl,.inr ⟨_,_,rfl⟩⟩⟩,fun i a ha=>by simp at ha⟩,by simp⟩
 ·obtain⟨l,h1,h2⟩:=list_of (p:=fun i a=>R h ((cells.drop (i * P.cellsOf e)).take (P.cellsOf e)) a) elems.length fun i hi=>hR _ _ (hr i _ (List.getElem?_eq_getElem hi))
  unfold maxLen at hm
  refine⟨_,l,rfl,⟨cells,⟨by rw[h1];exact hl,.inr ⟨g,0,cells,by rw[h1],by simp[rowOf,hg],?_,hn⟩⟩,h2⟩,by rw[h1];omega⟩
  rw[h1,←hl];simp[cut,Nat.ble_eq_true_of_le (Nat.le_refl _)]
end
end Go.Am
