/- A part of the abstract machine for the model's programs and of the proof that what it yields the model's call yields (definitions, operations, runs, regions that draw their order); no statement of the seat is proved in this text. -/
import Derived.Test.YtmilpkdhbdgjfaaAmU
set_option linter.unusedVariables false
set_option linter.unusedSimpArgs false
namespace Go.Am
set_option linter.unusedVariables false
section
variable {P:Program} {tab:Tab}
def WU6 (P:Program) (tab:Tab) (m:Nat) (Bad:Nat→Prop):List (AOper×List Nat)→Nat→AFr→AHeap→(AFr→AHeap→Prop)→Prop
 |[],_,fr,h,Q=>Q fr h
 |(o,un)::l,g,fr,h,Q=>
  if Nat.beq (kindA o.op) 3=true then
   un=[]∧wantedA fr.tm o.guard=true∧m≤g∧readsA fr.tm o=none∧∃ ob f,madeA fr.tm o.op=some (ob,f)∧WU6 P tab m Bad l (g+1) (val o.dst fr (f g)) ((inC h).lay g ob) Q
  else WO P tab [o] fr (inC h) fun fr' h'=>(∀ g∈h'.wr,m≤g)∧(un=[]∨(readsA fr.tm o=none∧∀ g∈h'.wr,Bad g))∧(∀ g,readsA fr.tm o=some g→¬Bad g)∧WU6 P tab m Bad l g fr' h' Q
theorem okB_check {Bad:Nat→Prop} {un:List Nat} {t:Trie Value} {o:AOper} {h':AHeap} (hk:un=[]∨(readsA t o=none∧∀ g∈h'.wr,Bad g)) (ws:List (Nat×Nat)) (bs:List (Nat×Nat)) {rs:List (Nat×Nat×Option (Nat×Nat×List Value))} (hr:∀ e∈rs,¬Bad e.2.1):
  ((match readsA t o with
   |some g=>(ws.all fun x=> !(Nat.beq g x.2&&un.contains x.1))&&bs.all fun x=> !un.contains x.1||Nat.ble (g+1) x.2
   |none=>true)&&rs.all fun x=> !(un.contains x.1&&h'.wr.contains x.2.1)||seenA h' x.2.1 x.2.2)=true:=by
 rcases hk with rfl|⟨h1,h2⟩
 ·exact ok_nil o ws rs bs t h'
 ·rw[h1]
  simp only[Bool.true_and]
  rw[List.all_eq_true]
  intro x hx
  have:h'.wr.contains x.2.1=false:=by
   cases hc:h'.wr.contains x.2.1 with
   |false=>rfl
   |true=>exact absurd (h2 _ (List.contains_iff_mem.1 hc)) (hr x hx)
  rw[this,Bool.and_false];rfl
theorem WU6.run {m:Nat} {Bad:Nat→Prop}:∀ {ops:List (AOper×List Nat)} {g:Nat} {fr:AFr} {h:AHeap} {Q:AFr→AHeap→Prop},WU6 P tab m Bad ops g fr h Q→
  ∃ fr' h',Q fr' h'∧∀ (i:Nat) (ws:List (Nat×Nat)) (rs:List (Nat×Nat×Option (Nat×Nat×List Value))) (bs:List (Nat×Nat)),(∀ e∈ws,m≤e.2)→(∀ e∈rs,¬Bad e.2.1)→
   ∃ ws',(∀ e∈ws',m≤e.2)∧Ev fun n=>aopersC P (aex P tab n) ops i g ws rs bs fr h=some (fr',h',ws'):=by
 intro ops
 induction ops with
 |nil=>intro g fr h Q hx;exact⟨fr,h,hx,fun i ws rs bs hw _=>⟨ws,hw,Ev.all fun n=>rfl⟩⟩
 |cons x ops ihl=>
  intro g fr h Q hx
  obtain⟨o,un⟩:=x
  simp only[WU6]at hx
  have go:∀ {g':Nat} {fr1:AFr} {h1:AHeap},(g'=bif Nat.beq (kindA o.op) 3 then g+1 else g)→(Ev fun n=>aoperC P (aex P tab n) g o fr (inC h)=some (fr1,h1))→(∀ x∈h1.wr,m≤x)→(un=[]∨(readsA fr.tm o=none∧∀ g∈h1.wr,Bad g))→(∀ g,readsA fr.tm o=some g→¬Bad g)→WU6 P tab m Bad ops g' fr1 h1 Q→
    ∃ fr' h',Q fr' h'∧∀ (i:Nat) (ws:List (Nat×Nat)) (rs:List (Nat×Nat×Option (Nat×Nat×List Value))) (bs:List (Nat×Nat)),(∀ e∈ws,m≤e.2)→(∀ e∈rs,¬Bad e.2.1)→
     ∃ ws',(∀ e∈ws',m≤e.2)∧Ev fun n=>aopersC P (aex P tab n) ((o,un)::ops) i g ws rs bs fr h=some (fr',h',ws'):=by
   intro g' fr1 h1 hg ev hw hk hb hx
   obtain⟨fr',h',q,run⟩:=ihl hx
   refine⟨fr',h',q,fun i ws rs bs hws hrs=> ?_⟩
   obtain⟨ws',w1,w2⟩:=run (i+1) (h1.wr.map (fun g=>(i,g))++ws) (match readsA fr.tm o with
     |some g=>(i,g,viewA fr.tm h o.op)::rs
     |none=>rs) ((i,h.n)::bs) (fun e he=>by
      rcases List.mem_append.1 he with he|he
      ·obtain⟨y,hy,rfl⟩:=List.mem_map.1 he;exact hw y hy
      ·exact hws e he) (fun e he=>by
      cases hr:readsA fr.tm o with
      |none=>rw[hr]at he;exact hrs e he
      |some k=>
       rw[hr]at he
       rcases List.mem_cons.1 he with rfl|he
       ·exact hb k hr
       ·exact hrs e he)
   refine⟨ws',w1,(ev.and w2).mono fun n ⟨e1,e2⟩=> ?_⟩
   simp only[aopersC]
   have e1':aoperC P (aex P tab n) g o fr {h with mark:=h.n,wr:=[]}=some (fr1,h1):=e1
   rw[e1']
   have hok:=okB_check hk ws bs hrs
   exact(congrArg (fun b:Bool=>bif b then aopersC P (aex P tab n) ops (i+1) (bif Nat.beq (kindA o.op) 3 then g+1 else g) (h1.wr.map (fun g=>(i,g))++ws) (match readsA fr.tm o with
     |some g=>(i,g,viewA fr.tm h o.op)::rs
     |none=>rs) ((i,h.n)::bs) fr1 h1 else none) hok).trans (by rw[cond_true,←hg];exact e2)
  by_cases hk:Nat.beq (kindA o.op) 3=true
  ·rw[if_pos hk]at hx
   obtain⟨rfl,hw,hm,hr,ob,f,hmade,hx⟩:=hx
   refine go (g':=g+1) (by rw[hk];rfl) (Ev.all fun n=> ?_) (h1:=(inC h).lay g ob) (fun x hx=> ?_) (.inl rfl) (fun k hk2=>by rw[hr]at hk2;cases hk2) hx
   ·unfold aoperC;simp only[hk,hw,hmade,cond_true]
   ·rcases log_mem hx with rfl|hx
    ·exact hm
    ·cases hx
  ·rw[if_neg hk]at hx
   have hk':Nat.beq (kindA o.op) 3=false:=by cases hb:Nat.beq (kindA o.op) 3 with
    |false=>rfl
    |true=>exact absurd hb hk
   unfold WO at hx
   obtain⟨fr1,h1,⟨q1,q2,q3,q4⟩,ev⟩:=hx
   refine go (g':=g) (by rw[hk'];rfl) (ev.mono fun n e=> ?_) q1 q2 q3 q4
   unfold aoperC;simp only[hk',cond_false]
   simp only[aopers]at e
   cases ha:aoper P (aex P tab n) o fr (inC h)with
   |none=>rw[ha]at e;cases e
   |some p=>rw[ha]at e;exact e
end
section
variable {P:Program} {tab:Tab} {m:Nat} {Bad:Nat→Prop} {l:List (AOper×List Nat)} {o:AOper} {un:List Nat} {g:Nat} {fr:AFr} {h h0 h':AHeap} {Q:AFr→AHeap→Prop} {K:AExit→AFr→AHeap→Prop} {t:Trie Value}
def uK6 (P:Program) (tab:Tab) (m:Nat) (Bad:Nat→Prop) (un:List Nat) (t:Trie Value) (o:AOper) (l:List (AOper×List Nat)) (g:Nat) (Q:AFr→AHeap→Prop):AFr→AHeap→Prop:=
 fun fr' h'=>(∀ g∈h'.wr,m≤g)∧(un=[]∨(readsA t o=none∧∀ g∈h'.wr,Bad g))∧(∀ g,readsA t o=some g→¬Bad g)∧WU6 P tab m Bad l g fr' h' Q
theorem WU6.q (hk:Nat.beq (kindA o.op) 3=false) (hx:WO P tab [o] fr (inC h) (uK6 P tab m Bad un fr.tm o l g Q)):WU6 P tab m Bad ((o,un)::l) g fr (inC h) Q:=by
 simp only[WU6];rw[if_neg (by rw[hk];exact Bool.noConfusion)];exact hx
theorem WU6.mk {d:Nat} {op:AOp} {ob:AObj} {f:Nat→Value} (hk:Nat.beq (kindA op) 3=true) (hm:m≤g) (hmade:madeA t op=some (ob,f)) {ds:List Deferred} {rd:Option Nat} (hx:WU6 P tab m Bad l (g+1) ⟨t.set d (f g),ds,rd⟩ ((inC h).lay g ob) Q):WU6 P tab m Bad ((⟨some d,none,op⟩,[])::l) g ⟨t,ds,rd⟩ (inC h) Q:=by
 simp only[WU6];rw[if_pos hk]
 refine⟨by trivial,rfl,hm,?_,ob,f,hmade,hx⟩
 cases op<;>first|rfl|cases hk
end
end Go.Am
namespace Go.Am
set_option linter.unusedVariables false
set_option linter.unusedSimpArgs false
structure AR (hB h:AHeap) (p:Value) (cells:List Value) (n:Nat) (A:Nat→List Int):Prop where
 own:OwnC hB h p cells
 len:cells.length=n
 all:∀ j,j<n→OwnN hB h (cells.getD j undef) (A j)
 apart:∀ i j g a b c d,i<n→j<n→i≠j→cells.getD i undef= .slice (some ⟨g,0,none⟩) a b→cells.getD j undef= .slice (some ⟨g,0,none⟩) c d→False
theorem AR.ext {hB h h':AHeap} {p:Value} {cells:List Value} {n:Nat} {A:Nat→List Int} (r:AR hB h p cells n A) (e:Ext h h'):AR hB h' p cells n A:=
 ⟨r.own.ext e,r.len,fun j hj=>(r.all j hj).ext e,r.apart⟩
theorem AR.off {hB h:AHeap} {p:Value} {cells:List Value} {n:Nat} {A:Nat→List Int} (r:AR hB h p cells n A) {j:Nat} (hj:j<n) {g gp a b:Nat} (hp:p= .pointer (some ⟨gp,0,none⟩)) (hv:cells.getD j undef= .slice (some ⟨g,0,none⟩) a b):g≠gp:=by
 intro e
 subst e
 obtain⟨q,_,_,hq,hg⟩:=r.own
 rw[hp]at hq;cases hq
 rcases r.all j hj with ⟨h1,_⟩|⟨q2,_,_,h2,h3⟩
 ·rw[h1]at hv;cases hv
 ·rw[h2]at hv;cases hv
  rw[hg]at h3
  have he:cells=(A j).map I:=by simpa using h3
  have:=congrArg (fun l=>l.getD j undef) he
  simp only[h2]at this
  have hlen:j<((A j).map I).length:=by rw[←he,r.len];exact hj
  rw[List.getD_eq_getElem?_getD,List.getElem?_eq_getElem hlen]at this
  simp at this
section
variable {P:Program} {tab:Tab} {t:Trie Value} {ds:List Deferred} {rd:Option Nat}
theorem putAt_one {l:List Value} {i:Nat} {v:Value} (hi:i<l.length):putAt l i [v]=l.set i v:=by
 unfold putAt
 rw[List.length_singleton,List.set_eq_take_append_cons_drop,if_pos hi];simp
theorem AR.one {hB h:AHeap} {p:Value} {cells:List Value} {n:Nat} {A:Nat→List Int} (r:AR hB h p cells n A):oneCells cells=true:=by
 unfold oneCells
 rw[List.all_eq_true]
 intro x hx
 obtain⟨j,hj,rfl⟩:=List.mem_iff_getElem.1 hx
 have e:cells.getD j undef=cells[j]:=by simp[List.getD,List.getElem?_eq_getElem hj]
 have:=r.all j (by rw[←r.len];exact hj)
 rw[e]at this
 rcases this with ⟨h,_⟩|⟨_,_,_,h,_⟩<;>rw[h]
end
end Go.Am
namespace Go.Am
section
variable {P:Program} {tab:Tab} {ds:List Deferred} {rd:Option Nat} {h:AHeap} {l:List AOper} {t:Trie Value}
end
end Go.Am
namespace Go.Am
set_option linter.unusedVariables false
set_option linter.unusedSimpArgs false
section
variable {P:Program} {tab:Tab} {t:Trie Value} {ds:List Deferred} {rd:Option Nat}
theorem own_set {h0 h:AHeap} {p:Value} {xs:List Int} {j:Nat} {a:Int} (o:OwnC h0 h p (xs.map I)) (hj:j<xs.length):∃ g,h0.n≤g∧g<h.n∧p= .pointer (some ⟨g,0,none⟩)∧storeA h ⟨g,j,none⟩ [I a]=some (h.set g (.row ((xs.set j a).map I) true 0)):=by
 obtain⟨g,g1,g2,hp,g3⟩:=o
 refine⟨g,g1,g2,hp,?_⟩
 have h1:Nat.ble (j+1) (xs.map I).length=true:=Nat.ble_eq_true_of_le (by simp;omega)
 have h0:Nat.ble 0 j=true:=Nat.ble_eq_true_of_le (Nat.zero_le _)
 have h2:oneCells [I a]=true:=rfl
 simp only[storeA,g3,List.length_singleton,h1,h0,h2,Bool.and_self,putAt_set _ _ _ hj]
 rfl
theorem WU2.st1 {N0 g:Nat} {cl:Bool} {x y:Operand} {p:Value} {xs:List Int} {j:Nat} {a:Int} {h0 X:AHeap} {m:Nat} {w:AOper×List Nat} {l:List (AOper×List Nat)} {Q:AFr→AHeap→Prop} (o:OwnC h0 X p (xs.map I)) (hm:m≤h0.n) (hj:j<xs.length)
  (k:∀ X',X'.n=X.n→OwnC h0 X' p ((xs.set j a).map I)→UpdC p X X'→(Wf X→Wf X')→WU2 P tab m N0 (w::l) g false ⟨t,ds,rd⟩ (inC X') Q) (hx:Ope t x (ptrAt p j):=by exact ope_) (hy:Ope t y (I a):=by exact ope_):
  WU2 P tab m N0 ((⟨none,none,.store 1 x y⟩,[])::w::l) g cl ⟨t,ds,rd⟩ (inC X) Q:=by
 obtain⟨q,q1,q2,hp,hst⟩:=own_set (a:=a) o hj
 rw[WU2,if_neg (show ¬Nat.beq (kindA (AOp.store 1 x y)) 3=true from Bool.noConfusion)]
 have hst':storeA (inC (inC X)) ⟨q,j,none⟩ [I a]=some ((inC (inC X)).set q (.row ((xs.set j a).map I) true 0)):=by
  have:OwnC h0 (inC (inC X)) p (xs.map I):=o
  obtain⟨q',_,_,hp',h⟩:=own_set (a:=a) this hj
  rw[hp]at hp';cases hp';exact h
 have hx:ev t x=ptrAt p j:=hx
 have hy:ev t y=I a:=hy
 have hc:(I a).cells=#[I a]:=rfl
 refine WO.op0 undef ((inC (inC X)).set q (.row ((xs.set j a).map I) true 0)) rfl (by
  simp only[aop,hx,hp,ptrAt,Nat.zero_add,hy,hc,hst',Option.map_some];rfl) ?_
 have hlog:(inC (inC X)).log q=[q]:=by
  have:Nat.ble X.n q=false:=by
   cases hb:Nat.ble X.n q with
   |false=>rfl
   |true=>have:=Nat.le_of_ble_eq_true hb;omega
  show (bif Nat.ble X.n q then [] else q::[])=_
  rw[this];rfl
 have hwr:((inC (inC X)).set q (.row ((xs.set j a).map I) true 0)).wr=[q]:=hlog
 refine WO.nil ⟨⟨fun c hc=> ?_,Nat.le_refl _,.inl rfl⟩,?_⟩
 ·rw[hwr]at hc;rw[List.mem_singleton]at hc;subst hc;omega
 ·rw[hwr,show (cl&&[q].isEmpty)=false by cases cl<;>rfl]
  have:=k ((inC (inC X)).set q (.row ((xs.set j a).map I) true 0)) rfl ⟨q,q1,q2,hp,by rw[get_set,if_pos rfl]⟩ ⟨Nat.le_refl _,fun c _ hc=>by rw[get_set,if_neg (fun e=>hc (by rw[hp,e]))];rfl⟩ (fun wf c hc=>by have hc:X.n≤c:=hc;rw[get_set,if_neg (by omega)];exact wf c hc)
  obtain⟨o2,un2⟩:=w
  unfold WU2 at this ⊢
  exact this
end
end Go.Am
namespace Go.Am
def Dep {α:Type} (R:AHeap→List Value→α→Prop) (h:AHeap) (cs:List Value) (a:α) (D:Nat→Prop):Prop:=
 ∀ hx:AHeap,(∀ k o,D k→h.get k=some o→hx.get k=some o)→h.n≤hx.n→R hx cs a
def OwnR {α:Type} (c:Nat) (R:AHeap→List Value→α→Prop) (b:Nat) (h:AHeap) (v:Value) (xs:List α):Prop:=
 (v= .slice none 0 0∧xs=[])∨∃ g cells D,b≤g∧g<h.n∧v= .slice (some ⟨g,0,none⟩) xs.length c∧h.get g=some (.row cells true 0)∧cells.length=xs.length * c∧¬D g∧(∀ k,D k→b≤k∧k<h.n)∧
  ∀ (i:Nat) (a:α),xs[i]?=some a→Dep R h ((cells.drop (i * c)).take c) a D
section
variable {α:Type} {c b:Nat} {R:AHeap→List Value→α→Prop} {h h':AHeap} {v:Value} {xs:List α}
theorem Dep.self {cs:List Value} {a:α} {D:Nat→Prop} (d:Dep R h cs a D):R h cs a:=d h (fun _ _ _ e=>e) (Nat.le_refl _)
theorem Dep.mono {cs:List Value} {a:α} {D E:Nat→Prop} (d:Dep R h cs a D) (hE:∀ k,D k→E k) (hk:∀ k o,D k→h.get k=some o→h'.get k=some o) (hn:h.n≤h'.n):Dep R h' cs a E:=
 fun hx h1 h2=>d hx (fun k o hd e=>h1 k o (hE k hd) (hk k o hd e)) (Nat.le_trans hn h2)
theorem OwnR.nil:OwnR c R b h (.slice none 0 0) ([]:List α):= .inl ⟨rfl,rfl⟩
theorem OwnR.upd (o:OwnR c R b h v xs) (hk:∀ k,b≤k→k<h.n→h'.get k=h.get k) (hn:h.n≤h'.n):OwnR c R b h' v xs:=by
 rcases o with o|⟨g,cells,D,g1,g2,g3,g4,g5,g6,g7,g8⟩
 ·exact .inl o
 ·exact .inr ⟨g,cells,D,g1,Nat.lt_of_lt_of_le g2 hn,g3,(hk g g1 g2).trans g4,g5,g6,fun k hd=>⟨(g7 k hd).1,Nat.lt_of_lt_of_le (g7 k hd).2 hn⟩,fun i a ha=>(g8 i a ha).mono (fun _ h=>h) (fun k o hd e=>(hk k (g7 k hd).1 (g7 k hd).2).trans e) hn⟩
theorem OwnR.ext (o:OwnR c R b h v xs) (e:Ext h h'):OwnR c R b h' v xs:=o.upd (fun k _ hk=>e.get k hk) e.n
theorem OwnR.dep (o:OwnR c R b h v xs) {hx:AHeap} (hk:∀ k o,b≤k→k<h.n→h.get k=some o→hx.get k=some o) (hn:h.n≤hx.n):SlR c R hx v xs:=by
 rcases o with ⟨rfl,rfl⟩|⟨g,cells,D,g1,g2,rfl,g4,g5,g6,g7,g8⟩
 ·exact SlR.nil
 ·refine⟨cells,⟨g5,.inr ⟨g,0,cells,rfl,rowOf_get (hk g _ g1 g2 g4),?_,Nat.lt_of_lt_of_le g2 hn⟩⟩,fun i a ha=>g8 i a ha hx (fun k o hd e=>hk k o (g7 k hd).1 (g7 k hd).2 e) hn⟩
  rw[cut_ok (by omega)];simp[←g5]
theorem OwnR.sl (o:OwnR c R b h v xs):SlR c R h v xs:=o.dep (fun _ _ _ _ e=>e) (Nat.le_refl _)
theorem OwnR.base {b':Nat} (o:OwnR c R b h v xs) (hb:b'≤b):OwnR c R b' h v xs:=by
 rcases o with o|⟨g,cells,D,g1,g2,g3,g4,g5,g6,g7,g8⟩
 ·exact .inl o
 ·exact .inr ⟨g,cells,D,Nat.le_trans hb g1,g2,g3,g4,g5,g6,fun k hd=>⟨Nat.le_trans hb (g7 k hd).1,(g7 k hd).2⟩,g8⟩
theorem take_app {cells cs:List Value} {n i:Nat} (hl:cells.length=n * c) (hc:cs.length=c) (hi:i<n):(((cells++cs).drop (i * c)).take c)=(cells.drop (i * c)).take c:=by
 have h1:i * c+c≤n * c:=by rw[←Nat.succ_mul];exact Nat.mul_le_mul_right _ hi
 rw[List.drop_append,List.take_append_of_le_length]
 rw[List.length_drop];omega
theorem take_last {cells cs:List Value} {n:Nat} (hl:cells.length=n * c) (hc:cs.length=c):(((cells++cs).drop (n * c)).take c)=cs:=by
 rw[List.drop_append,List.drop_eq_nil_of_le (by omega),List.nil_append,hl,Nat.sub_self,List.drop_zero,List.take_of_length_le (by omega)]
theorem OwnR.snoc (o:OwnR c R b h v xs) {cs:List Value} {a:α} {Dn:Nat→Prop} {g':Nat} {olds:List Value} (hc:cs.length=c) (d:Dep R h cs a Dn) (hD:∀ k,Dn k→b≤k∧k<h.n) (hv:∀ g n k,v= .slice (some ⟨g,0,none⟩) n k→¬Dn g)
  (hold:∀ g n k,v= .slice (some ⟨g,0,none⟩) n k→h.get g=some (.row olds true 0)) (hnil:v= .slice none 0 0→olds=[])
  (hg:h.n≤g') (hb:b≤g') (hg2:g'<h'.n) (hget:h'.get g'=some (.row (olds++cs) true 0)) (keep:∀ k,b≤k→k<h.n→(∀ n k',v≠ .slice (some ⟨k,0,none⟩) n k')→h'.get k=h.get k):
  OwnR c R b h' (.slice (some ⟨g',0,none⟩) (xs++[a]).length c) (xs++[a]):=by
 rcases o with ⟨rfl,rfl⟩|⟨g,cells,D,g1,g2,rfl,g4,g5,g6,g7,g8⟩
 ·have:=hnil rfl;subst this
  refine .inr ⟨g',cs,Dn,hb,hg2,rfl,by simpa using hget,by simp[hc],fun hd=>by have:=(hD _ hd).2;omega,fun k hd=>⟨(hD k hd).1,by have:=(hD k hd).2;omega⟩,fun i x hx=> ?_⟩
  have hi:i=0:=by
   have:=(List.getElem?_eq_some_iff.1 hx).1;simp at this;omega
  subst hi
  simp at hx;subst hx
  rw[Nat.zero_mul,List.drop_zero,List.take_of_length_le (by omega)]
  exact d.mono (fun _ h=>h) (fun k o hd e=>(keep k (hD k hd).1 (hD k hd).2 (fun _ _ e=>by cases e)).trans e) (by omega)
 ·have:=hold g _ _ rfl
  rw[g4]at this;cases this
  refine .inr ⟨g',olds++cs,fun k=>D k∨Dn k,hb,hg2,rfl,hget,by rw[List.length_append,List.length_append,List.length_singleton,Nat.succ_mul,g5,hc],fun hd=> ?_,fun k hd=> ?_,fun i x hx=> ?_⟩
  ·rcases hd with hd|hd
   ·have:=(g7 _ hd).2;omega
   ·have:=(hD _ hd).2;omega
  ·rcases hd with hd|hd
   ·exact⟨(g7 k hd).1,by have:=(g7 k hd).2;omega⟩
   ·exact⟨(hD k hd).1,by have:=(hD k hd).2;omega⟩
  ·by_cases hi:i<xs.length
   ·rw[List.getElem?_append_left hi]at hx
    rw[take_app g5 hc hi]
    refine(g8 i x hx).mono (fun k h=> .inl h) (fun k o hd e=>(keep k (g7 k hd).1 (g7 k hd).2 (fun n k' e2=> ?_)).trans e) (by omega)
    cases e2;exact g6 hd
   ·rw[List.getElem?_append_right (by omega)]at hx
    have hi2:i=xs.length:=by
     have:=(List.getElem?_eq_some_iff.1 hx).1;simp at this;omega
    subst hi2
    simp at hx;subst hx
    rw[take_last g5 hc]
    refine d.mono (fun k h=> .inr h) (fun k o hd e=>(keep k (hD k hd).1 (hD k hd).2 (fun n k' e2=> ?_)).trans e) (by omega)
    exact hv k n k' e2 hd
end
section
variable {P:Program} {tab:Tab} {t:Trie Value} {h:AHeap} {ds:List Deferred} {rd:Option Nat} {l:List AOper} {Q:AFr→AHeap→Prop}
theorem fill_one {zero cs:List Value} {v:Value} {c:Nat} (hv:v.cells=cs.toArray) (hc:cs.length=c) (hz:zero.length=c):fillA (repl zero 1) [(0,c,v)]=some cs:=by
 have h1:repl zero 1=zero:=by simp[repl]
 have h2:Nat.beq v.cells.size c=true:=by rw[hv];simp[hc]
 have h3:Nat.ble (0+c) zero.length=true:=Nat.ble_eq_true_of_le (by omega)
 rw[h1]
 simp only[fillA,h2,h3,Bool.and_self,cond_true,hv]
 congr 1
 simp[putAt,hc,hz]
theorem append_rec {α:Type} {c b gl:Nat} {R:AHeap→List Value→α→Prop} {h H:AHeap} {v:Value} {xs:List α} {cs:List Value} {a:α} {Dn:Nat→Prop} (o:OwnR c R b h v xs) (hc:cs.length=c) (hc0:0<c) (h1:oneCells cs=true) (hl:xs.length≤100000) (hbn:b≤h.n)
  (d:Dep R h cs a Dn) (hD:∀ k,Dn k→b≤k∧k<h.n) (hv:∀ g n k,v= .slice (some ⟨g,0,none⟩) n k→¬Dn g) (hH:h.n≤H.n) (hgl:gl<H.n) (hkeep:∀ k,k<h.n→H.get k=h.get k) (hlit:H.get gl=some (.row cs true 0)):
  ∃ v' H',appendA c v (.slice (some ⟨gl,0,none⟩) 1 c) H=some (v',H')∧OwnR c R b H' v' (xs++[a])∧H'.n=H.n+1∧(∀ k,k<H.n→(∀ n k',v≠ .slice (some ⟨k,0,none⟩) n k')→H'.get k=H.get k)∧H'.mark=H.mark∧(∀ k∈H'.wr,k∈H.wr∨b≤k)∧
   (H.mark≤b→H'.wr=H.wr)∧(Wf H→Wf H')∧(∃ n k g,v'= .slice (some ⟨g,0,none⟩) n k∧H.n≤g):=by
 obtain⟨y,ys,rfl⟩:∃ y ys,cs=y::ys:=by
  cases cs with
  |nil=>simp at hc;omega
  |cons y ys=>exact⟨y,ys,rfl⟩
 have hsrc:srcCells c H (.slice (some ⟨gl,0,none⟩) 1 c)=some (y::ys):=by
  have e1:rowOf H gl=some (y::ys):=rowOf_get hlit
  have e2:cut (y::ys) 0 (1 * c)=some (y::ys):=by rw[cut_ok (by omega)];simp[←hc]
  have e3:Nat.beq 1 0=false:=rfl
  rw[Nat.one_mul]at e2
  simp only[srcCells,e1,e3,Nat.one_mul,e2,Nat.beq_refl,Option.isNone_none,Bool.and_self,cond_true,cond_false]
 have hdiv:(y::ys).length / c=1:=by rw[hc];exact Nat.div_self hc0
 have hroom:room=4294967296:=rfl
 rcases id o with ⟨rfl,rfl⟩|⟨g,cells,D,g1,g2,rfl,g4,g5,g6,g7,g8⟩
 ·have hb1:Nat.ble 1 room=true:=rfl
  refine⟨.slice (some ⟨H.n,0,none⟩) 1 c,H.push (.row (y::ys) true 0),?_,?_,rfl,fun k hk _=> ?_,rfl,fun k hk=> .inl hk,fun _=>rfl,fun w k hk=> ?_,⟨_,_,_,rfl,Nat.le_refl _⟩⟩
  ·simp only[appendA,hsrc,h1,Bool.not_true,cond_false,hdiv,hb1,cond_true];rfl
  ·have:=o.snoc (h':=H.push (.row (y::ys) true 0)) (g':=H.n) (olds:=[]) hc d hD hv (fun g n k e=>by cases e) (fun _=>rfl) hH (Nat.le_trans hbn hH) (Nat.lt_succ_self _) (get_push_self _ _) (fun k _ hk _=>by rw[get_push,if_neg (by omega)];exact hkeep k hk)
   exact this
  ·rw[get_push,if_neg (by omega)]
  ·have hk:H.n+1≤k:=hk
   rw[get_push,if_neg (by omega)];exact w k (by omega)
 ·have hb1:Nat.ble (xs.length+1) room=true:=Nat.ble_eq_true_of_le (by omega)
  have hq:H.get g=some (.row cells true 0):=(hkeep g g2).trans g4
  have h2:cut cells 0 (xs.length * c)=some cells:=by rw[cut_ok (by omega)];simp[←g5]
  have h3:Nat.ble 0 (0+xs.length * c)=true:=Nat.ble_eq_true_of_le (Nat.zero_le _)
  have hcc:Nat.beq c 0=false:=by cases hz:Nat.beq c 0 with
   |false=>rfl
   |true=>have:=Nat.eq_of_beq_eq_true hz;omega
  have hKn:(H.kill g).n=H.n:=rfl
  refine⟨.slice (some ⟨H.n,0,none⟩) (xs.length+1) c,(H.kill g).push (.row (cells++y::ys) true (0 - 0)),?_,?_,rfl,fun k hk hvk=> ?_,rfl,fun k hk=> ?_,fun hm=> ?_,fun w k hk=> ?_,⟨_,_,_,rfl,Nat.le_refl _⟩⟩
  ·simp only[appendA,hsrc,h1,Bool.not_true,cond_false,hdiv,hb1,hcc,Nat.beq_refl,hq,h2,h3,cond_true,Option.isNone_none,Bool.and_self]
  ·have:=o.snoc (h':=(H.kill g).push (.row (cells++y::ys) true (0 - 0))) (g':=H.n) (olds:=cells) hc d hD hv (fun g n k e=>by cases e;exact g4) (fun e=>by cases e) hH (Nat.le_trans hbn hH) (Nat.lt_succ_self _) (get_push_self (H.kill g) _) (fun k _ hk hvk=>by
    rw[get_push,if_neg (by rw[hKn];omega),get_kill,if_neg (fun e=>hvk _ _ (by rw[e]))];exact hkeep k hk)
   rw[List.length_append,List.length_singleton]at this
   exact this
  ·rw[get_push,if_neg (by rw[hKn];omega),get_kill,if_neg (fun e=>hvk _ _ (by rw[e]))]
  ·have hk2:k∈H.log g:=hk
   rcases log_mem hk2 with rfl|h
   ·exact .inr g1
   ·exact .inl h
  ·show H.log g=H.wr
   exact log_of_mark (by omega)
  ·have hk:H.n+1≤k:=hk
   rw[get_push,if_neg (by rw[hKn];omega),get_kill]
   split
   ·rfl
   ·exact w k (by omega)
theorem WO.apR {α:Type} {c b d1 d2:Nat} {R:AHeap→List Value→α→Prop} {hB:AHeap} {v w:Value} {xs:List α} {cs zero:List Value} (a:α) (Dn:Nat→Prop) {x y:Operand} (o:OwnR c R b h v xs) (e0:Ext hB h) (hb:hB.n≤b) (hbn:b≤h.n) (hc0:0<c) (hl:xs.length≤100000)
  (d:Dep R h cs a Dn) (hD:∀ k,Dn k→b≤k∧k<h.n) (hv:∀ g n k,v= .slice (some ⟨g,0,none⟩) n k→¬Dn g)
  (k:∀ v' h' lit,Ext hB h'→OwnR c R b h' v' (xs++[a])→h.n≤h'.n→(∀ k,k<h.n→(∀ n k',v≠ .slice (some ⟨k,0,none⟩) n k')→h'.get k=h.get k)→WO P tab l ⟨(t.set d1 lit).set d2 v',ds,rd⟩ h' Q)
  (hx:Ope t x w:=by exact ope_) (hw:w.cells=cs.toArray:=by rfl) (hc:cs.length=c:=by rfl) (h1:oneCells cs=true:=by rfl) (hz:zero.length=c:=by rfl) (hy:∀ u,Ope (t.set d1 u) y v:=by intro u;exact ope_):
  WO P tab (⟨some d1,none,.buildSlice 1 c zero [(0,c,x)]⟩::⟨some d2,none,.append c y (.tmp d1)⟩::l) ⟨t,ds,rd⟩ h Q:=by
 have hx:ev t x=w:=hx
 refine WO.op (.slice (some ⟨h.n,0,none⟩) 1 c) (h.push (.row cs true 0)) rfl (by
  simp only[aop,evParts,List.map_cons,List.map_nil,hx,fill_one hw hc hz,Option.map_some];rfl) ?_
 obtain⟨v',H',q1,q2,q3,q4,q5,q6,q7,q8,q9⟩:=append_rec (H:=h.push (.row cs true 0)) (gl:=h.n) o hc hc0 h1 hl hbn d hD hv (Nat.le_succ _) (Nat.lt_succ_self _) (fun k hk=>by rw[get_push,if_neg (by omega)]) (get_push_self _ _)
 have hyv:ev (t.set d1 (.slice (some ⟨h.n,0,none⟩) 1 c)) y=v:=hy _
 have e1:ev (t.set d1 (.slice (some ⟨h.n,0,none⟩) 1 c)) (.tmp d1)= .slice (some ⟨h.n,0,none⟩) 1 c:=by simp only[ev,tmGet_set,if_true]
 refine WO.op v' H' rfl (by simp only[aop,hyv,e1,q1]) (k v' H' _ ?_ q2 (by rw[q3];show h.n≤h.n+1+1;omega) (fun k hk hvk=> ?_))
 ·have hvb:∀ k,k<hB.n→∀ n k',v≠ .slice (some ⟨k,0,none⟩) n k':=fun k hk n k' e=>by
   rcases o with ⟨e2,_⟩|⟨g,_,_,g1,_,e2,_⟩
   ·rw[e2]at e;cases e
   ·rw[e2]at e;cases e;omega
  refine⟨by rw[q3];show hB.n≤h.n+1+1;have:=e0.n;omega,fun k hk=> ?_,fun w=>q8 ?_,q5.trans e0.mark,fun hm=> ?_⟩
  ·have:=e0.n
   rw[q4 k (by show k<h.n+1;omega) (hvb k hk),get_push,if_neg (by omega)];exact e0.get k hk
  ·intro k hk
   have hk:h.n+1≤k:=hk
   rw[get_push,if_neg (by omega)];exact e0.wf w k (by omega)
  ·rw[q7 (by show h.mark≤b;rw[e0.mark];omega)];exact e0.wr hm
 ·rw[q4 k (by show k<h.n+1;omega) hvk,get_push,if_neg (by omega)]
theorem WU2.apR {α:Type} {c b d1 d2 d3 s j m N0:Nat} {cl:Bool} {R:AHeap→List Value→α→Prop} {hB hS X:AHeap} {p v w:Value} {xs:List α} {cs zero cells:List Value} (a:α) (Dn:Nat→Prop) {x y:Operand} {K:AExit→AFr→AHeap→Prop}
  (eX:Ext (inC (asideN 1 hS)) X) (o:OwnR c R b hS v xs) (e0:Ext hB hS) (hm:hS.mark≤hB.n) (hb:hB.n≤b) (hbn:b≤hS.n) (hc0:0<c) (hl:xs.length≤100000) (op:OwnC hB hS p cells) (hpb:∀ g,p= .pointer (some ⟨g,0,none⟩)→g<b)
  (d:Dep R X cs a Dn) (hD:∀ k,Dn k→b≤k∧k<X.n) (hv:∀ g n k,v= .slice (some ⟨g,0,none⟩) n k→¬Dn g) (hDs:¬Dn hS.n) (hj:j<cells.length) (hcl:oneCells cells=true)
  (k:∀ H v' t',SameA [d1,d2,d3] t t'→Ext hB H→OwnC hB H p (cells.set j v')→oneCells (cells.set j v')=true→OwnR c R b H v' (xs++[a])→(∀ k,k<hS.n→p≠ .pointer (some ⟨k,0,none⟩)→(∀ n k',v≠ .slice (some ⟨k,0,none⟩) n k')→H.get k=hS.get k)→hS.n≤H.n→K .normal ⟨t',ds,rd⟩ H)
  (hx:Ope t x w:=by exact ope_) (hw:w.cells=cs.toArray:=by rfl) (hc:cs.length=c:=by rfl) (h1:oneCells cs=true:=by rfl) (hz:zero.length=c:=by rfl) (hy:∀ u,Ope (t.set d1 u) y v:=by intro u;exact ope_) (hs:∀ u u',Ope ((t.set d1 u).set d2 u') (.tmp s) p:=by intro u u';exact ope_) (h32:Nat.beq d2 d3=false:=by rfl) (hm0:m=hS.mark:=by rfl):
  WU2 P tab m N0 [(⟨some d1,none,.buildSlice 1 c zero [(0,c,x)]⟩,[]),(⟨some d2,none,.append c y (.tmp d1)⟩,[]),(⟨some d3,none,.fld j (.tmp s)⟩,[]),(⟨none,none,.store 1 (.tmp d3) (.tmp d2)⟩,[])] hS.n cl ⟨t,ds,rd⟩ (inC X) (regQ K hS):=by
 subst hm0
 have hx:ev t x=w:=hx
 have hnX:hS.n+1≤X.n:=eX.n
 obtain⟨gp,gp1,gp2,hp,gp3⟩:=op
 have hgpb:=hpb gp hp
 rw[WU2,if_pos (show Nat.beq (kindA (AOp.buildSlice 1 c zero [(0,c,x)])) 3=true from rfl)]
 refine⟨rfl,rfl,by have:=e0.n;omega,.row cs true 0,_,by simp only[madeA,evParts,List.map_cons,List.map_nil,hx,fill_one hw hc hz,Option.map_some];rfl,?_⟩
 generalize hH1:(inC (inC X)).lay hS.n (.row cs true 0)=H1
 have n1:H1.n=X.n:=by rw[←hH1];rfl
 have get1:∀ c',H1.get c'=if c'=hS.n then some (.row cs true 0) else X.get c':=fun c'=>by rw[←hH1];exact trie_get_set _ _ _ _
 have getX:∀ k,k<hS.n→X.get k=hS.get k:=fun k hk=>eX.get k (by show k<hS.n+1;omega)
 have oX:OwnR c R b X v xs:=o.upd (fun k _ hk=>getX k hk) (by omega)
 have oX1:OwnR c R b (inC H1) v xs:=by
  rcases o with o|⟨g,cl',D,g1,g2,g3,g4,g5,g6,g7,g8⟩
  ·exact .inl o
  ·refine .inr ⟨g,cl',D,g1,by show g<H1.n;omega,g3,?_,g5,g6,fun k hd=>⟨(g7 k hd).1,by have:=(g7 k hd).2;show k<H1.n;omega⟩,fun i a ha=>(g8 i a ha).mono (fun _ h=>h) (fun k o hd e=> ?_) (by show hS.n≤H1.n;omega)⟩
   ·show H1.get g=_
    rw[get1,if_neg (by omega),getX g g2];exact g4
   ·have:=(g7 k hd).2
    show H1.get k=_
    rw[get1,if_neg (by omega),getX k this];exact e
 have d1':Dep R (inC H1) cs a Dn:=d.mono (fun _ h=>h) (fun k o hd e=>by
  show H1.get k=_
  rw[get1,if_neg (fun e2:k=hS.n=>by subst e2;exact hDs hd)];exact e) (by show X.n≤H1.n;omega)
 obtain⟨v',H2,q1,q2,q3,q4,q5,q6,q7,q8,n',k',g',q9,q10⟩:=append_rec (H:=inC H1) (gl:=hS.n) oX1 hc hc0 h1 hl (by show b≤H1.n;omega) d1' (fun k hd=>⟨(hD k hd).1,by have:=(hD k hd).2;show k<H1.n;omega⟩) hv (Nat.le_refl _) (by show hS.n<H1.n;omega) (fun _ _=>rfl) (by show H1.get hS.n=_;rw[get1,if_pos rfl])
 rw[WU2,if_neg (show ¬Nat.beq (kindA (AOp.append c y (.tmp d1))) 3=true from Bool.noConfusion)]
 have hyv:ev (t.set d1 (.slice (some ⟨hS.n,0,none⟩) 1 c)) y=v:=hy _
 have e1:ev (t.set d1 (.slice (some ⟨hS.n,0,none⟩) 1 c)) (.tmp d1)= .slice (some ⟨hS.n,0,none⟩) 1 c:=by simp only[ev,tmGet_set,if_true]
 refine WO.op v' H2 rfl (by simp only[aop,hyv,e1,q1]) ?_
 refine WO.nil ⟨⟨fun c' hc'=> ?_,by show H1.n≤H2.n;rw[q3];exact Nat.le_succ _,.inl rfl⟩,?_⟩
 ·rcases q6 c' hc' with h|h
  ·cases h
  ·omega
 have hvp:∀ n k,v≠ .slice (some ⟨gp,0,none⟩) n k:=fun n k e=>by
  rcases o with ⟨e2,_⟩|⟨g,_,_,g1,_,e2,_⟩
  ·rw[e2]at e;cases e
  ·rw[e2]at e;cases e;omega
 have own2:H2.get gp=some (.row cells true 0):=by
  rw[q4 gp (by show gp<H1.n;omega) hvp]
  show H1.get gp=_
  rw[get1,if_neg (by omega),getX gp gp2];exact gp3
 rw[WU2,if_neg (show ¬Nat.beq (kindA (AOp.fld j (.tmp s))) 3=true from Bool.noConfusion)]
 have hs2:ev ((t.set d1 (.slice (some ⟨hS.n,0,none⟩) 1 c)).set d2 v') (.tmp s)=p:=hs _ _
 refine WO.op (.pointer (some ⟨gp,j,none⟩)) (inC H2) rfl (by simp only[aop,hs2,hp,Nat.zero_add,Option.isNone_none,cond_true]) ?_
 refine WO.nil ⟨⟨fun c' hc'=>(by cases hc'),Nat.le_refl _,.inl rfl⟩,?_⟩
 rw[WU2,if_neg (show ¬Nat.beq (kindA (AOp.store 1 (.tmp d3) (.tmp d2))) 3=true from Bool.noConfusion)]
 have hvone:oneCells [v']=true:=by rw[q9];rfl
 have hvcells:v'.cells=#[v']:=by rw[q9];rfl
 have hst:storeA (inC (inC H2)) ⟨gp,j,none⟩ [v']=some ((inC (inC H2)).set gp (.row (cells.set j v') true 0)):=by
  have hg':(inC (inC H2)).get gp=some (.row cells true 0):=own2
  have h1:Nat.ble (j+1) cells.length=true:=Nat.ble_eq_true_of_le hj
  have h0:Nat.ble 0 j=true:=Nat.ble_eq_true_of_le (Nat.zero_le _)
  simp only[storeA,hg',List.length_singleton,h1,h0,hvone,Bool.and_self,putAt_one hj]
  rfl
 have hd32:¬d2=d3:=fun e=>by subst e;simp at h32
 refine WO.op0 undef ((inC (inC H2)).set gp (.row (cells.set j v') true 0)) rfl (by
  have a1:∀ tt:Trie Value,ev (tt.set d3 (.pointer (some ⟨gp,j,none⟩))) (.tmp d3)= .pointer (some ⟨gp,j,none⟩):=fun tt=>by
   simp only[ev,tmGet_set,if_true]
  have a2:∀ w,ev (((t.set d1 (.slice (some ⟨hS.n,0,none⟩) 1 c)).set d2 w).set d3 (.pointer (some ⟨gp,j,none⟩))) (.tmp d2)=w:=fun w=>by
   simp only[ev,tmGet_set,if_neg hd32,if_true]
  simp only[val,aop,a1,a2,hvcells,List.size_toArray,List.length_singleton,Nat.beq_refl,hst,Option.map_some,cond_true]) ?_
 refine WO.nil ⟨⟨fun c' hc'=> ?_,Nat.le_refl _,.inl rfl⟩,?_⟩
 ·have hc2:c'∈(inC (inC H2)).log gp:=hc'
  rcases log_mem hc2 with rfl|h
  ·omega
  ·cases h
 generalize hH:outC hS ((inC (inC H2)).set gp (.row (cells.set j v') true 0))=H
 have nH:H.n=X.n+1:=by rw[←hH];show H2.n=_;rw[q3];show H1.n+1=_;omega
 have getH:∀ c',H.get c'=if c'=gp then some (.row (cells.set j v') true 0) else H2.get c':=fun c'=>by rw[←hH];exact trie_get_set _ _ _ _
 have keepH:∀ c',c'<hS.n→c'≠gp→(∀ n k,v≠ .slice (some ⟨c',0,none⟩) n k)→H.get c'=hS.get c':=fun c' h1 h2 h3=>by
  rw[getH,if_neg h2,q4 c' (by show c'<H1.n;omega) h3]
  show H1.get c'=_
  rw[get1,if_neg (by omega),getX c' h1]
 have hvB:∀ k,k<hB.n→∀ n k',v≠ .slice (some ⟨k,0,none⟩) n k':=fun k hk n k' e=>by
  rcases o with ⟨e2,_⟩|⟨g,_,_,g1,_,e2,_⟩
  ·rw[e2]at e;cases e
  ·rw[e2]at e;cases e;omega
 have oneH:oneCells (cells.set j v')=true:=by
  unfold oneCells at *
  rw[List.all_eq_true]at *
  intro z hz
  rcases List.mem_or_eq_of_mem_set hz with h|h
  ·exact hcl z h
  ·subst h;rw[q9]
 show K .normal _ _
 rw[hH]
 refine k H v' _ (fun i hi=> ?_) ?_ ⟨gp,gp1,by rw[nH];omega,hp,by rw[getH,if_pos rfl]⟩ oneH (q2.upd (fun k hk1 hk2=>by rw[getH,if_neg (by omega)]) (by rw[nH,q3];show H1.n+1≤_;omega)) (fun c' h1 h2 h3=>keepH c' h1 (fun e=>h2 (by rw[hp,e])) h3) (by rw[nH];omega)
 ·have hc:=notIn_contains hi
  rw[List.contains_eq_mem,decide_eq_false_iff_not]at hc
  have b1:¬i=d1:=fun e=>hc (by simp[e])
  have b2:¬i=d2:=fun e=>hc (by simp[e])
  have b3:¬i=d3:=fun e=>hc (by simp[e])
  simp only[val,tmGet_set,if_neg b1,if_neg b2,if_neg b3]
 ·have hn0:=e0.n
  refine⟨by rw[nH];omega,fun k hk=>(keepH k (by omega) (by omega) (hvB k hk)).trans (e0.get k hk),fun w k hk=> ?_,?_,fun hmk=> ?_⟩
  ·rw[nH]at hk
   rw[getH,if_neg (by omega)]
   refine q8 (fun k2 hk2=> ?_) k (by rw[q3];show H1.n+1≤k;omega)
   have hk2:H1.n≤k2:=hk2
   show H1.get k2=_
   rw[get1,if_neg (by omega)]
   exact eX.wf (fun k3 hk3=>e0.wf w k3 (by have:hS.n+1≤k3:=hk3;omega)) k2 (by omega)
  ·rw[←hH];exact e0.mark
  ·rw[←hH];exact e0.wr hmk
end
end Go.Am
namespace Go.Am
section
variable {P:Program} {tab:Tab} {m:Nat} {Bad:Nat→Prop} {l:List (AOper×List Nat)} {o:AOper} {un:List Nat} {g:Nat} {fr:AFr} {h h0 h':AHeap} {Q:AFr→AHeap→Prop} {K:AExit→AFr→AHeap→Prop} {t:Trie Value} {ds:List Deferred} {rd:Option Nat}
theorem slc_piece {c i n:Nat} {h:AHeap} {v:Value} {cells:List Value} (a:SlC c h v n cells) (hi:i<n):Piece h v (i * c) ((cells.drop (i * c)).take c):=by
 have hlen:cells.length=n * c:=a.1
 have hle:i * c+c≤cells.length:=by
  rw[hlen,←Nat.succ_mul];exact Nat.mul_le_mul_right _ hi
 intro P ih t x agg k off r hx hn hr
 cases hc:cut ((cells.drop (i * c)).take c) off k with
 |none=>rw[hc]at hr;cases hr
 |some m=>
  rw[hc]at hr
  have h1:cut cells (i * c) c=Option.some ((cells.drop (i * c)).take c):=cut_ok hle
  exact aop_load a hx (load_cut h1 hc) hn hr
theorem slr_atX {α:Type} [Inhabited α] {c:Nat} {R:AHeap→List Value→α→Prop} {h:AHeap} {v:Value} {T:List α} {i:Nat} (s:SlR c R h v T) (hi:i<T.length):∃ cs,R h cs (T.getD i default)∧(∀ h',Ext h h'→Piece h' v (i * c) cs∧Piece (inC h') v (i * c) cs)∧IsSl v:=by
 have hs:=s.some hi
 obtain⟨cells,a,b⟩:=s
 refine⟨_,by simpa [List.getD,List.getElem?_eq_getElem hi]using b i T[i] (List.getElem?_eq_getElem hi),fun h' e=> ?_,hs⟩
 have a':=a.ext e
 exact⟨slc_piece a' hi,slc_piece (h:=inC h') a' hi⟩
def RBo (_:AHeap) (cs:List Value) (b:Bool):Prop:=cs=[.bool b]
abbrev SlBo (h:AHeap) (v:Value) (l:List Bool):Prop:=SlR 1 RBo h v l
def OwnBo (h0 h:AHeap) (v:Value) (l:List Bool):Prop:=∃ g,h0.n≤g∧g<h.n∧v= .slice (some ⟨g,0,none⟩) l.length 1∧h.get g=some (.row (l.map .bool) true 0)
theorem OwnBo.ext {h0 h h' v l} (o:OwnBo h0 h v l) (e:Ext h h'):OwnBo h0 h' v l:=by
 obtain⟨g,a,b,c,d⟩:=o;exact⟨g,a,Nat.lt_of_lt_of_le b e.n,c,(e.get g b).trans d⟩
theorem OwnBo.since {h0 h1 h v l} (o:OwnBo h1 h v l) (e:Ext h0 h1):OwnBo h0 h v l:=by
 obtain⟨g,a,b⟩:=o;exact⟨g,Nat.le_trans e.n a,b⟩
theorem OwnBo.sl {h0 h v l} (o:OwnBo h0 h v l):SlBo h v l:=by
 obtain⟨g,a,b,rfl,d⟩:=o
 refine⟨l.map .bool,SlC.own (own:=true) (lo:=0) b d (by simp),fun i x hx=> ?_⟩
 obtain⟨hi,e⟩:=List.getElem?_eq_some_iff.1 hx
 show ((l.map Value.bool).drop (i * 1)).take 1=_
 rw[Nat.mul_one,List.drop_eq_getElem_cons (by simpa using hi)]
 simp[e]
end
end Go.Am
namespace Go.Am
section
variable {P:Program} {tab:Tab} {t:Trie Value} {h:AHeap} {ds:List Deferred} {rd:Option Nat} {l:List AOper} {Q:AFr→AHeap→Prop}
end
section
variable {P:Program} {tab:Tab} {m N0:Nat} {l:List (AOper×List Nat)} {o:AOper} {g:Nat} {cl:Bool} {fr:AFr} {h h0 h':AHeap} {Q:AFr→AHeap→Prop} {K:AExit→AFr→AHeap→Prop} {x:AOper×List Nat} {t:Trie Value}
theorem uK2_w (hw:∀ k∈h'.wr,m≤k) (hn:h.n≤h'.n) (hx:K .normal fr (outC h0 h')):uK2 P tab m N0 [] t o (inC h) [] g cl (regQ K h0) fr h':=⟨⟨hw,hn,.inl rfl⟩,hx⟩
theorem uK2_wl (hw:∀ k∈h'.wr,m≤k) (hn:h.n≤h'.n) (hx:∀ cl',WU2 P tab m N0 (x::l) g cl' fr (inC h') Q):uK2 P tab m N0 [] t o (inC h) (x::l) g cl Q fr h':=⟨⟨hw,hn,.inl rfl⟩,by
 have:=hx (cl&&h'.wr.isEmpty)
 obtain⟨y,un⟩:=x
 unfold WU2 at this ⊢
 exact this⟩
end
section
variable {α:Type} {c b:Nat} {R:AHeap→List Value→α→Prop}
theorem one_all {cells:List Value} {n:Nat} (hc:0<c) (hl:cells.length=n * c) (h:∀ i,i<n→oneCells ((cells.drop (i * c)).take c)=true):oneCells cells=true:=by
 unfold oneCells at *
 rw[List.all_eq_true]
 intro x hx
 obtain⟨j,hj,rfl⟩:=List.getElem_of_mem hx
 have hi:j / c<n:=by rw[Nat.div_lt_iff_lt_mul hc];omega
 have h1:=List.all_eq_true.1 (h (j / c) hi)
 refine h1 _ ?_
 have hd:j / c * c+j % c=j:=by rw[Nat.mul_comm];exact Nat.div_add_mod ..
 have hm:j % c<c:=Nat.mod_lt _ hc
 rw[List.mem_iff_getElem]
 refine⟨j % c,by rw[List.length_take,List.length_drop];omega,?_⟩
 rw[List.getElem_take,List.getElem_drop]
 congr 1
variable {P:Program} {tab:Tab} {t:Trie Value} {h:AHeap} {ds:List Deferred} {rd:Option Nat} {l:List AOper} {Q:AFr→AHeap→Prop}
theorem WO.bl0 {d:Nat} {zero:List Value} (R:AHeap→List Value→α→Prop) (k:∀ v h',Ext h h'→OwnR c R h.n h' v []→WO P tab l ⟨t.set d v,ds,rd⟩ h' Q):WO P tab (⟨some d,none,.buildSlice 0 c zero []⟩::l) ⟨t,ds,rd⟩ h Q:=by
 refine WO.op (.slice (some ⟨h.n,0,none⟩) 0 c) (h.push (.row [] true 0)) rfl rfl (k _ _ (ext_push _ _) (.inr ⟨h.n,[],fun _=>False,Nat.le_refl _,Nat.lt_succ_self _,rfl,get_push_self _ _,by simp,fun h=>h,fun k hk=>hk.elim,fun i a ha=>by simp at ha⟩))
theorem WO.apAll {d:Nat} {hB:AHeap} {x y:Operand} {v w:Value} {ys:List α} (o:OwnR c R b h v ([]:List α)) (s:SlR c R h w ys) (hc:0<c) (hind:∀ cs a,R h cs a→Dep R h cs a (fun _=>False)) (hone:∀ cs a,R h cs a→oneCells cs=true)
  (e0:Ext hB h) (hb:hB.n≤b) (hbn:b≤h.n) (hl:ys.length≤100000) (k:∀ v' h',Ext hB h'→OwnR c R b h' v' ys→WO P tab l ⟨t.set d v',ds,rd⟩ h' Q) (hx:Ope t x v:=by exact ope_) (hy:Ope t y w:=by exact ope_):
  WO P tab (⟨some d,none,.append c x y⟩::l) ⟨t,ds,rd⟩ h Q:=by
 have hx:ev t x=v:=hx
 have hy:ev t y=w:=hy
 have hroom:room=4294967296:=rfl
 obtain⟨cells,⟨hlen,hcase⟩,hR⟩:=s
 have hpc:∀ i,i<ys.length→∃ a,ys[i]?=some a∧R h ((cells.drop (i * c)).take c) a:=fun i hi=>⟨ys[i],List.getElem?_eq_getElem hi,hR i _ (List.getElem?_eq_getElem hi)⟩
 by_cases hy0:ys.length=0
 ·have hsrc:srcCells c h w=some []:=by
   rcases hcase with ⟨_,rfl|⟨a,k',rfl⟩⟩|⟨g,off,row,rfl,_⟩
   ·rfl
   ·rfl
   ·rw[hy0];rfl
  have hys:ys=[]:=List.eq_nil_of_length_eq_zero hy0
  subst hys
  have hv:∃ a n k,v= .slice a n k∧(a=none→n=0∧k=0):=by
   rcases o with ⟨rfl,_⟩|⟨g,_,_,_,_,rfl,_⟩
   ·exact⟨_,_,_,rfl,fun _=>⟨rfl,rfl⟩⟩
   ·exact⟨_,_,_,rfl,fun h=>by cases h⟩
  refine WO.op v h rfl ?_ (k v h e0 o)
  obtain⟨a,n,kk,rfl,ha⟩:=hv
  cases a with
  |none=>obtain⟨rfl,rfl⟩:=ha rfl;simp only[aop,hx,hy,appendA,hsrc]
  |some a=>simp only[aop,hx,hy,appendA,hsrc]
 ·obtain⟨g,off,row,rfl,hrow,hcut,hg⟩:=hcase.resolve_left (fun h=>hy0 h.1)
  have hbe:Nat.beq ys.length 0=false:=by cases hb:Nat.beq ys.length 0 with
   |false=>rfl
   |true=>exact absurd (Nat.eq_of_beq_eq_true hb) hy0
  have hsrc:srcCells c h (.slice (some ⟨g,off,none⟩) ys.length c)=some cells:=by
   simp only[srcCells,hbe,Nat.beq_refl,Option.isNone_none,Bool.and_self,cond_true,cond_false,hrow,hcut]
  have h1:oneCells cells=true:=one_all hc hlen fun i hi=>by
   obtain⟨a,_,r⟩:=hpc i hi;exact hone _ _ r
  obtain⟨z,zs,hz⟩:∃ z zs,cells=z::zs:=by
   cases hcl:cells with
   |nil=>exfalso;rw[hcl,List.length_nil]at hlen;have:0<ys.length * c:=Nat.mul_pos (by omega) hc;omega
   |cons z zs=>exact⟨z,zs,rfl⟩
  have hdiv:(z::zs).length / c=ys.length:=by rw[←hz,hlen];exact Nat.mul_div_cancel _ hc
  rw[hz]at hsrc h1
  have hcc:Nat.beq c 0=false:=by cases hz:Nat.beq c 0 with
   |false=>rfl
   |true=>have:=Nat.eq_of_beq_eq_true hz;omega
  have fin:∀ H:AHeap,h.n<H.n→H.get h.n=some (.row (z::zs) true 0)→OwnR c R b H (.slice (some ⟨h.n,0,none⟩) ys.length c) ys:=fun H hn hget=>
   .inr ⟨h.n,z::zs,fun _=>False,hbn,hn,rfl,hget,by rw[←hz];exact hlen,fun h=>h,fun k hk=>hk.elim,fun i a ha=>by
    rw[←hz]
    exact(hind _ _ (hR i a ha)).mono (fun _ h=>h) (fun _ _ h=>h.elim) (by omega)⟩
  rcases o with ⟨rfl,_⟩|⟨g0,cells0,D,g1,g2,rfl,g4,g5,_⟩
  ·have hb1:Nat.ble ys.length room=true:=Nat.ble_eq_true_of_le (by omega)
   refine WO.op (.slice (some ⟨h.n,0,none⟩) ys.length c) (h.push (.row (z::zs) true 0)) rfl ?_ (k _ _ (e0.push _) (fin _ (Nat.lt_succ_self _) (get_push_self _ _)))
   simp only[aop,hx,hy,appendA,hsrc,h1,Bool.not_true,cond_false,hdiv,hb1,cond_true];rfl
  ·have hc0:cells0=[]:=List.eq_nil_of_length_eq_zero (by rw[g5,List.length_nil,Nat.zero_mul])
   subst hc0
   have hb1:Nat.ble (0+ys.length) room=true:=Nat.ble_eq_true_of_le (by omega)
   have h2:cut [] 0 (0 * c)=some ([]:List Value):=by rw[Nat.zero_mul];rfl
   have h3:Nat.ble 0 (0+0 * c)=true:=Nat.ble_eq_true_of_le (Nat.zero_le _)
   refine WO.op (.slice (some ⟨h.n,0,none⟩) (0+ys.length) c) ((h.kill g0).push (.row ([]++z::zs) true (0 - 0))) rfl ?_ (k _ _ ((e0.kill (Nat.le_trans hb g1)).push _) ?_)
   ·simp only[aop,hx,hy,appendA,hsrc,h1,Bool.not_true,cond_false,hdiv,List.length_nil,hb1,hcc,Nat.beq_refl,g4,h2,h3,cond_true,Option.isNone_none,Bool.and_self]
   ·rw[Nat.zero_add]
    exact fin _ (Nat.lt_succ_self _) (get_push_self (h.kill g0) _)
end
end Go.Am
namespace Go.Am
theorem putAt_getL {l cs:List Value} {k:Nat} (h:k+cs.length≤l.length) (m:Nat):(putAt l k cs)[m]?=if m<k then l[m]? else if m<k+cs.length then cs[m - k]? else l[m]?:=by
 unfold putAt
 by_cases h1:m<k
 ·rw[if_pos h1,List.append_assoc,List.getElem?_append_left (by rw[List.length_take];omega),List.getElem?_take,if_pos h1]
 ·rw[if_neg h1,List.append_assoc,List.getElem?_append_right (by rw[List.length_take];omega),List.length_take,Nat.min_eq_left (by omega)]
  by_cases h2:m<k+cs.length
  ·rw[if_pos h2,List.getElem?_append_left (by omega)]
  ·rw[if_neg h2,List.getElem?_append_right (by omega),List.getElem?_drop]
   congr 1;omega
theorem putAt_len {l cs:List Value} {k:Nat} (h:k+cs.length≤l.length):(putAt l k cs).length=l.length:=by
 unfold putAt;simp only[List.length_append,List.length_take,List.length_drop];omega
theorem piece_get {l:List Value} {a c m:Nat}:((l.drop a).take c)[m]?=if m<c then l[a+m]? else none:=by
 rw[List.getElem?_take]
 split
 ·rw[List.getElem?_drop]
 ·rfl
theorem putAt_piece {cells cs:List Value} {n c i j off:Nat} (hl:cells.length=n * c) (hi:i<n) (hj:j<n) (ho:off+cs.length≤c):
  ((putAt cells (i * c+off) cs).drop (j * c)).take c=if j=i then putAt ((cells.drop (i * c)).take c) off cs else (cells.drop (j * c)).take c:=by
 have hic:i * c+c≤n * c:=by rw[←Nat.succ_mul];exact Nat.mul_le_mul_right _ hi
 have hjc:j * c+c≤n * c:=by rw[←Nat.succ_mul];exact Nat.mul_le_mul_right _ hj
 refine List.ext_getElem? fun m=> ?_
 rw[piece_get,putAt_getL (by omega)]
 by_cases e:j=i
 ·subst e
  rw[if_pos rfl,putAt_getL (by rw[List.length_take,List.length_drop];omega),piece_get]
  by_cases h1:m<c
  ·rw[if_pos h1,if_pos h1]
   by_cases h2:m<off
   ·rw[if_pos (show j * c+m<j * c+off by omega),if_pos h2]
   ·rw[if_neg (show ¬j * c+m<j * c+off by omega),if_neg h2]
    by_cases h3:m<off+cs.length
    ·rw[if_pos (show j * c+m<j * c+off+cs.length by omega),if_pos h3];congr 1;omega
    ·rw[if_neg (show ¬j * c+m<j * c+off+cs.length by omega),if_neg h3]
  ·rw[if_neg h1,if_neg h1,if_neg (by omega),if_neg (by omega)]
 ·rw[if_neg e,piece_get]
  by_cases h1:m<c
  ·rw[if_pos h1,if_pos h1]
   rcases Nat.lt_or_gt_of_ne e with h|h
   ·have:j * c+c≤i * c:=by rw[←Nat.succ_mul];exact Nat.mul_le_mul_right _ h
    rw[if_pos (show j * c+m<i * c+off by omega)]
   ·have:i * c+c≤j * c:=by rw[←Nat.succ_mul];exact Nat.mul_le_mul_right _ h
    rw[if_neg (show ¬j * c+m<i * c+off by omega),if_neg (show ¬j * c+m<i * c+off+cs.length by omega)]
  ·rw[if_neg h1,if_neg h1]
section
variable {α:Type} [Inhabited α] {c b:Nat} {R:AHeap→List Value→α→Prop} {h:AHeap} {v:Value} {xs:List α}
theorem own_row {i off:Nat} {cs:List Value} {a:α} (o:OwnR c R b h v xs) (hi:i<xs.length) (ho:off+cs.length≤c) (hR:∀ old hx,R h old (xs.getD i default)→old.length=c→R hx (putAt old off cs) a):
  ∃ g row,b≤g∧g<h.n∧v= .slice (some ⟨g,0,none⟩) xs.length c∧h.get g=some (.row row true 0)∧i * c+off+cs.length≤row.length∧∀ H:AHeap,h.n≤H.n→H.get g=some (.row (putAt row (i * c+off) cs) true 0)→(∀ k,k<h.n→k≠g→H.get k=h.get k)→OwnR c R b H v (xs.set i a):=by
 rcases o with ⟨_,rfl⟩|⟨g,cells,D,g1,g2,rfl,g4,g5,g6,g7,g8⟩
 ·simp at hi
 have hic:i * c+c≤xs.length * c:=by rw[←Nat.succ_mul];exact Nat.mul_le_mul_right _ hi
 refine⟨g,cells,g1,g2,rfl,g4,by omega,fun H hn hg hk=> ?_⟩
 refine .inr ⟨g,_,D,g1,Nat.lt_of_lt_of_le g2 hn,by rw[List.length_set],hg,by rw[putAt_len (by omega),List.length_set];exact g5,g6,fun k hd=>⟨(g7 k hd).1,Nat.lt_of_lt_of_le (g7 k hd).2 hn⟩,fun j x hx=> ?_⟩
 have hj:j<xs.length:=by have:=(List.getElem?_eq_some_iff.1 hx).1;rwa [List.length_set]at this
 have hkk:∀ k o,D k→h.get k=some o→H.get k=some o:=fun k o hd e=>(hk k (g7 k hd).2 (fun e2=>g6 (e2▸hd))).trans e
 rw[putAt_piece g5 hi hj ho]
 by_cases e:j=i
 ·subst e
  rw[if_pos rfl]
  rw[List.getElem?_set_self hi]at hx
  cases hx
  intro hx2 _ _
  refine hR _ _ (?_:R h _ _) ?_
  ·have:=(g8 j xs[j] (List.getElem?_eq_getElem hi)).self
   rw[List.getD_eq_getElem?_getD,List.getElem?_eq_getElem hi];exact this
  ·rw[List.length_take,List.length_drop];omega
 ·rw[if_neg e]
  rw[List.getElem?_set_ne (fun h=>e h.symm)]at hx
  exact(g8 j x hx).mono (fun _ h=>h) hkk hn
theorem own_stR {i off:Nat} {cs:List Value} {a:α} (o:OwnR c R b h v xs) (hi:i<xs.length) (ho:off+cs.length≤c) (h1:oneCells cs=true) (hR:∀ old hx,R h old (xs.getD i default)→old.length=c→R hx (putAt old off cs) a):
  ∃ g row,b≤g∧g<h.n∧v= .slice (some ⟨g,0,none⟩) xs.length c∧storeA h ⟨g,i * c+off,none⟩ cs=some (h.set g (.row row true 0))∧∀ H:AHeap,h.n≤H.n→H.get g=some (.row row true 0)→(∀ k,k<h.n→k≠g→H.get k=h.get k)→OwnR c R b H v (xs.set i a):=by
 obtain⟨g,row,g1,g2,g3,g4,g5,g6⟩:=own_row o hi ho hR
 refine⟨g,_,g1,g2,g3,?_,g6⟩
 have h2:Nat.ble (i * c+off+cs.length) row.length=true:=Nat.ble_eq_true_of_le g5
 have h3:Nat.ble 0 (i * c+off)=true:=Nat.ble_eq_true_of_le (Nat.zero_le _)
 simp only[storeA,g4,h2,h3,h1,Option.isNone_none,Bool.and_self,cond_true]
variable {P:Program} {tab:Tab} {t:Trie Value} {ds:List Deferred} {rd:Option Nat} {l:List AOper} {Q:AFr→AHeap→Prop}
theorem WO.stR {hB:AHeap} {i off n:Nat} {cs:List Value} {x y:Operand} {u:Value} (a:α) (o:OwnR c R b h v xs) (e0:Ext hB h) (hb:hB.n≤b) (hi:i<xs.length) (hR:∀ old hx,R h old (xs.getD i default)→old.length=c→R hx (putAt old off cs) a)
  (k:∀ h',Ext hB h'→OwnR c R b h' v (xs.set i a)→h'.n=h.n→(∀ k,k<h.n→(∀ n k',v≠ .slice (some ⟨k,0,none⟩) n k')→h'.get k=h.get k)→(∀ k∈h'.wr,k∈h.wr∨b≤k)→WO P tab l ⟨t,ds,rd⟩ h' Q)
  (hx:Ope t x (elemP v (i * c+off)):=by exact ope_) (hy:Ope t y u:=by exact ope_) (hu:u.cells=cs.toArray:=by rfl) (hn:cs.length=n:=by rfl) (ho:off+cs.length≤c:=by decide) (h1:oneCells cs=true:=by rfl):
  WO P tab (⟨none,none,.store n x y⟩::l) ⟨t,ds,rd⟩ h Q:=by
 obtain⟨g,row,g1,g2,rfl,hst,hown⟩:=own_stR o hi ho h1 hR
 have hx:ev t x= .pointer (some ⟨g,0+(i * c+off),none⟩):=hx
 rw[Nat.zero_add]at hx
 have hy:ev t y=u:=hy
 have hnn:Nat.beq cs.length n=true:=by rw[hn];exact Nat.beq_refl _
 refine WO.op0 undef (h.set g (.row row true 0)) rfl ?_ (k _ (e0.set (Nat.le_trans hb g1) g2 _) (hown _ (Nat.le_refl _) (by rw[get_set,if_pos rfl]) (fun k _ hk=>by rw[get_set,if_neg hk])) rfl (fun k hk hv=> ?_) fun k hk=> ?_)
 ·simp only[aop,hx,hy,hu,List.size_toArray,hnn,hst,Option.map_some,cond_true]
 ·rw[get_set,if_neg (fun e=>hv _ _ (by rw[e]))]
 ·have hk:k∈h.log g:=hk
  rcases log_mem hk with rfl|h
  ·exact .inr g1
  ·exact .inl h
theorem WU2.stR {hB hS X:AHeap} {N0 m g:Nat} {cl:Bool} {i off n:Nat} {cs:List Value} {x y:Operand} {u:Value} {K:AExit→AFr→AHeap→Prop} (a:α) (o:OwnR c R b X v xs) (e0:Ext hB hS) (hm:hS.mark≤hB.n) (hX:outC hS X=hS) (hb:hB.n≤b) (hi:i<xs.length) (hR:∀ old hx,R X old (xs.getD i default)→old.length=c→R hx (putAt old off cs) a)
  (k:∀ h',Ext hB h'→OwnR c R b h' v (xs.set i a)→h'.n=hS.n→(∀ k,k<hS.n→(∀ n k',v≠ .slice (some ⟨k,0,none⟩) n k')→h'.get k=hS.get k)→K .normal ⟨t,ds,rd⟩ h')
  (hx:Ope t x (elemP v (i * c+off)):=by exact ope_) (hy:Ope t y u:=by exact ope_) (hu:u.cells=cs.toArray:=by rfl) (hn:cs.length=n:=by rfl) (ho:off+cs.length≤c:=by decide) (h1:oneCells cs=true:=by rfl) (hm0:m=hS.mark:=by rfl):
  WU2 P tab m N0 [(⟨none,none,.store n x y⟩,[])] g cl ⟨t,ds,rd⟩ (inC X) (regQ K hS):=by
 subst hm0
 obtain⟨q,row,q1,q2,rfl,hst,hown⟩:=own_stR o hi ho h1 hR
 have hx:ev t x= .pointer (some ⟨q,0+(i * c+off),none⟩):=hx
 rw[Nat.zero_add]at hx
 have hy:ev t y=u:=hy
 have hnn:Nat.beq cs.length n=true:=by rw[hn];exact Nat.beq_refl _
 have gX:∀ c,X.get c=hS.get c:=fun c=>by have:=congrArg (fun h:AHeap=>h.get c) hX;exact this
 have nX:X.n=hS.n:=by have:=congrArg AHeap.n hX;exact this
 rw[WU2,if_neg (show ¬Nat.beq (kindA (AOp.store n x y)) 3=true from Bool.noConfusion)]
 have hst':storeA (inC (inC X)) ⟨q,i * c+off,none⟩ cs=some ((inC (inC X)).set q (.row row true 0)):=by
  have e1:(inC (inC X)).get q=X.get q:=rfl
  unfold storeA at hst ⊢
  rw[e1]
  cases hq:X.get q with
  |none=>rw[hq]at hst;cases hst
  |some o=>
   rw[hq]at hst
   cases o with
   |row cells own lo=>
    cases own with
    |false=>cases hst
    |true=>
     simp only at hst ⊢
     cases hbb:(Nat.ble (i * c+off+cs.length) cells.length&&Nat.ble lo (i * c+off)&&Option.isNone (none:Option _)&&oneCells cs)with
     |false=>rw[hbb]at hst;cases hst
     |true=>
      rw[hbb]at hst
      simp only[cond_true,Option.some.injEq]at hst ⊢
      have:=congrArg (fun H:AHeap=>H.get q) hst
      simp only[get_set,if_true,Option.some.injEq]at this
      rw[this]
   |_=>cases hst
 refine WO.op0 undef ((inC (inC X)).set q (.row row true 0)) rfl (by
  simp only[aop,hx,hy,hu,List.size_toArray,hnn,hst',Option.map_some,cond_true]) ?_
 refine WO.nil ⟨⟨fun k hk=> ?_,Nat.le_refl _,.inl rfl⟩,?_⟩
 ·have hk2:k∈(inC (inC X)).log q:=hk
  rcases log_mem hk2 with rfl|hk3
  ·omega
  ·cases hk3
 have get2:∀ k,(outC hS ((inC (inC X)).set q (.row row true 0))).get k=if k=q then some (.row row true 0) else hS.get k:=fun k=>by
  have e1:((inC (inC X)).set q (.row row true 0)).get k=if k=q then some (.row row true 0) else (inC (inC X)).get k:=get_set ..
  refine e1.trans ?_
  split
  ·rfl
  ·exact gX k
 refine k (outC hS ((inC (inC X)).set q (.row row true 0))) ?_ (hown _ (Nat.le_refl _) (by rw[get2,if_pos rfl]) (fun k _ hk=>by rw[get2,if_neg hk,gX])) nX (fun c hc hv=>by rw[get2,if_neg (fun e=>hv _ _ (by rw[e]))])
 refine⟨by show hB.n≤X.n;rw[nX];exact e0.n,fun c hc=>by rw[get2,if_neg (by omega)];exact e0.get c hc,fun w c hc=> ?_,e0.mark,fun hmk=>e0.wr hmk⟩
 have hc:X.n≤c:=hc
 rw[get2,if_neg (by omega)];exact e0.wf w c (by omega)
end
section
variable {P:Program} {tab:Tab} {t:Trie Value} {h:AHeap} {ds:List Deferred} {rd:Option Nat} {l:List AOper} {Q:AFr→AHeap→Prop}
theorem WU2.stC {hB hS X:AHeap} {N0 m g:Nat} {cl:Bool} {j n:Nat} {cells cs:List Value} {p u:Value} {x y:Operand} {K:AExit→AFr→AHeap→Prop} (o:OwnC hB X p cells) (e0:Ext hB hS) (hm:hS.mark≤hB.n) (hX:outC hS X=hS)
  (k:∀ h',Ext hB h'→OwnC hB h' p (putAt cells j cs)→UpdC p hS h'→K .normal ⟨t,ds,rd⟩ h') (hl:j+cs.length≤cells.length)
  (hx:Ope t x (ptrAt p j):=by exact ope_) (hy:Ope t y u:=by exact ope_) (hu:u.cells=cs.toArray:=by rfl) (hn:cs.length=n:=by rfl) (h1:oneCells cs=true:=by rfl) (hm0:m=hS.mark:=by rfl):
  WU2 P tab m N0 [(⟨none,none,.store n x y⟩,[])] g cl ⟨t,ds,rd⟩ (inC X) (regQ K hS):=by
 subst hm0
 obtain⟨q,q1,q2,rfl,q4⟩:=o
 have hx:ev t x= .pointer (some ⟨q,0+j,none⟩):=hx
 rw[Nat.zero_add]at hx
 have hy:ev t y=u:=hy
 have hnn:Nat.beq cs.length n=true:=by rw[hn];exact Nat.beq_refl _
 have gX:∀ c,X.get c=hS.get c:=fun c=>by have:=congrArg (fun h:AHeap=>h.get c) hX;exact this
 have nX:X.n=hS.n:=by have:=congrArg AHeap.n hX;exact this
 rw[WU2,if_neg (show ¬Nat.beq (kindA (AOp.store n x y)) 3=true from Bool.noConfusion)]
 have hst':storeA (inC (inC X)) ⟨q,j,none⟩ cs=some ((inC (inC X)).set q (.row (putAt cells j cs) true 0)):=by
  have e1:(inC (inC X)).get q=some (.row cells true 0):=q4
  have h2:Nat.ble (j+cs.length) cells.length=true:=Nat.ble_eq_true_of_le hl
  have h3:Nat.ble 0 j=true:=Nat.ble_eq_true_of_le (Nat.zero_le _)
  simp only[storeA,e1,h2,h3,h1,Option.isNone_none,Bool.and_self,cond_true]
 refine WO.op0 undef ((inC (inC X)).set q (.row (putAt cells j cs) true 0)) rfl (by
  simp only[aop,hx,hy,hu,List.size_toArray,hnn,hst',Option.map_some,cond_true]) ?_
 refine WO.nil ⟨⟨fun k hk=> ?_,Nat.le_refl _,.inl rfl⟩,?_⟩
 ·have hk2:k∈(inC (inC X)).log q:=hk
  rcases log_mem hk2 with rfl|hk3
  ·omega
  ·cases hk3
 have get2:∀ k,(outC hS ((inC (inC X)).set q (.row (putAt cells j cs) true 0))).get k=if k=q then some (.row (putAt cells j cs) true 0) else hS.get k:=fun k=>by
  have e1:((inC (inC X)).set q (.row (putAt cells j cs) true 0)).get k=if k=q then some (.row (putAt cells j cs) true 0) else (inC (inC X)).get k:=get_set ..
  refine e1.trans ?_
  split
  ·rfl
  ·exact gX k
 refine k (outC hS ((inC (inC X)).set q (.row (putAt cells j cs) true 0))) ?_ ⟨q,q1,q2,rfl,by rw[get2,if_pos rfl]⟩ ⟨by show hS.n≤X.n;omega,fun c hc hv=>by rw[get2,if_neg (fun e=>hv (by rw[e]))]⟩
 refine⟨by show hB.n≤X.n;rw[nX];exact e0.n,fun c hc=>by rw[get2,if_neg (by omega)];exact e0.get c hc,fun w c hc=> ?_,e0.mark,fun hmk=>e0.wr hmk⟩
 have hc:X.n≤c:=hc
 rw[get2,if_neg (by omega)];exact e0.wf w c (by omega)
end
end Go.Am
namespace Go.Am
section
variable {P:Program} {tab:Tab} {t:Trie Value} {h h0:AHeap} {ds:List Deferred} {rd:Option Nat} {l:List AOper} {Q:AFr→AHeap→Prop}
end
end Go.Am
namespace Go.Am
section
variable {P:Program} {tab:Tab} {N0 m g:Nat} {cl:Bool} {t:Trie Value} {ds:List Deferred} {rd:Option Nat} {K:AExit→AFr→AHeap→Prop}
theorem WU2.mk {h:AHeap} {d:Nat} {op:AOp} {ob:AObj} {f:Nat→Value} {l:List (AOper×List Nat)} {Q:AFr→AHeap→Prop} (hm:m≤g) (hmade:madeA t op=some (ob,f)) (hx:WU2 P tab m N0 l (g+1) false ⟨t.set d (f g),ds,rd⟩ ((inC h).lay g ob) Q) (hk:Nat.beq (kindA op) 3=true:=by rfl):
  WU2 P tab m N0 ((⟨some d,none,op⟩,[])::l) g cl ⟨t,ds,rd⟩ (inC h) Q:=by
 rw[WU2,if_pos hk]
 exact⟨rfl,rfl,hm,ob,f,hmade,hx⟩
theorem WU2.inC {h:AHeap} {fr:AFr} {x:AOper×List Nat} {l:List (AOper×List Nat)} {Q:AFr→AHeap→Prop} (hx:WU2 P tab m N0 (x::l) g cl fr (Am.inC h) Q):WU2 P tab m N0 (x::l) g cl fr h Q:=by
 obtain⟨o,un⟩:=x
 unfold WU2 at hx ⊢
 exact hx
theorem lay_get (h:AHeap) (g:Nat) (o:AObj) (j:Nat):((Am.inC h).lay g o).get j=if j=g then some o else h.get j:=trie_get_set _ _ _ _
theorem WU2.mkG {X:AHeap} {d:Nat} {op:AOp} {ob:AObj} {f:Nat→Value} {x:AOper×List Nat} {l:List (AOper×List Nat)} {Q:AFr→AHeap→Prop} (hm:m≤g) (hmade:madeA t op=some (ob,f))
  (k:∀ X',X'.n=X.n→(∀ j,X'.get j=if j=g then some ob else X.get j)→WU2 P tab m N0 (x::l) (g+1) false ⟨t.set d (f g),ds,rd⟩ (Am.inC X') Q) (hk:Nat.beq (kindA op) 3=true):WU2 P tab m N0 ((⟨some d,none,op⟩,[])::x::l) g cl ⟨t,ds,rd⟩ (Am.inC X) Q:=
 WU2.mk hm hmade (WU2.inC (k _ rfl fun j=>lay_get X g ob j)) hk
theorem WU2.mkSl {X:AHeap} {d c n:Nat} {zero:List Value} {x y:Operand} {o:AOper×List Nat} {l:List (AOper×List Nat)} {Q:AFr→AHeap→Prop} (hm:m≤g) (hr:n≤100000)
  (k:∀ X',X'.n=X.n→(∀ j,X'.get j=if j=g then some (.row (repl zero n) true 0) else X.get j)→WU2 P tab m N0 (o::l) (g+1) false ⟨t.set d (.slice (some ⟨g,0,none⟩) n c),ds,rd⟩ (Am.inC X') Q) (hx:Ope t x (I (n:Int)):=by exact ope_) (hy:Ope t y (I (n:Int)):=by exact ope_):
  WU2 P tab m N0 ((⟨some d,none,.mkSlice c zero x y⟩,[])::o::l) g cl ⟨t,ds,rd⟩ (Am.inC X) Q:=by
 have hx:ev t x=I (n:Int):=hx
 have hy:ev t y=I (n:Int):=hy
 have hn:asN (I (n:Int))=some n:=rfl
 have h1:Nat.ble n room=true:=Nat.ble_eq_true_of_le (by have:room=4294967296:=rfl;omega)
 have h2:Nat.ble n n=true:=Nat.ble_eq_true_of_le (Nat.le_refl _)
 exact WU2.mkG (f:=fun g=> .slice (some ⟨g,0,none⟩) n c) hm (by simp only[madeA,hx,hy,hn,h1,h2,Bool.and_self,cond_true]) k rfl
end
end Go.Am
namespace Go.Am
set_option linter.unusedVariables false
theorem store_row {h:AHeap} {q off:Nat} {row cs:List Value} (hq:h.get q=some (.row row true 0)) (hl:off+cs.length≤row.length) (h1:oneCells cs=true):storeA h ⟨q,off,none⟩ cs=some (h.set q (.row (putAt row off cs) true 0)):=by
 have h2:Nat.ble (off+cs.length) row.length=true:=Nat.ble_eq_true_of_le hl
 have h3:Nat.ble 0 off=true:=Nat.ble_eq_true_of_le (Nat.zero_le _)
 simp only[storeA,hq,h2,h3,h1,Option.isNone_none,Bool.and_self,cond_true]
section
variable {P:Program} {tab:Tab} {t:Trie Value} {ds:List Deferred} {rd:Option Nat}
variable {m N0 g:Nat} {cl:Bool} {K:AExit→AFr→AHeap→Prop} {hS X:AHeap} {q off n:Nat} {row cs:List Value} {x y:Operand} {u:Value}
theorem WO.st1 {h:AHeap} {Q:AFr→AHeap→Prop} {l:List AOper} (hq:h.get q=some (.row row true 0)) (hl:off+cs.length≤row.length) (hx:Ope t x (.pointer (some ⟨q,off,none⟩))) (hy:Ope t y u) (hu:u.cells=cs.toArray) (hn:cs.length=n) (h1:oneCells cs=true)
  (k:WO P tab l ⟨t,ds,rd⟩ (h.set q (.row (putAt row off cs) true 0)) Q):WO P tab (⟨none,none,.store n x y⟩::l) ⟨t,ds,rd⟩ h Q:=by
 have hx:ev t x=_:=hx
 have hy:ev t y=u:=hy
 have hnn:Nat.beq cs.length n=true:=by rw[hn];exact Nat.beq_refl _
 exact WO.op0 undef _ rfl (by simp only[aop,hx,hy,hu,List.size_toArray,hnn,store_row hq hl h1,Option.map_some,cond_true]) k
theorem log_le {h:AHeap} {q m:Nat} (hm:m≤q) (hw:h.wr=[]):∀ k∈(h.log q),m≤k:=fun k hk=>by
 rcases log_mem hk with rfl|h2
 ·exact hm
 ·rw[hw]at h2;cases h2
theorem WU2.wM {o:AOper×List Nat} {l:List (AOper×List Nat)} {Q:AFr→AHeap→Prop} (hq:X.get q=some (.row row true 0)) (hm:m≤q) (k:∀ X',X'.n=X.n→(∀ j,j≠q→X'.get j=X.get j)→X'.get q=some (.row (putAt row off cs) true 0)→(Wf X→Wf X')→∀ cl',WU2 P tab m N0 (o::l) g cl' ⟨t,ds,rd⟩ (Am.inC X') Q)
  (hl:off+cs.length≤row.length) (hx:Ope t x (.pointer (some ⟨q,off,none⟩)):=by exact ope_) (hy:Ope t y u:=by exact ope_) (hu:u.cells=cs.toArray:=by rfl) (hn:cs.length=n:=by rfl) (h1:oneCells cs=true:=by rfl):
  WU2 P tab m N0 ((⟨none,none,.store n x y⟩,[])::o::l) g cl ⟨t,ds,rd⟩ (Am.inC X) Q:=by
 refine WU2.q rfl ?_
 refine WO.st1 hq hl hx hy hu hn h1 ?_
 refine WO.nil (uK2_wl (log_le hm rfl) (Nat.le_refl _) fun cl'=>k ((Am.inC X).set q (.row (putAt row off cs) true 0)) rfl (fun j hj=> ?_) ?_ (fun w j hj=> ?_) cl')
 ·exact(get_set _ _ _ _).trans (if_neg hj)
 ·exact(get_set _ _ _ _).trans (if_pos rfl)
 ·have hj:X.n≤j:=hj
  by_cases e:j=q
  ·subst e;have:=w.lt hq;omega
  ·exact(get_set _ _ _ _).trans ((if_neg e).trans (w j hj))
theorem WU2.wF (hq:X.get q=some (.row row true 0)) (hm:m≤q) (k:∀ H,H.n=X.n→(∀ j,j≠q→H.get j=X.get j)→H.get q=some (.row (putAt row off cs) true 0)→(Wf X→Wf H)→H.mark=hS.mark→H.wr=hS.wr→K .normal ⟨t,ds,rd⟩ H)
  (hl:off+cs.length≤row.length) (hx:Ope t x (.pointer (some ⟨q,off,none⟩)):=by exact ope_) (hy:Ope t y u:=by exact ope_) (hu:u.cells=cs.toArray:=by rfl) (hn:cs.length=n:=by rfl) (h1:oneCells cs=true:=by rfl):
  WU2 P tab m N0 [(⟨none,none,.store n x y⟩,[])] g cl ⟨t,ds,rd⟩ (Am.inC X) (regQ K hS):=by
 refine WU2.q rfl ?_
 refine WO.st1 hq hl hx hy hu hn h1 ?_
 refine WO.nil (uK2_w (log_le hm rfl) (Nat.le_refl _) (k _ rfl (fun j hj=> ?_) ?_ (fun w j hj=> ?_) rfl rfl))
 ·exact(get_set _ _ _ _).trans (if_neg hj)
 ·exact(get_set _ _ _ _).trans (if_pos rfl)
 ·have hj:X.n≤j:=hj
  by_cases e:j=q
  ·subst e;have:=w.lt hq;omega
  ·exact(get_set _ _ _ _).trans ((if_neg e).trans (w j hj))
theorem WU2.wMC {o:AOper×List Nat} {l:List (AOper×List Nat)} {Q:AFr→AHeap→Prop} {hB:AHeap} {p:Value} {cells:List Value} {j:Nat} (oc:OwnC hB X p cells) (hm:m≤hB.n) (k:∀ X',X'.n=X.n→(∀ j,p≠ .pointer (some ⟨j,0,none⟩)→X'.get j=X.get j)→OwnC hB X' p (putAt cells j cs)→(Wf X→Wf X')→∀ cl',WU2 P tab m N0 (o::l) g cl' ⟨t,ds,rd⟩ (Am.inC X') Q)
  (hl:j+cs.length≤cells.length:=by decide) (hx:Ope t x (ptrAt p j):=by exact ope_) (hy:Ope t y u:=by exact ope_) (hu:u.cells=cs.toArray:=by rfl) (hn:cs.length=n:=by rfl) (h1:oneCells cs=true:=by rfl):
  WU2 P tab m N0 ((⟨none,none,.store n x y⟩,[])::o::l) g cl ⟨t,ds,rd⟩ (Am.inC X) Q:=by
 obtain⟨q,q1,q2,rfl,q3⟩:=oc
 rw[show ptrAt (.pointer (some ⟨q,0,none⟩)) j= .pointer (some ⟨q,j,none⟩) by show Value.pointer (some ⟨q,0+j,none⟩)=_;rw[Nat.zero_add]]at hx
 exact WU2.wM q3 (Nat.le_trans hm q1) (fun X' n1 k1 g1 w1=>k X' n1 (fun j hj=>k1 j fun e=>hj (by rw[e])) ⟨q,q1,n1▸q2,rfl,g1⟩ w1) hl hx hy hu hn h1
theorem WU2.wFC {hB:AHeap} {p:Value} {cells:List Value} {j:Nat} (oc:OwnC hB X p cells) (hm:m≤hB.n) (k:∀ H,H.n=X.n→(∀ j,p≠ .pointer (some ⟨j,0,none⟩)→H.get j=X.get j)→OwnC hB H p (putAt cells j cs)→(Wf X→Wf H)→H.mark=hS.mark→H.wr=hS.wr→K .normal ⟨t,ds,rd⟩ H)
  (hl:j+cs.length≤cells.length:=by decide) (hx:Ope t x (ptrAt p j):=by exact ope_) (hy:Ope t y u:=by exact ope_) (hu:u.cells=cs.toArray:=by rfl) (hn:cs.length=n:=by rfl) (h1:oneCells cs=true:=by rfl):
  WU2 P tab m N0 [(⟨none,none,.store n x y⟩,[])] g cl ⟨t,ds,rd⟩ (Am.inC X) (regQ K hS):=by
 obtain⟨q,q1,q2,rfl,q3⟩:=oc
 rw[show ptrAt (.pointer (some ⟨q,0,none⟩)) j= .pointer (some ⟨q,j,none⟩) by show Value.pointer (some ⟨q,0+j,none⟩)=_;rw[Nat.zero_add]]at hx
 exact WU2.wF q3 (Nat.le_trans hm q1) (fun X' n1 k1 g1 w1=>k X' n1 (fun j hj=>k1 j fun e=>hj (by rw[e])) ⟨q,q1,n1▸q2,rfl,g1⟩ w1) hl hx hy hu hn h1
section
variable {α:Type} [Inhabited α] {R:AHeap→List Value→α→Prop} {c b i:Nat} {v:Value} {xs:List α} {a:α}
theorem WU2.wMR {o:AOper×List Nat} {l:List (AOper×List Nat)} {Q:AFr→AHeap→Prop} (a:α) (oc:OwnR c R b X v xs) (hm:m≤b) (hi:i<xs.length) (hR:∀ old hx,R X old (xs.getD i default)→old.length=c→R hx (putAt old off cs) a) (k:∀ X',X'.n=X.n→(∀ j,j<X.n→(∀ n k',v≠ .slice (some ⟨j,0,none⟩) n k')→X'.get j=X.get j)→OwnR c R b X' v (xs.set i a)→(Wf X→Wf X')→∀ cl',WU2 P tab m N0 (o::l) g cl' ⟨t,ds,rd⟩ (Am.inC X') Q)
  (ho:off+cs.length≤c:=by decide) (hx:Ope t x (elemP v (i * c+off)):=by exact ope_) (hy:Ope t y u:=by exact ope_) (hu:u.cells=cs.toArray:=by rfl) (hn:cs.length=n:=by rfl) (h1:oneCells cs=true:=by rfl):
  WU2 P tab m N0 ((⟨none,none,.store n x y⟩,[])::o::l) g cl ⟨t,ds,rd⟩ (Am.inC X) Q:=by
 obtain⟨q,row,q1,q2,rfl,q4,q5,q6⟩:=own_row oc hi ho hR
 rw[show elemP (.slice (some ⟨q,0,none⟩) xs.length c) (i * c+off)= .pointer (some ⟨q,i * c+off,none⟩) by show Value.pointer (some ⟨q,0+(i * c+off),none⟩)=_;rw[Nat.zero_add]]at hx
 exact WU2.wM q4 (Nat.le_trans hm q1) (fun X' n1 k1 g1 w1=>k X' n1 (fun j hj hv=>k1 j fun e=>hv _ _ (by subst e;rfl)) (q6 X' (Nat.le_of_eq n1.symm) g1 fun j _ hj=>k1 j hj) w1) q5 hx hy hu hn h1
theorem WU2.wFR (a:α) (oc:OwnR c R b X v xs) (hm:m≤b) (hi:i<xs.length) (hR:∀ old hx,R X old (xs.getD i default)→old.length=c→R hx (putAt old off cs) a) (k:∀ H,H.n=X.n→(∀ j,j<X.n→(∀ n k',v≠ .slice (some ⟨j,0,none⟩) n k')→H.get j=X.get j)→OwnR c R b H v (xs.set i a)→(Wf X→Wf H)→H.mark=hS.mark→H.wr=hS.wr→K .normal ⟨t,ds,rd⟩ H)
  (ho:off+cs.length≤c:=by decide) (hx:Ope t x (elemP v (i * c+off)):=by exact ope_) (hy:Ope t y u:=by exact ope_) (hu:u.cells=cs.toArray:=by rfl) (hn:cs.length=n:=by rfl) (h1:oneCells cs=true:=by rfl):
  WU2 P tab m N0 [(⟨none,none,.store n x y⟩,[])] g cl ⟨t,ds,rd⟩ (Am.inC X) (regQ K hS):=by
 obtain⟨q,row,q1,q2,rfl,q4,q5,q6⟩:=own_row oc hi ho hR
 rw[show elemP (.slice (some ⟨q,0,none⟩) xs.length c) (i * c+off)= .pointer (some ⟨q,i * c+off,none⟩) by show Value.pointer (some ⟨q,0+(i * c+off),none⟩)=_;rw[Nat.zero_add]]at hx
 exact WU2.wF q4 (Nat.le_trans hm q1) (fun X' n1 k1 g1 w1=>k X' n1 (fun j hj hv=>k1 j fun e=>hv _ _ (by subst e;rfl)) (q6 X' (Nat.le_of_eq n1.symm) g1 fun j _ hj=>k1 j hj) w1) q5 hx hy hu hn h1
end
theorem sliceA_head {c g off len n:Nat} (hn:n≤len):sliceA c (.slice (some ⟨g,off,none⟩) len c) none (some n) (some n)=some (.slice (some ⟨g,off,none⟩) n (if n=0 then 0 else c)):=by
 have b1:Nat.ble 0 n=true:=Nat.ble_eq_true_of_le (Nat.zero_le _)
 have b2:Nat.ble n len=true:=Nat.ble_eq_true_of_le hn
 have b3:Nat.ble n n=true:=Nat.ble_eq_true_of_le (Nat.le_refl _)
 simp only[sliceA,Option.getD_none,Option.getD_some,b1,b2,b3,Option.isNone_none,Bool.and_self,cond_true,Nat.beq_refl,Nat.zero_mul,Nat.add_zero,Nat.sub_zero]
 by_cases h:n=0
 ·subst h;rfl
 ·rw[if_neg h]
  cases hb:Nat.beq n 0 with
  |true=>exact absurd (Nat.eq_of_beq_eq_true hb) h
  |false=>rfl
theorem sliceA_rest {c g off len n:Nat} (hn:n≤len):sliceA c (.slice (some ⟨g,off,none⟩) len c) (some n) none none=some (.slice (some ⟨g,off+n * c,none⟩) (len - n) c):=by
 have b1:Nat.ble n len=true:=Nat.ble_eq_true_of_le hn
 have b2:Nat.ble len len=true:=Nat.ble_eq_true_of_le (Nat.le_refl _)
 simp only[sliceA,Option.getD_none,Option.getD_some,b1,b2,Option.isNone_none,Bool.and_self,cond_true,Nat.beq_refl]
theorem WO.slHM {h:AHeap} {Q:AFr→AHeap→Prop} {l:List AOper} {d c i:Nat} {x y z:Operand} {v r:Value} (hr:sliceA c v none (some i) (some i)=some r) (k:WO P tab l ⟨t.set d r,ds,rd⟩ h Q) (hx:Ope t x v:=by exact ope_) (hy:Ope t y (I (i:Int)):=by exact ope_) (hz:Ope t z (I (i:Int)):=by exact ope_):
  WO P tab (⟨some d,none,.slice c x none (some y) (some z)⟩::l) ⟨t,ds,rd⟩ h Q:=by
 have hx:ev t x=v:=hx
 have hy:ev t y=I (i:Int):=hy
 have hz:ev t z=I (i:Int):=hz
 exact WO.op r h rfl (by simp only[aop,hx,optA,hy,hz,asN,hr,Option.map_some];first|done|rfl) k
theorem WO.cpA {h:AHeap} {Q:AFr→AHeap→Prop} {l:List AOper} {d c k:Nat} {w:Value} {ys:List Value} (hq:h.get q=some (.row row true 0)) (s:SlC c h w k ys) (hc:0<c) (hk:k≤n) (hl:off+ys.length≤row.length) (h1:oneCells ys=true)
  (hX:∀ h',h'.n=h.n→(∀ j,j≠q→h'.get j=h.get j)→h'.get q=some (.row (putAt row off ys) true 0)→(Wf h→Wf h')→h'.mark=h.mark→(h.mark≤q→h'.wr=h.wr)→WO P tab l ⟨t.set d (I k),ds,rd⟩ h' Q)
  (hx:Ope t x (.slice (some ⟨q,off,none⟩) n c):=by exact ope_) (hy:Ope t y w:=by exact ope_):WO P tab (⟨some d,none,.copy c x y⟩::l) ⟨t,ds,rd⟩ h Q:=by
 have hx:ev t x=_:=hx
 have hy:ev t y=_:=hy
 have hs:=srcCells_of s
 have hlen:ys.length / c=k:=by rw[s.1];exact Nat.mul_div_cancel _ hc
 have hmin:min (ys.length / c) n=k:=by rw[hlen];exact Nat.min_eq_left hk
 have htk:ys.take (k * c)=ys:=List.take_of_length_le (by rw[s.1];exact Nat.le_refl _)
 by_cases h0:k=0
 ·subst h0
  have hys:ys=[]:=List.eq_nil_of_length_eq_zero (by rw[s.1,Nat.zero_mul])
  subst hys
  refine WO.op (I (0:Nat)) h rfl ?_ (hX h rfl (fun _ _=>rfl) ?_ id rfl (fun _=>rfl))
  ·simp only[aop,hx,hy,hs,hmin];rfl
  ·rw[hq];simp[putAt]
 ·have hb:Nat.beq k 0=false:=by cases hb:Nat.beq k 0 with
   |false=>rfl
   |true=>exact absurd (Nat.eq_of_beq_eq_true hb) h0
  refine WO.op (I k) (h.set q (.row (putAt row off ys) true 0)) rfl ?_ (hX _ rfl (fun j hj=>by rw[get_set,if_neg hj]) (by rw[get_set,if_pos rfl]) (fun wf j hj=> ?_) rfl fun hm=>log_of_mark hm)
  ·simp only[aop,hx,hy,hs,hmin,htk,hb,cond_false,Nat.beq_refl,Option.isNone_none,Bool.and_self,cond_true,store_row hq hl h1,Option.map_some]
  ·have hj:h.n≤j:=hj
   by_cases e:j=q
   ·subst e;have:=wf.lt hq;omega
   ·rw[get_set,if_neg e];exact wf j hj
end
end Go.Am
