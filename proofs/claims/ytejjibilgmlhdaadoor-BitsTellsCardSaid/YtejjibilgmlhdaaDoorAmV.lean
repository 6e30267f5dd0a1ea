/- A part of the abstract machine for the model's programs and of the proof that what it yields the model's call yields (definitions, operations, runs, regions that draw their order); no statement of the seat is proved in this text. -/
import Derived.Test.YtejjibilgmlhdaaDoorAmU
set_option linter.unusedVariables false
set_option linter.unusedSimpArgs false
namespace Go.Am
set_option linter.unusedVariables false
section
variable {P:Program} {tab:Tab}
def WU6 (P:Program) (tab:Tab) (m:Nat) (Bad:Nat→Prop):List (AOper×List Nat)→Nat→AFr→AHeap→(AFr→AHeap→Prop)→Prop
 |[],_,fr,h,Q=>Q fr h
 |(o,un)::l,g,fr,h,Q=>
  if Nat.beq (zA o.op) 3=true then
   un=[]∧zF fr.tm o.guard=true∧m≤g∧zN fr.tm o=none∧∃ ob f,madeA fr.tm o.op=some (ob,f)∧WU6 P tab m Bad l (g+1) (val o.dst fr (f g)) ((inC h).lay g ob) Q
  else WO P tab [o] fr (inC h) fun fr' h'=>(∀ g∈h'.wr,m≤g)∧(un=[]∨(zN fr.tm o=none∧∀ g∈h'.wr,Bad g))∧(∀ g,zN fr.tm o=some g→¬Bad g)∧WU6 P tab m Bad l g fr' h' Q
theorem okB_check {Bad:Nat→Prop} {un:List Nat} {t:Trie Value} {o:AOper} {h':AHeap} (hk:un=[]∨(zN t o=none∧∀ g∈h'.wr,Bad g)) (ws:List (Nat×Nat)) (bs:List (Nat×Nat)) {rs:List (Nat×Nat×Option (Nat×Nat×List Value))} (hr:∀ e∈rs,¬Bad e.2.1):
  ((match zN t o with
   |some g=>(ws.all fun x=> !(Nat.beq g x.2&&un.contains x.1))&&bs.all fun x=> !un.contains x.1||Nat.ble (g+1) x.2
   |none=>true)&&rs.all fun x=> !(un.contains x.1&&h'.wr.contains x.2.1)||seenA h' x.2.1 x.2.2)=true:=by
 rcases hk with rfl|⟨h1,h2⟩
 ·exact ok_nil o ws rs bs t h'
 ·rw[h1]
  simp only[Bool.true_and]
  rw[List.all_eq_true]
  intro x hx
  have:h'.wr.contains x.2.1=false:=by
   cases hc:h'.wr.contains x.2.1 with
   |false=>rfl
   |true=>exact absurd (h2 _ (List.contains_iff_mem.1 hc)) (hr x hx)
  rw[this,Bool.and_false];rfl
theorem WU6.run {m:Nat} {Bad:Nat→Prop}:∀ {ops:List (AOper×List Nat)} {g:Nat} {fr:AFr} {h:AHeap} {Q:AFr→AHeap→Prop},WU6 P tab m Bad ops g fr h Q→
  ∃ fr' h',Q fr' h'∧∀ (i:Nat) (ws:List (Nat×Nat)) (rs:List (Nat×Nat×Option (Nat×Nat×List Value))) (bs:List (Nat×Nat)),(∀ e∈ws,m≤e.2)→(∀ e∈rs,¬Bad e.2.1)→
   ∃ ws',(∀ e∈ws',m≤e.2)∧Ev fun n=>zU P (aex P tab n) ops i g ws rs bs fr h=some (fr',h',ws'):=by
 intro ops
 induction ops with
 |nil=>intro g fr h Q hx;exact⟨fr,h,hx,fun i ws rs bs hw _=>⟨ws,hw,Ev.all fun n=>rfl⟩⟩
 |cons x ops ihl=>
  intro g fr h Q hx
  obtain⟨o,un⟩:=x
  simp only[WU6]at hx
  have go:∀ {g':Nat} {fr1:AFr} {h1:AHeap},(g'=bif Nat.beq (zA o.op) 3 then g+1 else g)→(Ev fun n=>zQ P (aex P tab n) g o fr (inC h)=some (fr1,h1))→(∀ x∈h1.wr,m≤x)→(un=[]∨(zN fr.tm o=none∧∀ g∈h1.wr,Bad g))→(∀ g,zN fr.tm o=some g→¬Bad g)→WU6 P tab m Bad ops g' fr1 h1 Q→
    ∃ fr' h',Q fr' h'∧∀ (i:Nat) (ws:List (Nat×Nat)) (rs:List (Nat×Nat×Option (Nat×Nat×List Value))) (bs:List (Nat×Nat)),(∀ e∈ws,m≤e.2)→(∀ e∈rs,¬Bad e.2.1)→
     ∃ ws',(∀ e∈ws',m≤e.2)∧Ev fun n=>zU P (aex P tab n) ((o,un)::ops) i g ws rs bs fr h=some (fr',h',ws'):=by
   intro g' fr1 h1 hg ev hw hk hb hx
   obtain⟨fr',h',q,run⟩:=ihl hx
   refine⟨fr',h',q,fun i ws rs bs hws hrs=> ?_⟩
   obtain⟨ws',w1,w2⟩:=run (i+1) (h1.wr.map (fun g=>(i,g))++ws) (match zN fr.tm o with
     |some g=>(i,g,viewA fr.tm h o.op)::rs
     |none=>rs) ((i,h.n)::bs) (fun e he=>by
      rcases List.mem_append.1 he with he|he
      ·obtain⟨y,hy,rfl⟩:=List.mem_map.1 he;exact hw y hy
      ·exact hws e he) (fun e he=>by
      cases hr:zN fr.tm o with
      |none=>rw[hr]at he;exact hrs e he
      |some k=>
       rw[hr]at he
       rcases List.mem_cons.1 he with rfl|he
       ·exact hb k hr
       ·exact hrs e he)
   refine⟨ws',w1,(ev.and w2).mono fun n ⟨e1,e2⟩=> ?_⟩
   simp only[zU]
   have e1':zQ P (aex P tab n) g o fr {h with mark:=h.n,wr:=[]}=some (fr1,h1):=e1
   rw[e1']
   have hok:=okB_check hk ws bs hrs
   exact(congrArg (fun b:Bool=>bif b then zU P (aex P tab n) ops (i+1) (bif Nat.beq (zA o.op) 3 then g+1 else g) (h1.wr.map (fun g=>(i,g))++ws) (match zN fr.tm o with
     |some g=>(i,g,viewA fr.tm h o.op)::rs
     |none=>rs) ((i,h.n)::bs) fr1 h1 else none) hok).trans (by rw[cond_true,←hg];exact e2)
  by_cases hk:Nat.beq (zA o.op) 3=true
  ·rw[if_pos hk]at hx
   obtain⟨rfl,hw,hm,hr,ob,f,hmade,hx⟩:=hx
   refine go (g':=g+1) (by rw[hk];rfl) (Ev.all fun n=> ?_) (h1:=(inC h).lay g ob) (fun x hx=> ?_) (.inl rfl) (fun k hk2=>by rw[hr]at hk2;cases hk2) hx
   ·unfold zQ;simp only[hk,hw,hmade,cond_true]
   ·rcases log_mem hx with rfl|hx
    ·exact hm
    ·cases hx
  ·rw[if_neg hk]at hx
   have hk':Nat.beq (zA o.op) 3=false:=by cases hb:Nat.beq (zA o.op) 3 with
    |false=>rfl
    |true=>exact absurd hb hk
   unfold WO at hx
   obtain⟨fr1,h1,⟨q1,q2,q3,q4⟩,ev⟩:=hx
   refine go (g':=g) (by rw[hk'];rfl) (ev.mono fun n e=> ?_) q1 q2 q3 q4
   unfold zQ;simp only[hk',cond_false]
   simp only[zw]at e
   cases ha:za P (aex P tab n) o fr (inC h)with
   |none=>rw[ha]at e;cases e
   |some p=>rw[ha]at e;exact e
end
section
variable {P:Program} {tab:Tab} {m:Nat} {Bad:Nat→Prop} {l:List (AOper×List Nat)} {o:AOper} {un:List Nat} {g:Nat} {fr:AFr} {h h0 h':AHeap} {Q:AFr→AHeap→Prop} {K:AExit→AFr→AHeap→Prop} {t:Trie Value}
def uK6 (P:Program) (tab:Tab) (m:Nat) (Bad:Nat→Prop) (un:List Nat) (t:Trie Value) (o:AOper) (l:List (AOper×List Nat)) (g:Nat) (Q:AFr→AHeap→Prop):AFr→AHeap→Prop:=
 fun fr' h'=>(∀ g∈h'.wr,m≤g)∧(un=[]∨(zN t o=none∧∀ g∈h'.wr,Bad g))∧(∀ g,zN t o=some g→¬Bad g)∧WU6 P tab m Bad l g fr' h' Q
theorem WU6.q (hk:Nat.beq (zA o.op) 3=false) (hx:WO P tab [o] fr (inC h) (uK6 P tab m Bad un fr.tm o l g Q)):WU6 P tab m Bad ((o,un)::l) g fr (inC h) Q:=by
 simp only[WU6];rw[if_neg (by rw[hk];exact Bool.noConfusion)];exact hx
theorem WU6.mk {d:Nat} {op:AOp} {ob:AObj} {f:Nat→Value} (hk:Nat.beq (zA op) 3=true) (hm:m≤g) (hmade:madeA t op=some (ob,f)) {ds:List Deferred} {rd:Option Nat} (hx:WU6 P tab m Bad l (g+1) ⟨t.set d (f g),ds,rd⟩ ((inC h).lay g ob) Q):WU6 P tab m Bad ((⟨some d,none,op⟩,[])::l) g ⟨t,ds,rd⟩ (inC h) Q:=by
 simp only[WU6];rw[if_pos hk]
 refine⟨by trivial,rfl,hm,?_,ob,f,hmade,hx⟩
 cases op<;>first|rfl|cases hk
end
end Go.Am
namespace Go.Am
set_option linter.unusedVariables false
set_option linter.unusedSimpArgs false
structure AR (hB h:AHeap) (p:Value) (cells:List Value) (n:Nat) (A:Nat→List Int):Prop where
 own:OwnC hB h p cells
 len:cells.length=n
 all:∀ j,j<n→OwnN hB h (cells.getD j undef) (A j)
 apart:∀ i j g a b c d,i<n→j<n→i≠j→cells.getD i undef= .slice (some ⟨g,0,none⟩) a b→cells.getD j undef= .slice (some ⟨g,0,none⟩) c d→False
theorem AR.ext {hB h h':AHeap} {p:Value} {cells:List Value} {n:Nat} {A:Nat→List Int} (r:AR hB h p cells n A) (e:Ext h h'):AR hB h' p cells n A:=
 ⟨r.own.ext e,r.len,fun j hj=>(r.all j hj).ext e,r.apart⟩
theorem AR.off {hB h:AHeap} {p:Value} {cells:List Value} {n:Nat} {A:Nat→List Int} (r:AR hB h p cells n A) {j:Nat} (hj:j<n) {g gp a b:Nat} (hp:p= .pointer (some ⟨gp,0,none⟩)) (hv:cells.getD j undef= .slice (some ⟨g,0,none⟩) a b):g≠gp:=by
 intro e
 subst e
 obtain⟨q,_,_,hq,hg⟩:=r.own
 rw[hp]at hq;cases hq
 rcases r.all j hj with ⟨h1,_⟩|⟨q2,_,_,h2,h3⟩
 ·rw[h1]at hv;cases hv
 ·rw[h2]at hv;cases hv
  rw[hg]at h3
  have he:cells=(A j).map I:=by simpa using h3
  have:=congrArg (fun l=>l.getD j undef) he
  simp only[h2]at this
  have hlen:j<((A j).map I).length:=by rw[←he,r.len];exact hj
  rw[List.getD_eq_getElem?_getD,List.getElem?_eq_getElem hlen]at this
  simp at this
section
variable {P:Program} {tab:Tab} {t:Trie Value} {ds:List Deferred} {rd:Option Nat}
theorem AR.one {hB h:AHeap} {p:Value} {cells:List Value} {n:Nat} {A:Nat→List Int} (r:AR hB h p cells n A):zW cells=true:=by
 unfold zW
 rw[List.all_eq_true]
 intro x hx
 obtain⟨j,hj,rfl⟩:=List.mem_iff_getElem.1 hx
 have e:cells.getD j undef=cells[j]:=by simp[List.getD,List.getElem?_eq_getElem hj]
 have:=r.all j (by rw[←r.len];exact hj)
 rw[e]at this
 rcases this with ⟨h,_⟩|⟨_,_,_,h,_⟩<;>rw[h]
theorem AR.updC {hB h h':AHeap} {p:Value} {cells:List Value} {n:Nat} {A:Nat→List Int} (r:AR hB h p cells n A) (o:OwnC hB h' p cells) (u:UpdC p h h'):AR hB h' p cells n A:=by
 refine⟨o,r.len,fun j hj=> ?_,r.apart⟩
 rcases r.all j hj with h1|⟨q,q1,q2,h1,q3⟩
 ·exact .inl h1
 ·refine .inr ⟨q,q1,Nat.lt_of_lt_of_le q2 u.1,h1,(u.2 q q2 fun e=> ?_).trans q3⟩
  exact r.off hj e h1 rfl
end
end Go.Am
namespace Go.Am
section
variable {P:Program} {tab:Tab} {ds:List Deferred} {rd:Option Nat} {h:AHeap} {l:List AOper} {t:Trie Value}
end
end Go.Am
namespace Go.Am
set_option linter.unusedVariables false
set_option linter.unusedSimpArgs false
section
variable {P:Program} {tab:Tab} {t:Trie Value} {ds:List Deferred} {rd:Option Nat}
theorem own_set {h0 h:AHeap} {p:Value} {xs:List Int} {j:Nat} {a:Int} (o:OwnC h0 h p (xs.map I)) (hj:j<xs.length):∃ g,h0.n≤g∧g<h.n∧p= .pointer (some ⟨g,0,none⟩)∧zq h ⟨g,j,none⟩ [I a]=some (h.set g (.row ((xs.set j a).map I) true 0)):=by
 obtain⟨g,g1,g2,hp,g3⟩:=o
 refine⟨g,g1,g2,hp,?_⟩
 have h1:Nat.ble (j+1) (xs.map I).length=true:=Nat.ble_eq_true_of_le (by simp;omega)
 have h0:Nat.ble 0 j=true:=Nat.ble_eq_true_of_le (Nat.zero_le _)
 have h2:zW [I a]=true:=rfl
 simp only[zq,g3,List.length_singleton,h1,h0,h2,Bool.and_self,putAt_set _ _ _ hj]
 rfl
theorem WU2.st1 {N0 g:Nat} {cl:Bool} {x y:Operand} {p:Value} {xs:List Int} {j:Nat} {a:Int} {h0 X:AHeap} {m:Nat} {w:AOper×List Nat} {l:List (AOper×List Nat)} {Q:AFr→AHeap→Prop} (o:OwnC h0 X p (xs.map I)) (hm:m≤h0.n) (hj:j<xs.length)
  (k:∀ X',X'.n=X.n→OwnC h0 X' p ((xs.set j a).map I)→UpdC p X X'→(Wf X→Wf X')→WU2 P tab m N0 (w::l) g false ⟨t,ds,rd⟩ (inC X') Q) (hx:Ope t x (ptrAt p j):=by exact zj) (hy:Ope t y (I a):=by exact zj):
  WU2 P tab m N0 ((⟨none,none,.store 1 x y⟩,[])::w::l) g cl ⟨t,ds,rd⟩ (inC X) Q:=by
 obtain⟨q,q1,q2,hp,hst⟩:=own_set (a:=a) o hj
 rw[WU2,if_neg (show ¬Nat.beq (zA (AOp.store 1 x y)) 3=true from Bool.noConfusion)]
 have hst':zq (inC (inC X)) ⟨q,j,none⟩ [I a]=some ((inC (inC X)).set q (.row ((xs.set j a).map I) true 0)):=by
  have:OwnC h0 (inC (inC X)) p (xs.map I):=o
  obtain⟨q',_,_,hp',h⟩:=own_set (a:=a) this hj
  rw[hp]at hp';cases hp';exact h
 have hx:ev t x=ptrAt p j:=hx
 have hy:ev t y=I a:=hy
 have hc:(I a).cells=#[I a]:=rfl
 refine WO.op0 undef ((inC (inC X)).set q (.row ((xs.set j a).map I) true 0)) rfl (by
  simp only[aop,hx,hp,ptrAt,Nat.zero_add,hy,hc,hst',Option.map_some];rfl) ?_
 have hlog:(inC (inC X)).log q=[q]:=by
  have:Nat.ble X.n q=false:=by
   cases hb:Nat.ble X.n q with
   |false=>rfl
   |true=>have:=Nat.le_of_ble_eq_true hb;omega
  show (bif Nat.ble X.n q then [] else q::[])=_
  rw[this];rfl
 have hwr:((inC (inC X)).set q (.row ((xs.set j a).map I) true 0)).wr=[q]:=hlog
 refine WO.nil ⟨⟨fun c hc=> ?_,Nat.le_refl _,.inl rfl⟩,?_⟩
 ·rw[hwr]at hc;rw[List.mem_singleton]at hc;subst hc;omega
 ·rw[hwr,show (cl&&[q].isEmpty)=false by cases cl<;>rfl]
  have:=k ((inC (inC X)).set q (.row ((xs.set j a).map I) true 0)) rfl ⟨q,q1,q2,hp,by rw[zo,if_pos rfl]⟩ ⟨Nat.le_refl _,fun c _ hc=>by rw[zo,if_neg (fun e=>hc (by rw[hp,e]))];rfl⟩ (fun wf c hc=>by have hc:X.n≤c:=hc;rw[zo,if_neg (by omega)];exact wf c hc)
  obtain⟨o2,un2⟩:=w
  unfold WU2 at this ⊢
  exact this
end
end Go.Am
namespace Go.Am
def Dep {α:Type} (R:AHeap→List Value→α→Prop) (h:AHeap) (cs:List Value) (a:α) (D:Nat→Prop):Prop:=
 ∀ hx:AHeap,(∀ k o,D k→h.get k=some o→hx.get k=some o)→h.n≤hx.n→R hx cs a
def OwnR {α:Type} (c:Nat) (R:AHeap→List Value→α→Prop) (b:Nat) (h:AHeap) (v:Value) (xs:List α):Prop:=
 (v= .slice none 0 0∧xs=[])∨∃ g cells D,b≤g∧g<h.n∧v= .slice (some ⟨g,0,none⟩) xs.length c∧h.get g=some (.row cells true 0)∧cells.length=xs.length * c∧¬D g∧(∀ k,D k→b≤k∧k<h.n)∧
  ∀ (i:Nat) (a:α),xs[i]?=some a→Dep R h ((cells.drop (i * c)).take c) a D
section
variable {α:Type} {c b:Nat} {R:AHeap→List Value→α→Prop} {h h':AHeap} {v:Value} {xs:List α}
theorem Dep.self {cs:List Value} {a:α} {D:Nat→Prop} (d:Dep R h cs a D):R h cs a:=d h (fun _ _ _ e=>e) (Nat.le_refl _)
theorem Dep.mono {cs:List Value} {a:α} {D E:Nat→Prop} (d:Dep R h cs a D) (hE:∀ k,D k→E k) (hk:∀ k o,D k→h.get k=some o→h'.get k=some o) (hn:h.n≤h'.n):Dep R h' cs a E:=
 fun hx h1 h2=>d hx (fun k o hd e=>h1 k o (hE k hd) (hk k o hd e)) (Nat.le_trans hn h2)
theorem OwnR.nil:OwnR c R b h (.slice none 0 0) ([]:List α):= .inl ⟨rfl,rfl⟩
theorem OwnR.upd (o:OwnR c R b h v xs) (hk:∀ k,b≤k→k<h.n→h'.get k=h.get k) (hn:h.n≤h'.n):OwnR c R b h' v xs:=by
 rcases o with o|⟨g,cells,D,g1,g2,g3,g4,g5,g6,g7,g8⟩
 ·exact .inl o
 ·exact .inr ⟨g,cells,D,g1,Nat.lt_of_lt_of_le g2 hn,g3,(hk g g1 g2).trans g4,g5,g6,fun k hd=>⟨(g7 k hd).1,Nat.lt_of_lt_of_le (g7 k hd).2 hn⟩,fun i a ha=>(g8 i a ha).mono (fun _ h=>h) (fun k o hd e=>(hk k (g7 k hd).1 (g7 k hd).2).trans e) hn⟩
theorem OwnR.ext (o:OwnR c R b h v xs) (e:Ext h h'):OwnR c R b h' v xs:=o.upd (fun k _ hk=>e.get k hk) e.n
theorem OwnR.dep (o:OwnR c R b h v xs) {hx:AHeap} (hk:∀ k o,b≤k→k<h.n→h.get k=some o→hx.get k=some o) (hn:h.n≤hx.n):SlR c R hx v xs:=by
 rcases o with ⟨rfl,rfl⟩|⟨g,cells,D,g1,g2,rfl,g4,g5,g6,g7,g8⟩
 ·exact SlR.nil
 ·refine⟨cells,⟨g5,.inr ⟨g,0,cells,rfl,rowOf_get (hk g _ g1 g2 g4),?_,Nat.lt_of_lt_of_le g2 hn⟩⟩,fun i a ha=>g8 i a ha hx (fun k o hd e=>hk k o (g7 k hd).1 (g7 k hd).2 e) hn⟩
  rw[cut_ok (by omega)];simp[←g5]
theorem OwnR.sl (o:OwnR c R b h v xs):SlR c R h v xs:=o.dep (fun _ _ _ _ e=>e) (Nat.le_refl _)
theorem OwnR.base {b':Nat} (o:OwnR c R b h v xs) (hb:b'≤b):OwnR c R b' h v xs:=by
 rcases o with o|⟨g,cells,D,g1,g2,g3,g4,g5,g6,g7,g8⟩
 ·exact .inl o
 ·exact .inr ⟨g,cells,D,Nat.le_trans hb g1,g2,g3,g4,g5,g6,fun k hd=>⟨Nat.le_trans hb (g7 k hd).1,(g7 k hd).2⟩,g8⟩
end
section
variable {P:Program} {tab:Tab} {t:Trie Value} {h:AHeap} {ds:List Deferred} {rd:Option Nat} {l:List AOper} {Q:AFr→AHeap→Prop}
end
end Go.Am
namespace Go.Am
section
variable {P:Program} {tab:Tab} {m:Nat} {Bad:Nat→Prop} {l:List (AOper×List Nat)} {o:AOper} {un:List Nat} {g:Nat} {fr:AFr} {h h0 h':AHeap} {Q:AFr→AHeap→Prop} {K:AExit→AFr→AHeap→Prop} {t:Trie Value} {ds:List Deferred} {rd:Option Nat}
theorem slr_block {α:Type} {c i:Nat} {R:AHeap→List Value→α→Prop} {v:Value} {xs:List α} (s:SlR c R h v xs) (hi:i<xs.length):∃ a n k,v= .slice (some a) n k∧a.block<h.n:=by
 obtain⟨cells,⟨h1,⟨h2,_⟩|⟨g,off,row,rfl,_,_,hg⟩⟩,_⟩:=s
 ·omega
 ·exact⟨_,_,_,rfl,hg⟩
theorem slc_piece {c i n:Nat} {h:AHeap} {v:Value} {cells:List Value} (a:SlC c h v n cells) (hi:i<n):Piece h v (i * c) ((cells.drop (i * c)).take c):=by
 have hlen:cells.length=n * c:=a.1
 have hle:i * c+c≤cells.length:=by
  rw[hlen,←Nat.succ_mul];exact Nat.mul_le_mul_right _ hi
 intro P ih t x agg k off r hx hn hr
 cases hc:cut ((cells.drop (i * c)).take c) off k with
 |none=>rw[hc]at hr;cases hr
 |some m=>
  rw[hc]at hr
  have h1:cut cells (i * c) c=Option.some ((cells.drop (i * c)).take c):=cut_ok hle
  exact aop_load a hx (load_cut h1 hc) hn hr
theorem slr_atX {α:Type} [Inhabited α] {c:Nat} {R:AHeap→List Value→α→Prop} {h:AHeap} {v:Value} {T:List α} {i:Nat} (s:SlR c R h v T) (hi:i<T.length):∃ cs,R h cs (T.getD i default)∧(∀ h',Ext h h'→Piece h' v (i * c) cs∧Piece (inC h') v (i * c) cs)∧IsSl v:=by
 have hs:=s.some hi
 obtain⟨cells,a,b⟩:=s
 refine⟨_,by simpa [List.getD,List.getElem?_eq_getElem hi]using b i T[i] (List.getElem?_eq_getElem hi),fun h' e=> ?_,hs⟩
 have a':=a.ext e
 exact⟨slc_piece a' hi,slc_piece (h:=inC h') a' hi⟩
def RBo (_:AHeap) (cs:List Value) (b:Bool):Prop:=cs=[.bool b]
abbrev SlBo (h:AHeap) (v:Value) (l:List Bool):Prop:=SlR 1 RBo h v l
def OwnBo (h0 h:AHeap) (v:Value) (l:List Bool):Prop:=∃ g,h0.n≤g∧g<h.n∧v= .slice (some ⟨g,0,none⟩) l.length 1∧h.get g=some (.row (l.map .bool) true 0)
theorem OwnBo.ext {h0 h h' v l} (o:OwnBo h0 h v l) (e:Ext h h'):OwnBo h0 h' v l:=by
 obtain⟨g,a,b,c,d⟩:=o;exact⟨g,a,Nat.lt_of_lt_of_le b e.n,c,(e.get g b).trans d⟩
theorem OwnBo.sl {h0 h v l} (o:OwnBo h0 h v l):SlBo h v l:=by
 obtain⟨g,a,b,rfl,d⟩:=o
 refine⟨l.map .bool,SlC.own (own:=true) (lo:=0) b d (by simp),fun i x hx=> ?_⟩
 obtain⟨hi,e⟩:=List.getElem?_eq_some_iff.1 hx
 show ((l.map Value.bool).drop (i * 1)).take 1=_
 rw[Nat.mul_one,List.drop_eq_getElem_cons (by simpa using hi)]
 simp[e]
end
end Go.Am
namespace Go.Am
section
variable {P:Program} {tab:Tab} {t:Trie Value} {h:AHeap} {ds:List Deferred} {rd:Option Nat} {l:List AOper} {Q:AFr→AHeap→Prop}
theorem WO.stC0w {x y:Operand} {p v:Value} {cells cs:List Value} {n:Nat} {h0:AHeap} (o:OwnC h0 h p cells) (e0:Ext h0 h) (k:∀ h',Ext h0 h'→OwnC h0 h' p cs→UpdC p h h'→(∀ k∈h'.wr,k∈h.wr∨h0.n≤k)→WO P tab l ⟨t,ds,rd⟩ h' Q)
  (hx:Ope t x p:=by exact zj) (hy:Ope t y v:=by exact zj) (hv:v.cells=cs.toArray:=by rfl) (hn:cs.length=n:=by rfl) (hl:cells.length=n:=by rfl) (h1:zW cs=true:=by rfl):WO P tab (⟨none,none,.store n x y⟩::l) ⟨t,ds,rd⟩ h Q:=by
 obtain⟨g,g1,g2,rfl,g3⟩:=o
 have hx:ev t x= .pointer (some ⟨g,0,none⟩):=hx
 have hy:ev t y=v:=hy
 have e:zi cells 0 cs=cs:=by simp[zi,hn,hl]
 have hst:zq h ⟨g,0,none⟩ cs=some (h.set g (.row cs true 0)):=by
  have h2:Nat.ble (0+cs.length) cells.length=true:=Nat.ble_eq_true_of_le (by omega)
  have h0:Nat.ble 0 0=true:=rfl
  simp only[zq,g3,h2,h0,h1,Bool.and_self,e]
  rfl
 have hnn:Nat.beq cs.length n=true:=by rw[hn];exact Nat.beq_refl _
 refine WO.op0 undef (h.set g (.row cs true 0)) rfl ?_ (k _ (e0.set g1 g2 _) ⟨g,g1,g2,rfl,by rw[zo,if_pos rfl]⟩ ⟨Nat.le_refl _,fun k _ hk=> ?_⟩ fun k hk=> ?_)
 ·simp only[aop,hx,hy,hv,List.size_toArray,hnn,hst,Option.map_some,cond_true]
 ·rw[zo,if_neg (fun e=>hk (by rw[e]))]
 ·have hk:k∈h.log g:=hk
  rcases log_mem hk with rfl|h
  ·exact .inr g1
  ·exact .inl h
theorem WO.apNw {d:Nat} {x y:Operand} {v w:Value} {xs ys:List Int} {h0:AHeap} (o:OwnN h0 h v xs) (s:SlI h w ys) (e0:Ext h0 h) (hne:ys≠[]) (hr:xs.length+ys.length≤4294967296)
  (k:∀ v' h',Ext h0 h'→OwnN h0 h' v' (xs++ys)→Upd v h h'→(∀ k∈h'.wr,k∈h.wr∨h0.n≤k)→(∀ g n c,v'= .slice (some ⟨g,0,none⟩) n c→h.n≤g)→WO P tab l ⟨t.set d v',ds,rd⟩ h' Q)
  (hx:Ope t x v:=by exact zj) (hy:Ope t y w:=by exact zj):WO P tab (⟨some d,none,.append 1 x y⟩::l) ⟨t,ds,rd⟩ h Q:=by
 have hx:ev t x=v:=hx
 have hy:ev t y=w:=hy
 have hsrc:=srcCells_of s
 have hroom:room=4294967296:=rfl
 obtain⟨z,zs,rfl⟩:∃ z zs,ys=z::zs:=by
  cases ys with
  |nil=>exact absurd rfl hne
  |cons z zs=>exact⟨z,zs,rfl⟩
 have hone:zW (I z::zs.map I)=true:=one_ints (z::zs)
 have hlen:(I z::zs.map I).length / 1=(z::zs).length:=by simp
 rcases o with ⟨rfl,rfl⟩|⟨g,g1,g2,rfl,g3⟩
 ·have h1:Nat.ble (z::zs).length room=true:=Nat.ble_eq_true_of_le (by rw[hroom];simpa using hr)
  refine WO.op (.slice (some ⟨h.n,0,none⟩) (z::zs).length 1) (h.push (.row ((z::zs).map I) true 0)) rfl ?_ (k _ _ (e0.push _) (.inr ⟨h.n,e0.n,by simp[AHeap.push],rfl,zY _ _⟩) ⟨Nat.le_succ _,fun k hk _=> ?_⟩ (fun k hk=> .inl hk) fun g n c e=>by cases e;exact Nat.le_refl _)
  ·simp only[aop,hx,hy,yB,hsrc,List.map_cons,hone,hlen,h1,Bool.not_true,cond_true,cond_false]
   rfl
  ·rw[zk,if_neg (by omega)]
 ·have h1:Nat.ble (xs.length+(z::zs).length) room=true:=Nat.ble_eq_true_of_le (by rw[hroom];exact hr)
  have h2:cut (xs.map I) 0 (xs.length * 1)=some (xs.map I):=by rw[cut_ok (by simp)];simp[List.take_of_length_le]
  have hn:(h.kill g).n=h.n:=rfl
  have h3:Nat.ble 0 (0+xs.length * 1)=true:=Nat.ble_eq_true_of_le (Nat.zero_le _)
  refine WO.op (.slice (some ⟨h.n,0,none⟩) (xs.length+(z::zs).length) 1) ((h.kill g).push (.row (xs.map I++(z::zs).map I) true (0 - 0))) rfl ?_
   (k _ _ ((e0.kill g1).push _) (.inr ⟨h.n,e0.n,by simp[AHeap.push,AHeap.kill],by simp,?_⟩) ⟨Nat.le_succ _,fun k hk hv=> ?_⟩ (fun k hk=> ?_) fun g n c e=>by cases e;exact Nat.le_refl _)
  ·simp only[aop,hx,hy,yB,hsrc,List.map_cons,hone,hlen,h1,g3,h2,h3,Bool.not_true,cond_true,cond_false]
   rfl
  ·have:=zY (h.kill g) (.row (xs.map I++(z::zs).map I) true (0 - 0))
   rw[hn]at this
   rw[this];simp
  ·rw[zk,if_neg (by rw[hn];omega),get_kill,if_neg (fun e=>hv _ _ _ rfl e.symm)]
  ·have hk:k∈h.log g:=hk
   rcases log_mem hk with rfl|h
   ·exact .inr g1
   ·exact .inl h
end
section
variable {P:Program} {tab:Tab} {m N0:Nat} {l:List (AOper×List Nat)} {o:AOper} {g:Nat} {cl:Bool} {fr:AFr} {h h0 h':AHeap} {Q:AFr→AHeap→Prop} {K:AExit→AFr→AHeap→Prop} {x:AOper×List Nat} {t:Trie Value}
theorem uK2_wl (hw:∀ k∈h'.wr,m≤k) (hn:h.n≤h'.n) (hx:∀ cl',WU2 P tab m N0 (x::l) g cl' fr (inC h') Q):uK2 P tab m N0 [] t o (inC h) (x::l) g cl Q fr h':=⟨⟨hw,hn,.inl rfl⟩,by
 have:=hx (cl&&h'.wr.isEmpty)
 obtain⟨y,un⟩:=x
 unfold WU2 at this ⊢
 exact this⟩
end
section
variable {α:Type} {c b:Nat} {R:AHeap→List Value→α→Prop}
theorem one_all {cells:List Value} {n:Nat} (hc:0<c) (hl:cells.length=n * c) (h:∀ i,i<n→zW ((cells.drop (i * c)).take c)=true):zW cells=true:=by
 unfold zW at *
 rw[List.all_eq_true]
 intro x hx
 obtain⟨j,hj,rfl⟩:=List.getElem_of_mem hx
 have hi:j / c<n:=by rw[Nat.div_lt_iff_lt_mul hc];omega
 have h1:=List.all_eq_true.1 (h (j / c) hi)
 refine h1 _ ?_
 have hd:j / c * c+j % c=j:=by rw[Nat.mul_comm];exact Nat.div_add_mod ..
 have hm:j % c<c:=Nat.mod_lt _ hc
 rw[List.mem_iff_getElem]
 refine⟨j % c,by rw[List.length_take,List.length_drop];omega,?_⟩
 rw[List.getElem_take,List.getElem_drop]
 congr 1
variable {P:Program} {tab:Tab} {t:Trie Value} {h:AHeap} {ds:List Deferred} {rd:Option Nat} {l:List AOper} {Q:AFr→AHeap→Prop}
theorem WO.bl0 {d:Nat} {zero:List Value} (R:AHeap→List Value→α→Prop) (k:∀ v h',Ext h h'→OwnR c R h.n h' v []→WO P tab l ⟨t.set d v,ds,rd⟩ h' Q):WO P tab (⟨some d,none,.buildSlice 0 c zero []⟩::l) ⟨t,ds,rd⟩ h Q:=by
 refine WO.op (.slice (some ⟨h.n,0,none⟩) 0 c) (h.push (.row [] true 0)) rfl rfl (k _ _ (ext_push _ _) (.inr ⟨h.n,[],fun _=>False,Nat.le_refl _,Nat.lt_succ_self _,rfl,zY _ _,by simp,fun h=>h,fun k hk=>hk.elim,fun i a ha=>by simp at ha⟩))
theorem WO.apAll {d:Nat} {hB:AHeap} {x y:Operand} {v w:Value} {ys:List α} (o:OwnR c R b h v ([]:List α)) (s:SlR c R h w ys) (hc:0<c) (hind:∀ cs a,R h cs a→Dep R h cs a (fun _=>False)) (hone:∀ cs a,R h cs a→zW cs=true)
  (e0:Ext hB h) (hb:hB.n≤b) (hbn:b≤h.n) (hl:ys.length≤100000) (k:∀ v' h',Ext hB h'→OwnR c R b h' v' ys→WO P tab l ⟨t.set d v',ds,rd⟩ h' Q) (hx:Ope t x v:=by exact zj) (hy:Ope t y w:=by exact zj):
  WO P tab (⟨some d,none,.append c x y⟩::l) ⟨t,ds,rd⟩ h Q:=by
 have hx:ev t x=v:=hx
 have hy:ev t y=w:=hy
 have hroom:room=4294967296:=rfl
 obtain⟨cells,⟨hlen,hcase⟩,hR⟩:=s
 have hpc:∀ i,i<ys.length→∃ a,ys[i]?=some a∧R h ((cells.drop (i * c)).take c) a:=fun i hi=>⟨ys[i],List.getElem?_eq_getElem hi,hR i _ (List.getElem?_eq_getElem hi)⟩
 by_cases hy0:ys.length=0
 ·have hsrc:zt c h w=some []:=by
   rcases hcase with ⟨_,rfl|⟨a,k',rfl⟩⟩|⟨g,off,row,rfl,_⟩
   ·rfl
   ·rfl
   ·rw[hy0];rfl
  have hys:ys=[]:=List.eq_nil_of_length_eq_zero hy0
  subst hys
  have hv:∃ a n k,v= .slice a n k∧(a=none→n=0∧k=0):=by
   rcases o with ⟨rfl,_⟩|⟨g,_,_,_,_,rfl,_⟩
   ·exact⟨_,_,_,rfl,fun _=>⟨rfl,rfl⟩⟩
   ·exact⟨_,_,_,rfl,fun h=>by cases h⟩
  refine WO.op v h rfl ?_ (k v h e0 o)
  obtain⟨a,n,kk,rfl,ha⟩:=hv
  cases a with
  |none=>obtain⟨rfl,rfl⟩:=ha rfl;simp only[aop,hx,hy,yB,hsrc]
  |some a=>simp only[aop,hx,hy,yB,hsrc]
 ·obtain⟨g,off,row,rfl,hrow,hcut,hg⟩:=hcase.resolve_left (fun h=>hy0 h.1)
  have hbe:Nat.beq ys.length 0=false:=by cases hb:Nat.beq ys.length 0 with
   |false=>rfl
   |true=>exact absurd (Nat.eq_of_beq_eq_true hb) hy0
  have hsrc:zt c h (.slice (some ⟨g,off,none⟩) ys.length c)=some cells:=by
   simp only[zt,hbe,Nat.beq_refl,Option.isNone_none,Bool.and_self,cond_true,cond_false,hrow,hcut]
  have h1:zW cells=true:=one_all hc hlen fun i hi=>by
   obtain⟨a,_,r⟩:=hpc i hi;exact hone _ _ r
  obtain⟨z,zs,hz⟩:∃ z zs,cells=z::zs:=by
   cases hcl:cells with
   |nil=>exfalso;rw[hcl,List.length_nil]at hlen;have:0<ys.length * c:=Nat.mul_pos (by omega) hc;omega
   |cons z zs=>exact⟨z,zs,rfl⟩
  have hdiv:(z::zs).length / c=ys.length:=by rw[←hz,hlen];exact Nat.mul_div_cancel _ hc
  rw[hz]at hsrc h1
  have hcc:Nat.beq c 0=false:=by cases hz:Nat.beq c 0 with
   |false=>rfl
   |true=>have:=Nat.eq_of_beq_eq_true hz;omega
  have fin:∀ H:AHeap,h.n<H.n→H.get h.n=some (.row (z::zs) true 0)→OwnR c R b H (.slice (some ⟨h.n,0,none⟩) ys.length c) ys:=fun H hn hget=>
   .inr ⟨h.n,z::zs,fun _=>False,hbn,hn,rfl,hget,by rw[←hz];exact hlen,fun h=>h,fun k hk=>hk.elim,fun i a ha=>by
    rw[←hz]
    exact(hind _ _ (hR i a ha)).mono (fun _ h=>h) (fun _ _ h=>h.elim) (by omega)⟩
  rcases o with ⟨rfl,_⟩|⟨g0,cells0,D,g1,g2,rfl,g4,g5,_⟩
  ·have hb1:Nat.ble ys.length room=true:=Nat.ble_eq_true_of_le (by omega)
   refine WO.op (.slice (some ⟨h.n,0,none⟩) ys.length c) (h.push (.row (z::zs) true 0)) rfl ?_ (k _ _ (e0.push _) (fin _ (Nat.lt_succ_self _) (zY _ _)))
   simp only[aop,hx,hy,yB,hsrc,h1,Bool.not_true,cond_false,hdiv,hb1,cond_true];rfl
  ·have hc0:cells0=[]:=List.eq_nil_of_length_eq_zero (by rw[g5,List.length_nil,Nat.zero_mul])
   subst hc0
   have hb1:Nat.ble (0+ys.length) room=true:=Nat.ble_eq_true_of_le (by omega)
   have h2:cut [] 0 (0 * c)=some ([]:List Value):=by rw[Nat.zero_mul];rfl
   have h3:Nat.ble 0 (0+0 * c)=true:=Nat.ble_eq_true_of_le (Nat.zero_le _)
   refine WO.op (.slice (some ⟨h.n,0,none⟩) (0+ys.length) c) ((h.kill g0).push (.row ([]++z::zs) true (0 - 0))) rfl ?_ (k _ _ ((e0.kill (Nat.le_trans hb g1)).push _) ?_)
   ·simp only[aop,hx,hy,yB,hsrc,h1,Bool.not_true,cond_false,hdiv,List.length_nil,hb1,hcc,Nat.beq_refl,g4,h2,h3,cond_true,Option.isNone_none,Bool.and_self]
   ·rw[Nat.zero_add]
    exact fin _ (Nat.lt_succ_self _) (zY (h.kill g0) _)
end
end Go.Am
namespace Go.Am
section
variable {α:Type} [Inhabited α] {c b:Nat} {R:AHeap→List Value→α→Prop} {h:AHeap} {v:Value} {xs:List α}
variable {P:Program} {tab:Tab} {t:Trie Value} {ds:List Deferred} {rd:Option Nat} {l:List AOper} {Q:AFr→AHeap→Prop}
end
section
variable {P:Program} {tab:Tab} {t:Trie Value} {h:AHeap} {ds:List Deferred} {rd:Option Nat} {l:List AOper} {Q:AFr→AHeap→Prop}
end
end Go.Am
