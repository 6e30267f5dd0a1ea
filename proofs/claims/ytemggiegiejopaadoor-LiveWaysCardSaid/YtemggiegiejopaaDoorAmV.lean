/- A part of the abstract machine for the model's programs and of the proof that what it yields the model's call yields (definitions, operations, runs, regions that draw their order); no statement of the seat is proved in this text. -/
import Derived.Test.YtemggiegiejopaaDoorAmU
set_option linter.unusedVariables false
set_option linter.unusedSimpArgs false
namespace Go.Am
set_option linter.unusedVariables false
section
variable {P:Program} {tab:Tab}
def WU6 (P:Program) (tab:Tab) (m:Nat) (Bad:Nat→Prop):List (AOper×List Nat)→Nat→AFr→AHeap→(AFr→AHeap→Prop)→Prop
 |[],_,fr,h,Q=>Q fr h
 |(o,un)::l,g,fr,h,Q=>
  if Nat.beq (zD o.op) 3=true then
   un=[]∧zK fr.tm o.guard=true∧m≤g∧zT fr.tm o=none∧∃ ob f,yT fr.tm o.op=some (ob,f)∧WU6 P tab m Bad l (g+1) (val o.dst fr (f g)) ((inC h).lay g ob) Q
  else WO P tab [o] fr (inC h) fun fr' h'=>(∀ g∈h'.wr,m≤g)∧(un=[]∨(zT fr.tm o=none∧∀ g∈h'.wr,Bad g))∧(∀ g,zT fr.tm o=some g→¬Bad g)∧WU6 P tab m Bad l g fr' h' Q
theorem zIm {Bad:Nat→Prop} {un:List Nat} {t:Trie Value} {o:AOper} {h':AHeap} (hk:un=[]∨(zT t o=none∧∀ g∈h'.wr,Bad g)) (ws:List (Nat×Nat)) (bs:List (Nat×Nat)) {rs:List (Nat×Nat×Option (Nat×Nat×List Value))} (hr:∀ e∈rs,¬Bad e.2.1):
  ((match zT t o with
   |some g=>(ws.all fun x=> !(Nat.beq g x.2&&un.contains x.1))&&bs.all fun x=> !un.contains x.1||Nat.ble (g+1) x.2
   |none=>true)&&rs.all fun x=> !(un.contains x.1&&h'.wr.contains x.2.1)||zCb h' x.2.1 x.2.2)=true:=by
 rcases hk with rfl|⟨h1,h2⟩
 ·exact zHX o ws rs bs t h'
 ·rw[h1]
  simp only[Bool.true_and]
  rw[List.all_eq_true]
  intro x hx
  have:h'.wr.contains x.2.1=false:=by
   cases hc:h'.wr.contains x.2.1 with
   |false=>rfl
   |true=>exact absurd (h2 _ (List.contains_iff_mem.1 hc)) (hr x hx)
  rw[this,Bool.and_false];rfl
theorem WU6.run {m:Nat} {Bad:Nat→Prop}:∀ {ops:List (AOper×List Nat)} {g:Nat} {fr:AFr} {h:AHeap} {Q:AFr→AHeap→Prop},WU6 P tab m Bad ops g fr h Q→
  ∃ fr' h',Q fr' h'∧∀ (i:Nat) (ws:List (Nat×Nat)) (rs:List (Nat×Nat×Option (Nat×Nat×List Value))) (bs:List (Nat×Nat)),(∀ e∈ws,m≤e.2)→(∀ e∈rs,¬Bad e.2.1)→
   ∃ ws',(∀ e∈ws',m≤e.2)∧Ev fun n=>zo P (aex P tab n) ops i g ws rs bs fr h=some (fr',h',ws'):=by
 intro ops
 induction ops with
 |nil=>intro g fr h Q hx;exact⟨fr,h,hx,fun i ws rs bs hw _=>⟨ws,hw,Ev.all fun n=>rfl⟩⟩
 |cons x ops ihl=>
  intro g fr h Q hx
  obtain⟨o,un⟩:=x
  simp only[WU6]at hx
  have go:∀ {g':Nat} {fr1:AFr} {h1:AHeap},(g'=bif Nat.beq (zD o.op) 3 then g+1 else g)→(Ev fun n=>zk P (aex P tab n) g o fr (inC h)=some (fr1,h1))→(∀ x∈h1.wr,m≤x)→(un=[]∨(zT fr.tm o=none∧∀ g∈h1.wr,Bad g))→(∀ g,zT fr.tm o=some g→¬Bad g)→WU6 P tab m Bad ops g' fr1 h1 Q→
    ∃ fr' h',Q fr' h'∧∀ (i:Nat) (ws:List (Nat×Nat)) (rs:List (Nat×Nat×Option (Nat×Nat×List Value))) (bs:List (Nat×Nat)),(∀ e∈ws,m≤e.2)→(∀ e∈rs,¬Bad e.2.1)→
     ∃ ws',(∀ e∈ws',m≤e.2)∧Ev fun n=>zo P (aex P tab n) ((o,un)::ops) i g ws rs bs fr h=some (fr',h',ws'):=by
   intro g' fr1 h1 hg ev hw hk hb hx
   obtain⟨fr',h',q,run⟩:=ihl hx
   refine⟨fr',h',q,fun i ws rs bs hws hrs=> ?_⟩
   obtain⟨ws',w1,w2⟩:=run (i+1) (h1.wr.map (fun g=>(i,g))++ws) (match zT fr.tm o with
     |some g=>(i,g,Z8 fr.tm h o.op)::rs
     |none=>rs) ((i,h.n)::bs) (fun e he=>by
      rcases List.mem_append.1 he with he|he
      ·obtain⟨y,hy,rfl⟩:=List.mem_map.1 he;exact hw y hy
      ·exact hws e he) (fun e he=>by
      cases hr:zT fr.tm o with
      |none=>rw[hr]at he;exact hrs e he
      |some k=>
       rw[hr]at he
       rcases List.mem_cons.1 he with rfl|he
       ·exact hb k hr
       ·exact hrs e he)
   refine⟨ws',w1,(ev.and w2).mono fun n ⟨e1,e2⟩=> ?_⟩
   simp only[zo]
   have e1':zk P (aex P tab n) g o fr {h with mark:=h.n,wr:=[]}=some (fr1,h1):=e1
   rw[e1']
   have hok:=zIm hk ws bs hrs
   exact(congrArg (fun b:Bool=>bif b then zo P (aex P tab n) ops (i+1) (bif Nat.beq (zD o.op) 3 then g+1 else g) (h1.wr.map (fun g=>(i,g))++ws) (match zT fr.tm o with
     |some g=>(i,g,Z8 fr.tm h o.op)::rs
     |none=>rs) ((i,h.n)::bs) fr1 h1 else none) hok).trans (by rw[cond_true,←hg];exact e2)
  by_cases hk:Nat.beq (zD o.op) 3=true
  ·rw[if_pos hk]at hx
   obtain⟨rfl,hw,hm,hr,ob,f,hmade,hx⟩:=hx
   refine go (g':=g+1) (by rw[hk];rfl) (Ev.all fun n=> ?_) (h1:=(inC h).lay g ob) (fun x hx=> ?_) (.inl rfl) (fun k hk2=>by rw[hr]at hk2;cases hk2) hx
   ·unfold zk;simp only[hk,hw,hmade,cond_true]
   ·rcases yO hx with rfl|hx
    ·exact hm
    ·cases hx
  ·rw[if_neg hk]at hx
   have hk':Nat.beq (zD o.op) 3=false:=by cases hb:Nat.beq (zD o.op) 3 with
    |false=>rfl
    |true=>exact absurd hb hk
   unfold WO at hx
   obtain⟨fr1,h1,⟨q1,q2,q3,q4⟩,ev⟩:=hx
   refine go (g':=g) (by rw[hk'];rfl) (ev.mono fun n e=> ?_) q1 q2 q3 q4
   unfold zk;simp only[hk',cond_false]
   simp only[yF]at e
   cases ha:zu P (aex P tab n) o fr (inC h)with
   |none=>rw[ha]at e;cases e
   |some p=>rw[ha]at e;exact e
end
section
variable {P:Program} {tab:Tab} {m:Nat} {Bad:Nat→Prop} {l:List (AOper×List Nat)} {o:AOper} {un:List Nat} {g:Nat} {fr:AFr} {h h0 h':AHeap} {Q:AFr→AHeap→Prop} {K:AExit→AFr→AHeap→Prop} {t:Trie Value}
def uK6 (P:Program) (tab:Tab) (m:Nat) (Bad:Nat→Prop) (un:List Nat) (t:Trie Value) (o:AOper) (l:List (AOper×List Nat)) (g:Nat) (Q:AFr→AHeap→Prop):AFr→AHeap→Prop:=
 fun fr' h'=>(∀ g∈h'.wr,m≤g)∧(un=[]∨(zT t o=none∧∀ g∈h'.wr,Bad g))∧(∀ g,zT t o=some g→¬Bad g)∧WU6 P tab m Bad l g fr' h' Q
theorem WU6.q (hk:Nat.beq (zD o.op) 3=false) (hx:WO P tab [o] fr (inC h) (uK6 P tab m Bad un fr.tm o l g Q)):WU6 P tab m Bad ((o,un)::l) g fr (inC h) Q:=by
 simp only[WU6];rw[if_neg (by rw[hk];exact Bool.noConfusion)];exact hx
theorem WU6.mk {d:Nat} {op:AOp} {ob:AObj} {f:Nat→Value} (hk:Nat.beq (zD op) 3=true) (hm:m≤g) (hmade:yT t op=some (ob,f)) {ds:List Deferred} {rd:Option Nat} (hx:WU6 P tab m Bad l (g+1) ⟨t.set d (f g),ds,rd⟩ ((inC h).lay g ob) Q):WU6 P tab m Bad ((⟨some d,none,op⟩,[])::l) g ⟨t,ds,rd⟩ (inC h) Q:=by
 simp only[WU6];rw[if_pos hk]
 refine⟨by trivial,rfl,hm,?_,ob,f,hmade,hx⟩
 cases op<;>first|rfl|cases hk
end
end Go.Am
namespace Go.Am
set_option linter.unusedVariables false
set_option linter.unusedSimpArgs false
structure AR (hB h:AHeap) (p:Value) (cells:List Value) (n:Nat) (A:Nat→List Int):Prop where
 own:OwnC hB h p cells
 len:cells.length=n
 all:∀ j,j<n→OwnN hB h (cells.getD j undef) (A j)
 apart:∀ i j g a b c d,i<n→j<n→i≠j→cells.getD i undef= .slice (some ⟨g,0,none⟩) a b→cells.getD j undef= .slice (some ⟨g,0,none⟩) c d→False
theorem AR.ext {hB h h':AHeap} {p:Value} {cells:List Value} {n:Nat} {A:Nat→List Int} (r:AR hB h p cells n A) (e:Ext h h'):AR hB h' p cells n A:=
 ⟨r.own.ext e,r.len,fun j hj=>(r.all j hj).ext e,r.apart⟩
theorem AR.off {hB h:AHeap} {p:Value} {cells:List Value} {n:Nat} {A:Nat→List Int} (r:AR hB h p cells n A) {j:Nat} (hj:j<n) {g gp a b:Nat} (hp:p= .pointer (some ⟨gp,0,none⟩)) (hv:cells.getD j undef= .slice (some ⟨g,0,none⟩) a b):g≠gp:=by
 intro e
 subst e
 obtain⟨q,_,_,hq,hg⟩:=r.own
 rw[hp]at hq;cases hq
 rcases r.all j hj with ⟨h1,_⟩|⟨q2,_,_,h2,h3⟩
 ·rw[h1]at hv;cases hv
 ·rw[h2]at hv;cases hv
  rw[hg]at h3
  have he:cells=(A j).map I:=by simpa using h3
  have:=congrArg (fun l=>l.getD j undef) he
  simp only[h2]at this
  have hlen:j<((A j).map I).length:=by rw[←he,r.len];exact hj
  rw[List.getD_eq_getElem?_getD,List.getElem?_eq_getElem hlen]at this
  simp at this
section
variable {P:Program} {tab:Tab} {t:Trie Value} {ds:List Deferred} {rd:Option Nat}
theorem zIV {l:List Value} {i:Nat} {v:Value} (hi:i<l.length):zX l i [v]=l.set i v:=by
 unfold zX
 rw[List.length_singleton,List.set_eq_take_append_cons_drop,if_pos hi];simp
theorem AR.one {hB h:AHeap} {p:Value} {cells:List Value} {n:Nat} {A:Nat→List Int} (r:AR hB h p cells n A):zR cells=true:=by
 unfold zR
 rw[List.all_eq_true]
 intro x hx
 obtain⟨j,hj,rfl⟩:=List.mem_iff_getElem.1 hx
 have e:cells.getD j undef=cells[j]:=by simp[List.getD,List.getElem?_eq_getElem hj]
 have:=r.all j (by rw[←r.len];exact hj)
 rw[e]at this
 rcases this with ⟨h,_⟩|⟨_,_,_,h,_⟩<;>rw[h]
theorem AR.updC {hB h h':AHeap} {p:Value} {cells:List Value} {n:Nat} {A:Nat→List Int} (r:AR hB h p cells n A) (o:OwnC hB h' p cells) (u:UpdC p h h'):AR hB h' p cells n A:=by
 refine⟨o,r.len,fun j hj=> ?_,r.apart⟩
 rcases r.all j hj with h1|⟨q,q1,q2,h1,q3⟩
 ·exact .inl h1
 ·refine .inr ⟨q,q1,Nat.lt_of_lt_of_le q2 u.1,h1,(u.2 q q2 fun e=> ?_).trans q3⟩
  exact r.off hj e h1 rfl
end
end Go.Am
namespace Go.Am
section
variable {P:Program} {tab:Tab} {ds:List Deferred} {rd:Option Nat} {h:AHeap} {l:List AOper} {t:Trie Value}
end
end Go.Am
namespace Go.Am
set_option linter.unusedVariables false
set_option linter.unusedSimpArgs false
section
variable {P:Program} {tab:Tab} {t:Trie Value} {ds:List Deferred} {rd:Option Nat}
theorem zIF {h0 h:AHeap} {p:Value} {xs:List Int} {j:Nat} {a:Int} (o:OwnC h0 h p (xs.map I)) (hj:j<xs.length):∃ g,h0.n≤g∧g<h.n∧p= .pointer (some ⟨g,0,none⟩)∧zU h ⟨g,j,none⟩ [I a]=some (h.set g (.row ((xs.set j a).map I) true 0)):=by
 obtain⟨g,g1,g2,hp,g3⟩:=o
 refine⟨g,g1,g2,hp,?_⟩
 have h1:Nat.ble (j+1) (xs.map I).length=true:=Nat.ble_eq_true_of_le (by simp;omega)
 have h0:Nat.ble 0 j=true:=Nat.ble_eq_true_of_le (Nat.zero_le _)
 have h2:zR [I a]=true:=rfl
 simp only[zU,g3,List.length_singleton,h1,h0,h2,Bool.and_self,zB9 _ _ _ hj]
 rfl
theorem WU2.st1 {N0 g:Nat} {cl:Bool} {x y:Operand} {p:Value} {xs:List Int} {j:Nat} {a:Int} {h0 X:AHeap} {m:Nat} {w:AOper×List Nat} {l:List (AOper×List Nat)} {Q:AFr→AHeap→Prop} (o:OwnC h0 X p (xs.map I)) (hm:m≤h0.n) (hj:j<xs.length)
  (k:∀ X',X'.n=X.n→OwnC h0 X' p ((xs.set j a).map I)→UpdC p X X'→(Wf X→Wf X')→WU2 P tab m N0 (w::l) g false ⟨t,ds,rd⟩ (inC X') Q) (hx:Ope t x (yb p j):=by exact ze) (hy:Ope t y (I a):=by exact ze):
  WU2 P tab m N0 ((⟨none,none,.store 1 x y⟩,[])::w::l) g cl ⟨t,ds,rd⟩ (inC X) Q:=by
 obtain⟨q,q1,q2,hp,hst⟩:=zIF (a:=a) o hj
 rw[WU2,if_neg (show ¬Nat.beq (zD (AOp.store 1 x y)) 3=true from Bool.noConfusion)]
 have hst':zU (inC (inC X)) ⟨q,j,none⟩ [I a]=some ((inC (inC X)).set q (.row ((xs.set j a).map I) true 0)):=by
  have:OwnC h0 (inC (inC X)) p (xs.map I):=o
  obtain⟨q',_,_,hp',h⟩:=zIF (a:=a) this hj
  rw[hp]at hp';cases hp';exact h
 have hx:ev t x=yb p j:=hx
 have hy:ev t y=I a:=hy
 have hc:(I a).cells=#[I a]:=rfl
 refine WO.op0 undef ((inC (inC X)).set q (.row ((xs.set j a).map I) true 0)) rfl (by
  simp only[aop,hx,hp,yb,Nat.zero_add,hy,hc,hst',Option.map_some];rfl) ?_
 have hlog:(inC (inC X)).log q=[q]:=by
  have:Nat.ble X.n q=false:=by
   cases hb:Nat.ble X.n q with
   |false=>rfl
   |true=>have:=Nat.le_of_ble_eq_true hb;omega
  show (bif Nat.ble X.n q then [] else q::[])=_
  rw[this];rfl
 have hwr:((inC (inC X)).set q (.row ((xs.set j a).map I) true 0)).wr=[q]:=hlog
 refine WO.nil ⟨⟨fun c hc=> ?_,Nat.le_refl _,.inl rfl⟩,?_⟩
 ·rw[hwr]at hc;rw[List.mem_singleton]at hc;subst hc;omega
 ·rw[hwr,show (cl&&[q].isEmpty)=false by cases cl<;>rfl]
  have:=k ((inC (inC X)).set q (.row ((xs.set j a).map I) true 0)) rfl ⟨q,q1,q2,hp,by rw[zM,if_pos rfl]⟩ ⟨Nat.le_refl _,fun c _ hc=>by rw[zM,if_neg (fun e=>hc (by rw[hp,e]))];rfl⟩ (fun wf c hc=>by have hc:X.n≤c:=hc;rw[zM,if_neg (by omega)];exact wf c hc)
  obtain⟨o2,un2⟩:=w
  unfold WU2 at this ⊢
  exact this
end
end Go.Am
namespace Go.Am
def Dep {α:Type} (R:AHeap→List Value→α→Prop) (h:AHeap) (cs:List Value) (a:α) (D:Nat→Prop):Prop:=
 ∀ hx:AHeap,(∀ k o,D k→h.get k=some o→hx.get k=some o)→h.n≤hx.n→R hx cs a
def OwnR {α:Type} (c:Nat) (R:AHeap→List Value→α→Prop) (b:Nat) (h:AHeap) (v:Value) (xs:List α):Prop:=
 (v= .slice none 0 0∧xs=[])∨∃ g cells D,b≤g∧g<h.n∧v= .slice (some ⟨g,0,none⟩) xs.length c∧h.get g=some (.row cells true 0)∧cells.length=xs.length * c∧¬D g∧(∀ k,D k→b≤k∧k<h.n)∧
  ∀ (i:Nat) (a:α),xs[i]?=some a→Dep R h ((cells.drop (i * c)).take c) a D
section
variable {α:Type} {c b:Nat} {R:AHeap→List Value→α→Prop} {h h':AHeap} {v:Value} {xs:List α}
theorem Dep.self {cs:List Value} {a:α} {D:Nat→Prop} (d:Dep R h cs a D):R h cs a:=d h (fun _ _ _ e=>e) (Nat.le_refl _)
theorem Dep.mono {cs:List Value} {a:α} {D E:Nat→Prop} (d:Dep R h cs a D) (hE:∀ k,D k→E k) (hk:∀ k o,D k→h.get k=some o→h'.get k=some o) (hn:h.n≤h'.n):Dep R h' cs a E:=
 fun hx h1 h2=>d hx (fun k o hd e=>h1 k o (hE k hd) (hk k o hd e)) (Nat.le_trans hn h2)
theorem OwnR.nil:OwnR c R b h (.slice none 0 0) ([]:List α):= .inl ⟨rfl,rfl⟩
theorem OwnR.upd (o:OwnR c R b h v xs) (hk:∀ k,b≤k→k<h.n→h'.get k=h.get k) (hn:h.n≤h'.n):OwnR c R b h' v xs:=by
 rcases o with o|⟨g,cells,D,g1,g2,g3,g4,g5,g6,g7,g8⟩
 ·exact .inl o
 ·exact .inr ⟨g,cells,D,g1,Nat.lt_of_lt_of_le g2 hn,g3,(hk g g1 g2).trans g4,g5,g6,fun k hd=>⟨(g7 k hd).1,Nat.lt_of_lt_of_le (g7 k hd).2 hn⟩,fun i a ha=>(g8 i a ha).mono (fun _ h=>h) (fun k o hd e=>(hk k (g7 k hd).1 (g7 k hd).2).trans e) hn⟩
theorem OwnR.ext (o:OwnR c R b h v xs) (e:Ext h h'):OwnR c R b h' v xs:=o.upd (fun k _ hk=>e.get k hk) e.n
theorem OwnR.dep (o:OwnR c R b h v xs) {hx:AHeap} (hk:∀ k o,b≤k→k<h.n→h.get k=some o→hx.get k=some o) (hn:h.n≤hx.n):SlR c R hx v xs:=by
 rcases o with ⟨rfl,rfl⟩|⟨g,cells,D,g1,g2,rfl,g4,g5,g6,g7,g8⟩
 ·exact SlR.nil
 ·refine⟨cells,⟨g5,.inr ⟨g,0,cells,rfl,ZO (hk g _ g1 g2 g4),?_,Nat.lt_of_lt_of_le g2 hn⟩⟩,fun i a ha=>g8 i a ha hx (fun k o hd e=>hk k o (g7 k hd).1 (g7 k hd).2 e) hn⟩
  rw[ZY (by omega)];simp[←g5]
theorem OwnR.sl (o:OwnR c R b h v xs):SlR c R h v xs:=o.dep (fun _ _ _ _ e=>e) (Nat.le_refl _)
theorem OwnR.base {b':Nat} (o:OwnR c R b h v xs) (hb:b'≤b):OwnR c R b' h v xs:=by
 rcases o with o|⟨g,cells,D,g1,g2,g3,g4,g5,g6,g7,g8⟩
 ·exact .inl o
 ·exact .inr ⟨g,cells,D,Nat.le_trans hb g1,g2,g3,g4,g5,g6,fun k hd=>⟨Nat.le_trans hb (g7 k hd).1,(g7 k hd).2⟩,g8⟩
theorem take_app {cells cs:List Value} {n i:Nat} (hl:cells.length=n * c) (hc:cs.length=c) (hi:i<n):(((cells++cs).drop (i * c)).take c)=(cells.drop (i * c)).take c:=by
 have h1:i * c+c≤n * c:=by rw[←Nat.succ_mul];exact Nat.mul_le_mul_right _ hi
 rw[List.drop_append,List.take_append_of_le_length]
 rw[List.length_drop];omega
theorem zIz {cells cs:List Value} {n:Nat} (hl:cells.length=n * c) (hc:cs.length=c):(((cells++cs).drop (n * c)).take c)=cs:=by
 rw[List.drop_append,List.drop_eq_nil_of_le (by omega),List.nil_append,hl,Nat.sub_self,List.drop_zero,List.take_of_length_le (by omega)]
theorem OwnR.snoc (o:OwnR c R b h v xs) {cs:List Value} {a:α} {Dn:Nat→Prop} {g':Nat} {olds:List Value} (hc:cs.length=c) (d:Dep R h cs a Dn) (hD:∀ k,Dn k→b≤k∧k<h.n) (hv:∀ g n k,v= .slice (some ⟨g,0,none⟩) n k→¬Dn g)
  (hold:∀ g n k,v= .slice (some ⟨g,0,none⟩) n k→h.get g=some (.row olds true 0)) (hnil:v= .slice none 0 0→olds=[])
  (hg:h.n≤g') (hb:b≤g') (hg2:g'<h'.n) (hget:h'.get g'=some (.row (olds++cs) true 0)) (keep:∀ k,b≤k→k<h.n→(∀ n k',v≠ .slice (some ⟨k,0,none⟩) n k')→h'.get k=h.get k):
  OwnR c R b h' (.slice (some ⟨g',0,none⟩) (xs++[a]).length c) (xs++[a]):=by
 rcases o with ⟨rfl,rfl⟩|⟨g,cells,D,g1,g2,rfl,g4,g5,g6,g7,g8⟩
 ·have:=hnil rfl;subst this
  refine .inr ⟨g',cs,Dn,hb,hg2,rfl,by simpa using hget,by simp[hc],fun hd=>by have:=(hD _ hd).2;omega,fun k hd=>⟨(hD k hd).1,by have:=(hD k hd).2;omega⟩,fun i x hx=> ?_⟩
  have hi:i=0:=by
   have:=(List.getElem?_eq_some_iff.1 hx).1;simp at this;omega
  subst hi
  simp at hx;subst hx
  rw[Nat.zero_mul,List.drop_zero,List.take_of_length_le (by omega)]
  exact d.mono (fun _ h=>h) (fun k o hd e=>(keep k (hD k hd).1 (hD k hd).2 (fun _ _ e=>by cases e)).trans e) (by omega)
 ·have:=hold g _ _ rfl
  rw[g4]at this;cases this
  refine .inr ⟨g',olds++cs,fun k=>D k∨Dn k,hb,hg2,rfl,hget,by rw[List.length_append,List.length_append,List.length_singleton,Nat.succ_mul,g5,hc],fun hd=> ?_,fun k hd=> ?_,fun i x hx=> ?_⟩
  ·rcases hd with hd|hd
   ·have:=(g7 _ hd).2;omega
   ·have:=(hD _ hd).2;omega
  ·rcases hd with hd|hd
   ·exact⟨(g7 k hd).1,by have:=(g7 k hd).2;omega⟩
   ·exact⟨(hD k hd).1,by have:=(hD k hd).2;omega⟩
  ·by_cases hi:i<xs.length
   ·rw[List.getElem?_append_left hi]at hx
    rw[take_app g5 hc hi]
    refine(g8 i x hx).mono (fun k h=> .inl h) (fun k o hd e=>(keep k (g7 k hd).1 (g7 k hd).2 (fun n k' e2=> ?_)).trans e) (by omega)
    cases e2;exact g6 hd
   ·rw[List.getElem?_append_right (by omega)]at hx
    have hi2:i=xs.length:=by
     have:=(List.getElem?_eq_some_iff.1 hx).1;simp at this;omega
    subst hi2
    simp at hx;subst hx
    rw[zIz g5 hc]
    refine d.mono (fun k h=> .inr h) (fun k o hd e=>(keep k (hD k hd).1 (hD k hd).2 (fun n k' e2=> ?_)).trans e) (by omega)
    exact hv k n k' e2 hd
end
section
variable {P:Program} {tab:Tab} {t:Trie Value} {h:AHeap} {ds:List Deferred} {rd:Option Nat} {l:List AOper} {Q:AFr→AHeap→Prop}
theorem fill_one {zero cs:List Value} {v:Value} {c:Nat} (hv:v.cells=cs.toArray) (hc:cs.length=c) (hz:zero.length=c):ye (zy zero 1) [(0,c,v)]=some cs:=by
 have h1:zy zero 1=zero:=by simp[zy]
 have h2:Nat.beq v.cells.size c=true:=by rw[hv];simp[hc]
 have h3:Nat.ble (0+c) zero.length=true:=Nat.ble_eq_true_of_le (by omega)
 rw[h1]
 simp only[ye,h2,h3,Bool.and_self,cond_true,hv]
 congr 1
 simp[zX,hc,hz]
theorem zHO {α:Type} {c b gl:Nat} {R:AHeap→List Value→α→Prop} {h H:AHeap} {v:Value} {xs:List α} {cs:List Value} {a:α} {Dn:Nat→Prop} (o:OwnR c R b h v xs) (hc:cs.length=c) (hc0:0<c) (h1:zR cs=true) (hl:xs.length≤100000) (hbn:b≤h.n)
  (d:Dep R h cs a Dn) (hD:∀ k,Dn k→b≤k∧k<h.n) (hv:∀ g n k,v= .slice (some ⟨g,0,none⟩) n k→¬Dn g) (hH:h.n≤H.n) (hgl:gl<H.n) (hkeep:∀ k,k<h.n→H.get k=h.get k) (hlit:H.get gl=some (.row cs true 0)):
  ∃ v' H',yh c v (.slice (some ⟨gl,0,none⟩) 1 c) H=some (v',H')∧OwnR c R b H' v' (xs++[a])∧H'.n=H.n+1∧(∀ k,k<H.n→(∀ n k',v≠ .slice (some ⟨k,0,none⟩) n k')→H'.get k=H.get k)∧H'.mark=H.mark∧(∀ k∈H'.wr,k∈H.wr∨b≤k)∧
   (H.mark≤b→H'.wr=H.wr)∧(Wf H→Wf H')∧(∃ n k g,v'= .slice (some ⟨g,0,none⟩) n k∧H.n≤g):=by
 obtain⟨y,ys,rfl⟩:∃ y ys,cs=y::ys:=by
  cases cs with
  |nil=>simp at hc;omega
  |cons y ys=>exact⟨y,ys,rfl⟩
 have hsrc:yN c H (.slice (some ⟨gl,0,none⟩) 1 c)=some (y::ys):=by
  have e1:zg H gl=some (y::ys):=ZO hlit
  have e2:cut (y::ys) 0 (1 * c)=some (y::ys):=by rw[ZY (by omega)];simp[←hc]
  have e3:Nat.beq 1 0=false:=rfl
  rw[Nat.one_mul]at e2
  simp only[yN,e1,e3,Nat.one_mul,e2,Nat.beq_refl,Option.isNone_none,Bool.and_self,cond_true,cond_false]
 have hdiv:(y::ys).length / c=1:=by rw[hc];exact Nat.div_self hc0
 have hroom:room=4294967296:=rfl
 rcases id o with ⟨rfl,rfl⟩|⟨g,cells,D,g1,g2,rfl,g4,g5,g6,g7,g8⟩
 ·have hb1:Nat.ble 1 room=true:=rfl
  refine⟨.slice (some ⟨H.n,0,none⟩) 1 c,H.push (.row (y::ys) true 0),?_,?_,rfl,fun k hk _=> ?_,rfl,fun k hk=> .inl hk,fun _=>rfl,fun w k hk=> ?_,⟨_,_,_,rfl,Nat.le_refl _⟩⟩
  ·simp only[yh,hsrc,h1,Bool.not_true,cond_false,hdiv,hb1,cond_true];rfl
  ·have:=o.snoc (h':=H.push (.row (y::ys) true 0)) (g':=H.n) (olds:=[]) hc d hD hv (fun g n k e=>by cases e) (fun _=>rfl) hH (Nat.le_trans hbn hH) (Nat.lt_succ_self _) (zt _ _) (fun k _ hk _=>by rw[zY,if_neg (by omega)];exact hkeep k hk)
   exact this
  ·rw[zY,if_neg (by omega)]
  ·have hk:H.n+1≤k:=hk
   rw[zY,if_neg (by omega)];exact w k (by omega)
 ·have hb1:Nat.ble (xs.length+1) room=true:=Nat.ble_eq_true_of_le (by omega)
  have hq:H.get g=some (.row cells true 0):=(hkeep g g2).trans g4
  have h2:cut cells 0 (xs.length * c)=some cells:=by rw[ZY (by omega)];simp[←g5]
  have h3:Nat.ble 0 (0+xs.length * c)=true:=Nat.ble_eq_true_of_le (Nat.zero_le _)
  have hcc:Nat.beq c 0=false:=by cases hz:Nat.beq c 0 with
   |false=>rfl
   |true=>have:=Nat.eq_of_beq_eq_true hz;omega
  have hKn:(H.kill g).n=H.n:=rfl
  refine⟨.slice (some ⟨H.n,0,none⟩) (xs.length+1) c,(H.kill g).push (.row (cells++y::ys) true (0 - 0)),?_,?_,rfl,fun k hk hvk=> ?_,rfl,fun k hk=> ?_,fun hm=> ?_,fun w k hk=> ?_,⟨_,_,_,rfl,Nat.le_refl _⟩⟩
  ·simp only[yh,hsrc,h1,Bool.not_true,cond_false,hdiv,hb1,hcc,Nat.beq_refl,hq,h2,h3,cond_true,Option.isNone_none,Bool.and_self]
  ·have:=o.snoc (h':=(H.kill g).push (.row (cells++y::ys) true (0 - 0))) (g':=H.n) (olds:=cells) hc d hD hv (fun g n k e=>by cases e;exact g4) (fun e=>by cases e) hH (Nat.le_trans hbn hH) (Nat.lt_succ_self _) (zt (H.kill g) _) (fun k _ hk hvk=>by
    rw[zY,if_neg (by rw[hKn];omega),yo,if_neg (fun e=>hvk _ _ (by rw[e]))];exact hkeep k hk)
   rw[List.length_append,List.length_singleton]at this
   exact this
  ·rw[zY,if_neg (by rw[hKn];omega),yo,if_neg (fun e=>hvk _ _ (by rw[e]))]
  ·have hk2:k∈H.log g:=hk
   rcases yO hk2 with rfl|h
   ·exact .inr g1
   ·exact .inl h
  ·show H.log g=H.wr
   exact zAd (by omega)
  ·have hk:H.n+1≤k:=hk
   rw[zY,if_neg (by rw[hKn];omega),yo]
   split
   ·rfl
   ·exact w k (by omega)
end
end Go.Am
namespace Go.Am
section
variable {P:Program} {tab:Tab} {m:Nat} {Bad:Nat→Prop} {l:List (AOper×List Nat)} {o:AOper} {un:List Nat} {g:Nat} {fr:AFr} {h h0 h':AHeap} {Q:AFr→AHeap→Prop} {K:AExit→AFr→AHeap→Prop} {t:Trie Value} {ds:List Deferred} {rd:Option Nat}
theorem uK2_el {N0 j n:Nat} {d:Option Nat} {agg:Bool} {x:Operand} {v:Value} {un:List Nat} (hv:∃ a n k,v= .slice (some a) n k∧a.block<N0) (hx:WU2 P tab m N0 l g true fr (inC h) Q) (hr:Ope t x (zq v j):=by exact ze):
  uK2 P tab m N0 un t ⟨d,none,.load agg n x⟩ (inC h) l g true Q fr (inC h):=by
 obtain⟨a,n',k',rfl,hb⟩:=hv
 refine zEK (fun k hk=> ?_) hx
 unfold Ope zq at hr
 simp only[zT,zK,cond_true,hr,Option.some.injEq]at hk
 omega
theorem zAt {α:Type} {c i:Nat} {R:AHeap→List Value→α→Prop} {v:Value} {xs:List α} (s:SlR c R h v xs) (hi:i<xs.length):∃ a n k,v= .slice (some a) n k∧a.block<h.n:=by
 obtain⟨cells,⟨h1,⟨h2,_⟩|⟨g,off,row,rfl,_,_,hg⟩⟩,_⟩:=s
 ·omega
 ·exact⟨_,_,_,rfl,hg⟩
theorem zEW {c i n:Nat} {h:AHeap} {v:Value} {cells:List Value} (a:SlC c h v n cells) (hi:i<n):Piece h v (i * c) ((cells.drop (i * c)).take c):=by
 have hlen:cells.length=n * c:=a.1
 have hle:i * c+c≤cells.length:=by
  rw[hlen,←Nat.succ_mul];exact Nat.mul_le_mul_right _ hi
 intro P ih t x agg k off r hx hn hr
 cases hc:cut ((cells.drop (i * c)).take c) off k with
 |none=>rw[hc]at hr;cases hr
 |some m=>
  rw[hc]at hr
  have h1:cut cells (i * c) c=Option.some ((cells.drop (i * c)).take c):=ZY hle
  exact zDk a hx (zDH h1 hc) hn hr
theorem y8 {α:Type} [Inhabited α] {c:Nat} {R:AHeap→List Value→α→Prop} {h:AHeap} {v:Value} {T:List α} {i:Nat} (s:SlR c R h v T) (hi:i<T.length):∃ cs,R h cs (T.getD i default)∧(∀ h',Ext h h'→Piece h' v (i * c) cs∧Piece (inC h') v (i * c) cs)∧IsSl v:=by
 have hs:=s.some hi
 obtain⟨cells,a,b⟩:=s
 refine⟨_,by simpa [List.getD,List.getElem?_eq_getElem hi]using b i T[i] (List.getElem?_eq_getElem hi),fun h' e=> ?_,hs⟩
 have a':=a.ext e
 exact⟨zEW a' hi,zEW (h:=inC h') a' hi⟩
theorem WU6.al2 {d1 d2 n:Nat} {z1 z2 cs1 cs2:List Value} {y1 y2:Operand} {v1 v2:Value} {u1 u2:List Nat} {hS:AHeap} (hm:hS.mark≤hS.n)
  (k:∀ H p1 p2,Ext hS H→OwnC hS H p1 cs1→OwnC hS H p2 cs2→K .normal ⟨(t.set d1 p1).set d2 p2,ds,rd⟩ H)
  (hy1:∀ a b,Ope ((t.set d1 a).set d2 b) y1 v1:=by intro a b;exact ze) (hy2:∀ a b,Ope ((t.set d1 a).set d2 b) y2 v2:=by intro a b;exact ze) (hv1:v1.cells=cs1.toArray:=by rfl) (hv2:v2.cells=cs2.toArray:=by rfl)
  (hz1:z1.length=n:=by rfl) (hz2:z2.length=n:=by rfl) (hc1:cs1.length=n:=by rfl) (hc2:cs2.length=n:=by rfl) (h1:zR cs1=true:=by rfl) (h2:zR cs2=true:=by rfl) (h12:Nat.beq d1 d2=false:=by rfl) (hm0:m=hS.mark:=by rfl):
  WU6 P tab m (fun g=>g=hS.n∨g=hS.n+1) [(⟨some d1,none,.alloc z1⟩,[]),(⟨some d2,none,.alloc z2⟩,[]),(⟨none,none,.store n (.tmp d1) y1⟩,u1),(⟨none,none,.store n (.tmp d2) y2⟩,u2)] hS.n ⟨t,ds,rd⟩ (inC (zB 2 hS)) (zCx K hS):=by
 subst hm0
 have hd12:¬d1=d2:=fun e=>by subst e;simp at h12
 rw[WU6,if_pos (show Nat.beq (zD (AOp.alloc z1)) 3=true from rfl)]
 refine⟨rfl,rfl,hm,rfl,.row z1 true 0,fun g=> .pointer (some ⟨g,0,none⟩),rfl,?_⟩
 rw[WU6,if_pos (show Nat.beq (zD (AOp.alloc z2)) 3=true from rfl)]
 refine⟨rfl,rfl,by show hS.mark≤hS.n+1;omega,rfl,.row z2 true 0,fun g=> .pointer (some ⟨g,0,none⟩),rfl,?_⟩
 generalize hH2:(inC ((inC (inC (zB 2 hS))).lay hS.n (.row z1 true 0))).lay (hS.n+1) (.row z2 true 0)=H2
 have n2:H2.n=hS.n+2:=by rw[←hH2];rfl
 have get2:∀ c,H2.get c=if c=hS.n+1 then some (.row z2 true 0) else if c=hS.n then some (.row z1 true 0) else hS.get c:=fun c=>by
  rw[←hH2]
  refine(zV _ _ _ _).trans ?_
  split
  ·rfl
  ·exact zV _ _ _ _
 have store:∀ (X:AHeap) (g:Nat) (z cs:List Value),X.get g=some (.row z true 0)→z.length=n→cs.length=n→zR cs=true→zU (inC X) ⟨g,0,none⟩ cs=some ((inC X).set g (.row cs true 0)):=fun X g z cs hg hz hc h1=>by
  have hg':(inC X).get g=some (.row z true 0):=hg
  have h2:Nat.ble (0+cs.length) z.length=true:=Nat.ble_eq_true_of_le (by omega)
  have h3:Nat.ble 0 0=true:=rfl
  have h4:zX z 0 cs=cs:=by simp[zX,hz,hc]
  simp only[zU,hg',h2,h3,h1,h4,Option.isNone_none,Bool.and_self,cond_true]
 have e1:∀ a b,ev ((t.set d1 a).set d2 b) (.tmp d1)=a:=fun a b=>by simp only[ev,yC,if_neg hd12,if_true]
 have e2:∀ a b,ev ((t.set d1 a).set d2 b) (.tmp d2)=b:=fun a b=>by simp only[ev,yC,if_true]
 have y1e:∀ a b,ev ((t.set d1 a).set d2 b) y1=v1:=hy1
 have y2e:∀ a b,ev ((t.set d1 a).set d2 b) y2=v2:=hy2
 rw[WU6,if_neg (show ¬Nat.beq (zD (AOp.store n (.tmp d1) y1)) 3=true from Bool.noConfusion)]
 refine WO.op0 undef ((inC H2).set hS.n (.row cs1 true 0)) rfl (by
  simp only[val,aop,e1,y1e,hv1,List.size_toArray,hc1,Nat.beq_refl,store H2 hS.n z1 cs1 (by rw[get2,if_neg (by omega),if_pos rfl]) hz1 hc1 h1,Option.map_some,cond_true]) ?_
 refine WO.nil ⟨fun c hc=> ?_,.inr ⟨rfl,fun c hc=> ?_⟩,fun c hc=>(by cases hc),?_⟩
 ·have hc:c∈(inC H2).log hS.n:=hc
  rcases yO hc with rfl|h
  ·exact hm
  ·cases h
 ·have hc:c∈(inC H2).log hS.n:=hc
  rcases yO hc with rfl|h
  ·exact .inl rfl
  ·cases h
 generalize hH3:(inC H2).set hS.n (.row cs1 true 0)=H3
 have n3:H3.n=hS.n+2:=by rw[←hH3];exact n2
 have get3:∀ c,H3.get c=if c=hS.n then some (.row cs1 true 0) else H2.get c:=fun c=>by rw[←hH3];exact zM _ _ _ _
 rw[WU6,if_neg (show ¬Nat.beq (zD (AOp.store n (.tmp d2) y2)) 3=true from Bool.noConfusion)]
 refine WO.op0 undef ((inC H3).set (hS.n+1) (.row cs2 true 0)) rfl (by
  simp only[val,aop,e2,y2e,hv2,List.size_toArray,hc2,Nat.beq_refl,store H3 (hS.n+1) z2 cs2 (by rw[get3,if_neg (by omega),get2,if_pos rfl]) hz2 hc2 h2,Option.map_some,cond_true]) ?_
 refine WO.nil ⟨fun c hc=> ?_,.inr ⟨rfl,fun c hc=> ?_⟩,fun c hc=>(by cases hc),?_⟩
 ·have hc:c∈(inC H3).log (hS.n+1):=hc
  rcases yO hc with rfl|h
  ·omega
  ·cases h
 ·have hc:c∈(inC H3).log (hS.n+1):=hc
  rcases yO hc with rfl|h
  ·exact .inr rfl
  ·cases h
 generalize hH4:outC hS ((inC H3).set (hS.n+1) (.row cs2 true 0))=H4
 have n4:H4.n=hS.n+2:=by rw[←hH4];exact n3
 have get4:∀ c,H4.get c=if c=hS.n+1 then some (.row cs2 true 0) else if c=hS.n then some (.row cs1 true 0) else hS.get c:=fun c=>by
  rw[←hH4]
  refine(zM (inC H3) _ _ _).trans ?_
  split
  ·rfl
  ·rename_i hne
   refine(get3 c).trans ?_
   split
   ·rfl
   ·rename_i hne2
    rw[get2,if_neg hne,if_neg hne2]
 show K .normal _ _
 rw[hH4]
 refine k H4 (.pointer (some ⟨hS.n,0,none⟩)) (.pointer (some ⟨hS.n+1,0,none⟩)) ⟨by omega,fun c hc=>by rw[get4,if_neg (by omega),if_neg (by omega)],fun w c hc=> ?_,?_,fun hmk=> ?_⟩ ⟨hS.n,Nat.le_refl _,by omega,rfl,by rw[get4,if_neg (by omega),if_pos rfl]⟩ ⟨hS.n+1,by omega,by omega,rfl,by rw[get4,if_pos rfl]⟩
 ·rw[get4,if_neg (by omega),if_neg (by omega)];exact w c (by omega)
 ·rw[←hH4];rfl
 ·rw[←hH4];rfl
def RBo (_:AHeap) (cs:List Value) (b:Bool):Prop:=cs=[.bool b]
abbrev SlBo (h:AHeap) (v:Value) (l:List Bool):Prop:=SlR 1 RBo h v l
def OwnBo (h0 h:AHeap) (v:Value) (l:List Bool):Prop:=∃ g,h0.n≤g∧g<h.n∧v= .slice (some ⟨g,0,none⟩) l.length 1∧h.get g=some (.row (l.map .bool) true 0)
theorem OwnBo.ext {h0 h h' v l} (o:OwnBo h0 h v l) (e:Ext h h'):OwnBo h0 h' v l:=by
 obtain⟨g,a,b,c,d⟩:=o;exact⟨g,a,Nat.lt_of_lt_of_le b e.n,c,(e.get g b).trans d⟩
theorem OwnBo.since {h0 h1 h v l} (o:OwnBo h1 h v l) (e:Ext h0 h1):OwnBo h0 h v l:=by
 obtain⟨g,a,b⟩:=o;exact⟨g,Nat.le_trans e.n a,b⟩
theorem OwnBo.sl {h0 h v l} (o:OwnBo h0 h v l):SlBo h v l:=by
 obtain⟨g,a,b,rfl,d⟩:=o
 refine⟨l.map .bool,SlC.own (own:=true) (lo:=0) b d (by simp),fun i x hx=> ?_⟩
 obtain⟨hi,e⟩:=List.getElem?_eq_some_iff.1 hx
 show ((l.map Value.bool).drop (i * 1)).take 1=_
 rw[Nat.mul_one,List.drop_eq_getElem_cons (by simpa using hi)]
 simp[e]
end
end Go.Am
namespace Go.Am
section
variable {P:Program} {tab:Tab} {t:Trie Value} {h:AHeap} {ds:List Deferred} {rd:Option Nat} {l:List AOper} {Q:AFr→AHeap→Prop}
theorem WO.apRw {α:Type} {c b d1 d2:Nat} {R:AHeap→List Value→α→Prop} {hB:AHeap} {v w:Value} {xs:List α} {cs zero:List Value} (a:α) (Dn:Nat→Prop) {x y:Operand} (o:OwnR c R b h v xs) (e0:Ext hB h) (hb:hB.n≤b) (hbn:b≤h.n) (hc0:0<c) (hl:xs.length≤100000)
  (d:Dep R h cs a Dn) (hD:∀ k,Dn k→b≤k∧k<h.n) (hv:∀ g n k,v= .slice (some ⟨g,0,none⟩) n k→¬Dn g)
  (k:∀ v' h' lit,Ext hB h'→OwnR c R b h' v' (xs++[a])→h.n≤h'.n→(∀ k,k<h.n→(∀ n k',v≠ .slice (some ⟨k,0,none⟩) n k')→h'.get k=h.get k)→(∀ k∈h'.wr,k∈h.wr∨b≤k)→WO P tab l ⟨(t.set d1 lit).set d2 v',ds,rd⟩ h' Q)
  (hx:Ope t x w:=by exact ze) (hw:w.cells=cs.toArray:=by rfl) (hc:cs.length=c:=by rfl) (h1:zR cs=true:=by rfl) (hz:zero.length=c:=by rfl) (hy:∀ u,Ope (t.set d1 u) y v:=by intro u;exact ze):
  WO P tab (⟨some d1,none,.buildSlice 1 c zero [(0,c,x)]⟩::⟨some d2,none,.append c y (.tmp d1)⟩::l) ⟨t,ds,rd⟩ h Q:=by
 have hx:ev t x=w:=hx
 refine WO.op (.slice (some ⟨h.n,0,none⟩) 1 c) (h.push (.row cs true 0)) rfl (by
  simp only[aop,zv,List.map_cons,List.map_nil,hx,fill_one hw hc hz,Option.map_some];rfl) ?_
 obtain⟨v',H',q1,q2,q3,q4,q5,q6,q7,q8,q9⟩:=zHO (H:=h.push (.row cs true 0)) (gl:=h.n) o hc hc0 h1 hl hbn d hD hv (Nat.le_succ _) (Nat.lt_succ_self _) (fun k hk=>by rw[zY,if_neg (by omega)]) (zt _ _)
 have hyv:ev (t.set d1 (.slice (some ⟨h.n,0,none⟩) 1 c)) y=v:=hy _
 have e1:ev (t.set d1 (.slice (some ⟨h.n,0,none⟩) 1 c)) (.tmp d1)= .slice (some ⟨h.n,0,none⟩) 1 c:=by simp only[ev,yC,if_true]
 refine WO.op v' H' rfl (by simp only[aop,hyv,e1,q1]) (k v' H' _ ?_ q2 (by rw[q3];show h.n≤h.n+1+1;omega) (fun k hk hvk=> ?_) q6)
 ·have hvb:∀ k,k<hB.n→∀ n k',v≠ .slice (some ⟨k,0,none⟩) n k':=fun k hk n k' e=>by
   rcases o with ⟨e2,_⟩|⟨g,_,_,g1,_,e2,_⟩
   ·rw[e2]at e;cases e
   ·rw[e2]at e;cases e;omega
  refine⟨by rw[q3];show hB.n≤h.n+1+1;have:=e0.n;omega,fun k hk=> ?_,fun w=>q8 ?_,q5.trans e0.mark,fun hm=> ?_⟩
  ·have:=e0.n
   rw[q4 k (by show k<h.n+1;omega) (hvb k hk),zY,if_neg (by omega)];exact e0.get k hk
  ·intro k hk
   have hk:h.n+1≤k:=hk
   rw[zY,if_neg (by omega)];exact e0.wf w k (by omega)
  ·rw[q7 (by show h.mark≤b;rw[e0.mark];omega)];exact e0.wr hm
 ·rw[q4 k (by show k<h.n+1;omega) hvk,zY,if_neg (by omega)]
theorem WO.stC0w {x y:Operand} {p v:Value} {cells cs:List Value} {n:Nat} {h0:AHeap} (o:OwnC h0 h p cells) (e0:Ext h0 h) (k:∀ h',Ext h0 h'→OwnC h0 h' p cs→UpdC p h h'→(∀ k∈h'.wr,k∈h.wr∨h0.n≤k)→WO P tab l ⟨t,ds,rd⟩ h' Q)
  (hx:Ope t x p:=by exact ze) (hy:Ope t y v:=by exact ze) (hv:v.cells=cs.toArray:=by rfl) (hn:cs.length=n:=by rfl) (hl:cells.length=n:=by rfl) (h1:zR cs=true:=by rfl):WO P tab (⟨none,none,.store n x y⟩::l) ⟨t,ds,rd⟩ h Q:=by
 obtain⟨g,g1,g2,rfl,g3⟩:=o
 have hx:ev t x= .pointer (some ⟨g,0,none⟩):=hx
 have hy:ev t y=v:=hy
 have e:zX cells 0 cs=cs:=by simp[zX,hn,hl]
 have hst:zU h ⟨g,0,none⟩ cs=some (h.set g (.row cs true 0)):=by
  have h2:Nat.ble (0+cs.length) cells.length=true:=Nat.ble_eq_true_of_le (by omega)
  have h0:Nat.ble 0 0=true:=rfl
  simp only[zU,g3,h2,h0,h1,Bool.and_self,e]
  rfl
 have hnn:Nat.beq cs.length n=true:=by rw[hn];exact Nat.beq_refl _
 refine WO.op0 undef (h.set g (.row cs true 0)) rfl ?_ (k _ (e0.set g1 g2 _) ⟨g,g1,g2,rfl,by rw[zM,if_pos rfl]⟩ ⟨Nat.le_refl _,fun k _ hk=> ?_⟩ fun k hk=> ?_)
 ·simp only[aop,hx,hy,hv,List.size_toArray,hnn,hst,Option.map_some,cond_true]
 ·rw[zM,if_neg (fun e=>hk (by rw[e]))]
 ·have hk:k∈h.log g:=hk
  rcases yO hk with rfl|h
  ·exact .inr g1
  ·exact .inl h
theorem WO.apNw {d:Nat} {x y:Operand} {v w:Value} {xs ys:List Int} {h0:AHeap} (o:OwnN h0 h v xs) (s:SlI h w ys) (e0:Ext h0 h) (hne:ys≠[]) (hr:xs.length+ys.length≤4294967296)
  (k:∀ v' h',Ext h0 h'→OwnN h0 h' v' (xs++ys)→Upd v h h'→(∀ k∈h'.wr,k∈h.wr∨h0.n≤k)→(∀ g n c,v'= .slice (some ⟨g,0,none⟩) n c→h.n≤g)→WO P tab l ⟨t.set d v',ds,rd⟩ h' Q)
  (hx:Ope t x v:=by exact ze) (hy:Ope t y w:=by exact ze):WO P tab (⟨some d,none,.append 1 x y⟩::l) ⟨t,ds,rd⟩ h Q:=by
 have hx:ev t x=v:=hx
 have hy:ev t y=w:=hy
 have hsrc:=zAV s
 have hroom:room=4294967296:=rfl
 obtain⟨z,zs,rfl⟩:∃ z zs,ys=z::zs:=by
  cases ys with
  |nil=>exact absurd rfl hne
  |cons z zs=>exact⟨z,zs,rfl⟩
 have hone:zR (I z::zs.map I)=true:=zGx (z::zs)
 have hlen:(I z::zs.map I).length / 1=(z::zs).length:=by simp
 rcases o with ⟨rfl,rfl⟩|⟨g,g1,g2,rfl,g3⟩
 ·have h1:Nat.ble (z::zs).length room=true:=Nat.ble_eq_true_of_le (by rw[hroom];simpa using hr)
  refine WO.op (.slice (some ⟨h.n,0,none⟩) (z::zs).length 1) (h.push (.row ((z::zs).map I) true 0)) rfl ?_ (k _ _ (e0.push _) (.inr ⟨h.n,e0.n,by simp[AHeap.push],rfl,zt _ _⟩) ⟨Nat.le_succ _,fun k hk _=> ?_⟩ (fun k hk=> .inl hk) fun g n c e=>by cases e;exact Nat.le_refl _)
  ·simp only[aop,hx,hy,yh,hsrc,List.map_cons,hone,hlen,h1,Bool.not_true,cond_true,cond_false]
   rfl
  ·rw[zY,if_neg (by omega)]
 ·have h1:Nat.ble (xs.length+(z::zs).length) room=true:=Nat.ble_eq_true_of_le (by rw[hroom];exact hr)
  have h2:cut (xs.map I) 0 (xs.length * 1)=some (xs.map I):=by rw[ZY (by simp)];simp[List.take_of_length_le]
  have hn:(h.kill g).n=h.n:=rfl
  have h3:Nat.ble 0 (0+xs.length * 1)=true:=Nat.ble_eq_true_of_le (Nat.zero_le _)
  refine WO.op (.slice (some ⟨h.n,0,none⟩) (xs.length+(z::zs).length) 1) ((h.kill g).push (.row (xs.map I++(z::zs).map I) true (0 - 0))) rfl ?_
   (k _ _ ((e0.kill g1).push _) (.inr ⟨h.n,e0.n,by simp[AHeap.push,AHeap.kill],by simp,?_⟩) ⟨Nat.le_succ _,fun k hk hv=> ?_⟩ (fun k hk=> ?_) fun g n c e=>by cases e;exact Nat.le_refl _)
  ·simp only[aop,hx,hy,yh,hsrc,List.map_cons,hone,hlen,h1,g3,h2,h3,Bool.not_true,cond_true,cond_false]
   rfl
  ·have:=zt (h.kill g) (.row (xs.map I++(z::zs).map I) true (0 - 0))
   rw[hn]at this
   rw[this];simp
  ·rw[zY,if_neg (by rw[hn];omega),yo,if_neg (fun e=>hv _ _ _ rfl e.symm)]
  ·have hk:k∈h.log g:=hk
   rcases yO hk with rfl|h
   ·exact .inr g1
   ·exact .inl h
end
section
variable {P:Program} {tab:Tab} {m N0:Nat} {l:List (AOper×List Nat)} {o:AOper} {g:Nat} {cl:Bool} {fr:AFr} {h h0 h':AHeap} {Q:AFr→AHeap→Prop} {K:AExit→AFr→AHeap→Prop} {x:AOper×List Nat} {t:Trie Value}
theorem zF3 (hw:∀ k∈h'.wr,m≤k) (hn:h.n≤h'.n) (hx:K .normal fr (outC h0 h')):uK2 P tab m N0 [] t o (inC h) [] g cl (zCx K h0) fr h':=⟨⟨hw,hn,.inl rfl⟩,hx⟩
theorem uK2_wl (hw:∀ k∈h'.wr,m≤k) (hn:h.n≤h'.n) (hx:∀ cl',WU2 P tab m N0 (x::l) g cl' fr (inC h') Q):uK2 P tab m N0 [] t o (inC h) (x::l) g cl Q fr h':=⟨⟨hw,hn,.inl rfl⟩,by
 have:=hx (cl&&h'.wr.isEmpty)
 obtain⟨y,un⟩:=x
 unfold WU2 at this ⊢
 exact this⟩
theorem zIB {j n:Nat} {d:Option Nat} {gd:Option (Nat×Bool)} {agg:Bool} {x:Operand} {v:Value} {un:List Nat} (hv:∃ a n k,v= .slice (some a) n k∧a.block<N0) (hx:WU2 P tab m N0 l g true fr (inC h) Q) (hr:Ope t x (zq v j):=by exact ze):
  uK2 P tab m N0 un t ⟨d,gd,.load agg n x⟩ (inC h) l g true Q fr (inC h):=by
 obtain⟨a,n',k',rfl,hb⟩:=hv
 refine zEK (fun k hk=> ?_) hx
 unfold Ope zq at hr
 cases hw:zK t gd with
 |false=>simp only[zT,hw,cond_false]at hk;cases hk
 |true=>
  simp only[zT,hw,cond_true,hr,Option.some.injEq]at hk
  omega
theorem uK2_gT {j n:Nat} {b:Bool} {d:Option Nat} {agg:Bool} {x:Operand} {un:List Nat} (hx:WU2 P tab m N0 l g true fr (inC h) Q) (s:Slot t j (.bool b):=by exact YF) (hb:b=false:=by exact zAS):
  uK2 P tab m N0 un t ⟨d,some (j,true),.load agg n x⟩ (inC h) l g true Q fr (inC h):=by
 refine zEK (fun k hk=> ?_) hx
 unfold Slot at s
 subst hb
 have hw:zK t (some (j,true))=false:=by simp only[zK,s];rfl
 simp only[zT,hw,cond_false]at hk;cases hk
theorem uK2_gF {j n:Nat} {b:Bool} {d:Option Nat} {agg:Bool} {x:Operand} {un:List Nat} (hx:WU2 P tab m N0 l g true fr (inC h) Q) (s:Slot t j (.bool b):=by exact YF) (hb:b=true:=by exact zAS):
  uK2 P tab m N0 un t ⟨d,some (j,false),.load agg n x⟩ (inC h) l g true Q fr (inC h):=by
 refine zEK (fun k hk=> ?_) hx
 unfold Slot at s
 subst hb
 have hw:zK t (some (j,false))=false:=by simp only[zK,s];rfl
 simp only[zT,hw,cond_false]at hk;cases hk
theorem uK2_gU {j n:Nat} {want:Bool} {d:Option Nat} {agg:Bool} {x:Operand} {un:List Nat} (hx:WU2 P tab m N0 l g true fr (inC h) Q) (s:Slot t j undef:=by exact YF):
  uK2 P tab m N0 un t ⟨d,some (j,want),.load agg n x⟩ (inC h) l g true Q fr (inC h):=by
 refine zEK (fun k hk=> ?_) hx
 unfold Slot at s
 have hw:zK t (some (j,want))=false:=by simp only[zK,s];rfl
 simp only[zT,hw,cond_false]at hk;cases hk
end
theorem Y5 {α:Type} {c i:Nat} {R:AHeap→List Value→α→Prop} {h:AHeap} {v:Value} {l:List α} (s:SlR c R h v l) (hl:0<l.length) (hi:i≤l.length):∃ r,Yr c v (some i) none none=some r∧SlR c R h r (l.drop i):=by
 obtain⟨cells,⟨h1,⟨h2,_⟩|⟨g,off,row,rfl,h3,h4,h5⟩⟩,hR⟩:=s
 ·omega
 have hmul:i * c≤l.length * c:=Nat.mul_le_mul_right _ hi
 have hlen:(l.drop i).length=l.length - i:=List.length_drop ..
 have hsub:(l.length - i) * c=l.length * c - i * c:=Nat.sub_mul ..
 refine⟨.slice (some ⟨g,off+i * c,none⟩) (l.length - i) c,?_,cells.drop (i * c),⟨by rw[List.length_drop,hlen,hsub];omega,.inr ⟨g,off+i * c,row,by rw[hlen],h3,?_,h5⟩⟩,fun j a ha=> ?_⟩
 ·have b1:Nat.ble i l.length=true:=Nat.ble_eq_true_of_le hi
  have b2:Nat.ble l.length l.length=true:=Nat.ble_eq_true_of_le (Nat.le_refl _)
  simp only[Yr,Option.getD_none,Option.getD_some,b1,b2,Option.isNone_none,Bool.and_self,cond_true,Nat.beq_refl]
 ·rw[hlen,hsub]
  obtain⟨c1,c2⟩:=zDa h4
  rw[ZY (by omega),c2,List.drop_take,List.drop_drop]
 ·have hj:j<l.length - i:=by have:=(List.getElem?_eq_some_iff.1 ha).1;omega
  have hja:l[i+j]?=some a:=by rw[List.getElem?_drop]at ha;exact ha
  have:=hR (i+j) a hja
  rw[List.drop_drop,show i * c+j * c=(i+j) * c from (Nat.add_mul ..).symm]
  exact this
section
variable {α:Type} {c b:Nat} {R:AHeap→List Value→α→Prop}
variable {P:Program} {tab:Tab} {t:Trie Value} {h:AHeap} {ds:List Deferred} {rd:Option Nat} {l:List AOper} {Q:AFr→AHeap→Prop}
end
end Go.Am
namespace Go.Am
theorem zDt {l cs:List Value} {k:Nat} (h:k+cs.length≤l.length) (m:Nat):(zX l k cs)[m]?=if m<k then l[m]? else if m<k+cs.length then cs[m - k]? else l[m]?:=by
 unfold zX
 by_cases h1:m<k
 ·rw[if_pos h1,List.append_assoc,List.getElem?_append_left (by rw[List.length_take];omega),List.getElem?_take,if_pos h1]
 ·rw[if_neg h1,List.append_assoc,List.getElem?_append_right (by rw[List.length_take];omega),List.length_take,Nat.min_eq_left (by omega)]
  by_cases h2:m<k+cs.length
  ·rw[if_pos h2,List.getElem?_append_left (by omega)]
  ·rw[if_neg h2,List.getElem?_append_right (by omega),List.getElem?_drop]
   congr 1;omega
theorem zI7 {l cs:List Value} {k:Nat} (h:k+cs.length≤l.length):(zX l k cs).length=l.length:=by
 unfold zX;simp only[List.length_append,List.length_take,List.length_drop];omega
theorem zCL {l:List Value} {a c m:Nat}:((l.drop a).take c)[m]?=if m<c then l[a+m]? else none:=by
 rw[List.getElem?_take]
 split
 ·rw[List.getElem?_drop]
 ·rfl
theorem zFq {cells cs:List Value} {n c i j off:Nat} (hl:cells.length=n * c) (hi:i<n) (hj:j<n) (ho:off+cs.length≤c):
  ((zX cells (i * c+off) cs).drop (j * c)).take c=if j=i then zX ((cells.drop (i * c)).take c) off cs else (cells.drop (j * c)).take c:=by
 have hic:i * c+c≤n * c:=by rw[←Nat.succ_mul];exact Nat.mul_le_mul_right _ hi
 have hjc:j * c+c≤n * c:=by rw[←Nat.succ_mul];exact Nat.mul_le_mul_right _ hj
 refine List.ext_getElem? fun m=> ?_
 rw[zCL,zDt (by omega)]
 by_cases e:j=i
 ·subst e
  rw[if_pos rfl,zDt (by rw[List.length_take,List.length_drop];omega),zCL]
  by_cases h1:m<c
  ·rw[if_pos h1,if_pos h1]
   by_cases h2:m<off
   ·rw[if_pos (show j * c+m<j * c+off by omega),if_pos h2]
   ·rw[if_neg (show ¬j * c+m<j * c+off by omega),if_neg h2]
    by_cases h3:m<off+cs.length
    ·rw[if_pos (show j * c+m<j * c+off+cs.length by omega),if_pos h3];congr 1;omega
    ·rw[if_neg (show ¬j * c+m<j * c+off+cs.length by omega),if_neg h3]
  ·rw[if_neg h1,if_neg h1,if_neg (by omega),if_neg (by omega)]
 ·rw[if_neg e,zCL]
  by_cases h1:m<c
  ·rw[if_pos h1,if_pos h1]
   rcases Nat.lt_or_gt_of_ne e with h|h
   ·have:j * c+c≤i * c:=by rw[←Nat.succ_mul];exact Nat.mul_le_mul_right _ h
    rw[if_pos (show j * c+m<i * c+off by omega)]
   ·have:i * c+c≤j * c:=by rw[←Nat.succ_mul];exact Nat.mul_le_mul_right _ h
    rw[if_neg (show ¬j * c+m<i * c+off by omega),if_neg (show ¬j * c+m<i * c+off+cs.length by omega)]
  ·rw[if_neg h1,if_neg h1]
section
variable {α:Type} [Inhabited α] {c b:Nat} {R:AHeap→List Value→α→Prop} {h:AHeap} {v:Value} {xs:List α}
theorem zIL {i off:Nat} {cs:List Value} {a:α} (o:OwnR c R b h v xs) (hi:i<xs.length) (ho:off+cs.length≤c) (h1:zR cs=true) (hR:∀ old hx,R h old (xs.getD i default)→old.length=c→R hx (zX old off cs) a):
  ∃ g row,b≤g∧g<h.n∧v= .slice (some ⟨g,0,none⟩) xs.length c∧zU h ⟨g,i * c+off,none⟩ cs=some (h.set g (.row row true 0))∧∀ H:AHeap,h.n≤H.n→H.get g=some (.row row true 0)→(∀ k,k<h.n→k≠g→H.get k=h.get k)→OwnR c R b H v (xs.set i a):=by
 rcases o with ⟨_,rfl⟩|⟨g,cells,D,g1,g2,rfl,g4,g5,g6,g7,g8⟩
 ·simp at hi
 have hic:i * c+c≤xs.length * c:=by rw[←Nat.succ_mul];exact Nat.mul_le_mul_right _ hi
 refine⟨g,zX cells (i * c+off) cs,g1,g2,rfl,?_,fun H hn hg hk=> ?_⟩
 ·have h2:Nat.ble (i * c+off+cs.length) cells.length=true:=Nat.ble_eq_true_of_le (by omega)
  have h3:Nat.ble 0 (i * c+off)=true:=Nat.ble_eq_true_of_le (Nat.zero_le _)
  simp only[zU,g4,h2,h3,h1,Option.isNone_none,Bool.and_self,cond_true]
 ·refine .inr ⟨g,_,D,g1,Nat.lt_of_lt_of_le g2 hn,by rw[List.length_set],hg,by rw[zI7 (by omega),List.length_set];exact g5,g6,fun k hd=>⟨(g7 k hd).1,Nat.lt_of_lt_of_le (g7 k hd).2 hn⟩,fun j x hx=> ?_⟩
  have hj:j<xs.length:=by have:=(List.getElem?_eq_some_iff.1 hx).1;rwa [List.length_set]at this
  have hkk:∀ k o,D k→h.get k=some o→H.get k=some o:=fun k o hd e=>(hk k (g7 k hd).2 (fun e2=>g6 (e2▸hd))).trans e
  rw[zFq g5 hi hj ho]
  by_cases e:j=i
  ·subst e
   rw[if_pos rfl]
   rw[List.getElem?_set_self hi]at hx
   cases hx
   intro hx2 _ _
   refine hR _ _ (?_:R h _ _) ?_
   ·have:=(g8 j xs[j] (List.getElem?_eq_getElem hi)).self
    rw[List.getD_eq_getElem?_getD,List.getElem?_eq_getElem hi];exact this
   ·rw[List.length_take,List.length_drop];omega
  ·rw[if_neg e]
   rw[List.getElem?_set_ne (fun h=>e h.symm)]at hx
   exact(g8 j x hx).mono (fun _ h=>h) hkk hn
variable {P:Program} {tab:Tab} {t:Trie Value} {ds:List Deferred} {rd:Option Nat} {l:List AOper} {Q:AFr→AHeap→Prop}
theorem WO.stR {hB:AHeap} {i off n:Nat} {cs:List Value} {x y:Operand} {u:Value} (a:α) (o:OwnR c R b h v xs) (e0:Ext hB h) (hb:hB.n≤b) (hi:i<xs.length) (hR:∀ old hx,R h old (xs.getD i default)→old.length=c→R hx (zX old off cs) a)
  (k:∀ h',Ext hB h'→OwnR c R b h' v (xs.set i a)→h'.n=h.n→(∀ k,k<h.n→(∀ n k',v≠ .slice (some ⟨k,0,none⟩) n k')→h'.get k=h.get k)→(∀ k∈h'.wr,k∈h.wr∨b≤k)→WO P tab l ⟨t,ds,rd⟩ h' Q)
  (hx:Ope t x (zq v (i * c+off)):=by exact ze) (hy:Ope t y u:=by exact ze) (hu:u.cells=cs.toArray:=by rfl) (hn:cs.length=n:=by rfl) (ho:off+cs.length≤c:=by decide) (h1:zR cs=true:=by rfl):
  WO P tab (⟨none,none,.store n x y⟩::l) ⟨t,ds,rd⟩ h Q:=by
 obtain⟨g,row,g1,g2,rfl,hst,hown⟩:=zIL o hi ho h1 hR
 have hx:ev t x= .pointer (some ⟨g,0+(i * c+off),none⟩):=hx
 rw[Nat.zero_add]at hx
 have hy:ev t y=u:=hy
 have hnn:Nat.beq cs.length n=true:=by rw[hn];exact Nat.beq_refl _
 refine WO.op0 undef (h.set g (.row row true 0)) rfl ?_ (k _ (e0.set (Nat.le_trans hb g1) g2 _) (hown _ (Nat.le_refl _) (by rw[zM,if_pos rfl]) (fun k _ hk=>by rw[zM,if_neg hk])) rfl (fun k hk hv=> ?_) fun k hk=> ?_)
 ·simp only[aop,hx,hy,hu,List.size_toArray,hnn,hst,Option.map_some,cond_true]
 ·rw[zM,if_neg (fun e=>hv _ _ (by rw[e]))]
 ·have hk:k∈h.log g:=hk
  rcases yO hk with rfl|h
  ·exact .inr g1
  ·exact .inl h
theorem WU2.stR {hB hS X:AHeap} {N0 m g:Nat} {cl:Bool} {i off n:Nat} {cs:List Value} {x y:Operand} {u:Value} {K:AExit→AFr→AHeap→Prop} (a:α) (o:OwnR c R b X v xs) (e0:Ext hB hS) (hm:hS.mark≤hB.n) (hX:outC hS X=hS) (hb:hB.n≤b) (hi:i<xs.length) (hR:∀ old hx,R X old (xs.getD i default)→old.length=c→R hx (zX old off cs) a)
  (k:∀ h',Ext hB h'→OwnR c R b h' v (xs.set i a)→h'.n=hS.n→(∀ k,k<hS.n→(∀ n k',v≠ .slice (some ⟨k,0,none⟩) n k')→h'.get k=hS.get k)→K .normal ⟨t,ds,rd⟩ h')
  (hx:Ope t x (zq v (i * c+off)):=by exact ze) (hy:Ope t y u:=by exact ze) (hu:u.cells=cs.toArray:=by rfl) (hn:cs.length=n:=by rfl) (ho:off+cs.length≤c:=by decide) (h1:zR cs=true:=by rfl) (hm0:m=hS.mark:=by rfl):
  WU2 P tab m N0 [(⟨none,none,.store n x y⟩,[])] g cl ⟨t,ds,rd⟩ (inC X) (zCx K hS):=by
 subst hm0
 obtain⟨q,row,q1,q2,rfl,hst,hown⟩:=zIL o hi ho h1 hR
 have hx:ev t x= .pointer (some ⟨q,0+(i * c+off),none⟩):=hx
 rw[Nat.zero_add]at hx
 have hy:ev t y=u:=hy
 have hnn:Nat.beq cs.length n=true:=by rw[hn];exact Nat.beq_refl _
 have gX:∀ c,X.get c=hS.get c:=fun c=>by have:=congrArg (fun h:AHeap=>h.get c) hX;exact this
 have nX:X.n=hS.n:=by have:=congrArg AHeap.n hX;exact this
 rw[WU2,if_neg (show ¬Nat.beq (zD (AOp.store n x y)) 3=true from Bool.noConfusion)]
 have hst':zU (inC (inC X)) ⟨q,i * c+off,none⟩ cs=some ((inC (inC X)).set q (.row row true 0)):=by
  have e1:(inC (inC X)).get q=X.get q:=rfl
  unfold zU at hst ⊢
  rw[e1]
  cases hq:X.get q with
  |none=>rw[hq]at hst;cases hst
  |some o=>
   rw[hq]at hst
   cases o with
   |row cells own lo=>
    cases own with
    |false=>cases hst
    |true=>
     simp only at hst ⊢
     cases hbb:(Nat.ble (i * c+off+cs.length) cells.length&&Nat.ble lo (i * c+off)&&Option.isNone (none:Option _)&&zR cs)with
     |false=>rw[hbb]at hst;cases hst
     |true=>
      rw[hbb]at hst
      simp only[cond_true,Option.some.injEq]at hst ⊢
      have:=congrArg (fun H:AHeap=>H.get q) hst
      simp only[zM,if_true,Option.some.injEq]at this
      rw[this]
   |_=>cases hst
 refine WO.op0 undef ((inC (inC X)).set q (.row row true 0)) rfl (by
  simp only[aop,hx,hy,hu,List.size_toArray,hnn,hst',Option.map_some,cond_true]) ?_
 refine WO.nil ⟨⟨fun k hk=> ?_,Nat.le_refl _,.inl rfl⟩,?_⟩
 ·have hk2:k∈(inC (inC X)).log q:=hk
  rcases yO hk2 with rfl|hk3
  ·omega
  ·cases hk3
 have get2:∀ k,(outC hS ((inC (inC X)).set q (.row row true 0))).get k=if k=q then some (.row row true 0) else hS.get k:=fun k=>by
  have e1:((inC (inC X)).set q (.row row true 0)).get k=if k=q then some (.row row true 0) else (inC (inC X)).get k:=zM ..
  refine e1.trans ?_
  split
  ·rfl
  ·exact gX k
 refine k (outC hS ((inC (inC X)).set q (.row row true 0))) ?_ (hown _ (Nat.le_refl _) (by rw[get2,if_pos rfl]) (fun k _ hk=>by rw[get2,if_neg hk,gX])) nX (fun c hc hv=>by rw[get2,if_neg (fun e=>hv _ _ (by rw[e]))])
 refine⟨by show hB.n≤X.n;rw[nX];exact e0.n,fun c hc=>by rw[get2,if_neg (by omega)];exact e0.get c hc,fun w c hc=> ?_,e0.mark,fun hmk=>e0.wr hmk⟩
 have hc:X.n≤c:=hc
 rw[get2,if_neg (by omega)];exact e0.wf w c (by omega)
end
section
variable {P:Program} {tab:Tab} {t:Trie Value} {h:AHeap} {ds:List Deferred} {rd:Option Nat} {l:List AOper} {Q:AFr→AHeap→Prop}
end
end Go.Am
namespace Go.Am
def setM (a b:Int):List (Int×Int)→List (Int×Int)
 |[]=>[(a,b)]
 |(k,v)::es=>if a == k then (k,b)::es else (k,v)::setM a b es
def zAz (a:Int):List (Int×Int)→List (Int×Int)
 |[]=>[]
 |(k,v)::es=>if a == k then es else (k,v)::zAz a es
theorem zEL {a b:Int}:∀ {es:List (Int×Int)},es.lookup a=none→setM a b es=es++[(a,b)]
 |[],_=>rfl
 |(k,v)::es,h=>by
  rw[List.lookup_cons]at h
  split at h
  ·cases h
  ·rename_i hk
   rw[setM,hk]
   simp only[Bool.false_eq_true,if_false,List.cons_append]
   rw[zEL h]
theorem zEM {a:Int}:∀ {es:List (Int×Int)},es.lookup a=none→zAz a es=es
 |[],_=>rfl
 |(k,v)::es,h=>by
  rw[List.lookup_cons]at h
  split at h
  ·cases h
  ·rename_i hk
   rw[zAz,hk]
   simp only[Bool.false_eq_true,if_false]
   rw[zEM h]
theorem zDs {n v:Int}:∀ {es':List MapEntry} {es:List (Int×Int)} (i:Nat),es'.map (fun e=>(e.key,e.val))=es.map (fun e=>(I e.1,I e.2))→es.lookup n=some v→
  ∃ j,ZK (I n) es' i=some (some (i+j,I v))∧(∀ b:Int,(ZN (I b) es' j).map (fun e=>(e.key,e.val))=(setM n b es).map fun e=>(I e.1,I e.2))∧(zAF es' j).map (fun e=>(e.key,e.val))=(zAz n es).map fun e=>(I e.1,I e.2)
 |[],[],_,_,hl=>by cases hl
 |[],_::_,_,h,_=>by cases h
 |_::_,[],_,h,_=>by cases h
 |e::es',(k,w)::es,i,h,hl=>by
  simp only[List.map_cons,List.cons.injEq,Prod.mk.injEq]at h
  rw[List.lookup_cons]at hl
  split at hl
  ·rename_i hk
   cases hl
   have hke:n=k:=eq_of_beq hk
   have:Yy (I n) e.key=some true:=by rw[h.1.1];simp only[Yy,if_true];rw[hk]
   refine⟨0,by simp only[ZK,this,h.1.2,Nat.add_zero],fun b=> ?_,?_⟩
   ·simp only[ZN,setM,hk,if_true,List.map_cons,h.1.1,h.2]
   ·simp only[zAF,zAz,hk,if_true,h.2]
  ·rename_i hk
   have:Yy (I n) e.key=some false:=by rw[h.1.1];simp only[Yy,if_true];rw[hk]
   obtain⟨j,hj,hs,hd⟩:=zDs (i+1) h.2 hl
   refine⟨j+1,by simp only[ZK,this,hj];congr 3;omega,fun b=> ?_,?_⟩
   ·simp only[ZN,setM,hk,Bool.false_eq_true,if_false,List.map_cons,h.1.1,h.1.2,hs b]
   ·simp only[zAF,zAz,hk,Bool.false_eq_true,if_false,List.map_cons,h.1.1,h.1.2,hd]
section
variable {P:Program} {tab:Tab} {t:Trie Value} {h h0:AHeap} {ds:List Deferred} {rd:Option Nat} {l:List AOper} {Q:AFr→AHeap→Prop}
theorem WO.upM {m kx vx:Operand} {mv:Value} {a b:Int} {es:List (Int×Int)} (o:OwnM h0 h mv es) (e0:Ext h0 h) (k:∀ h',Ext h0 h'→OwnM h0 h' mv (setM a b es)→UpdM mv h h'→WO P tab l ⟨t,ds,rd⟩ h' Q)
  (hm:Ope t m mv:=by exact ze) (hk:Ope t kx (I a):=by exact ze) (hv:Ope t vx (I b):=by exact ze):WO P tab (⟨none,none,.update m kx vx⟩::l) ⟨t,ds,rd⟩ h Q:=by
 have hm:ev t m=mv:=hm
 have hk:ev t kx=I a:=hk
 have hv:ev t vx=I b:=hv
 cases hl:es.lookup a with
 |none=>rw[zEL hl]at k;exact WO.updateNew hm hk hv o e0 hl k
 |some w=>
  obtain⟨g,c,es',g1,g2,rfl,g4,g5⟩:=o
  obtain⟨j,hj,hs,_⟩:=zDs 0 g5 hl
  rw[Nat.zero_add]at hj
  refine WO.op0 undef (h.set g (.map (ZN (I b) es' j) c)) rfl (by simp only[aop,hm,hk,hv,g4,hj]) (k _ (e0.set g1 g2 _) ⟨g,c,_,g1,g2,rfl,by rw[zM,if_pos rfl],hs b⟩
   ⟨Nat.le_refl _,fun q _ hq=>by rw[zM,if_neg (fun e=>hq (by rw[e]))]⟩)
theorem WO.dlM {m kx:Operand} {mv:Value} {a:Int} {es:List (Int×Int)} (o:OwnM h0 h mv es) (e0:Ext h0 h) (k:∀ h',Ext h0 h'→OwnM h0 h' mv (zAz a es)→UpdM mv h h'→WO P tab l ⟨t,ds,rd⟩ h' Q)
  (hm:Ope t m mv:=by exact ze) (hk:Ope t kx (I a):=by exact ze):WO P tab (⟨none,none,.delete m kx⟩::l) ⟨t,ds,rd⟩ h Q:=by
 have hm:ev t m=mv:=hm
 have hk:ev t kx=I a:=hk
 obtain⟨g,c,es',g1,g2,rfl,g4,g5⟩:=o
 cases hl:es.lookup a with
 |none=>
  refine WO.op0 (.tuple #[]) (h.set g (.map es' c)) rfl (by simp only[aop,hm,hk,g4,YO 0 g5 hl]) (k _ (e0.set g1 g2 _) ⟨g,c,_,g1,g2,rfl,by rw[zM,if_pos rfl],by rw[zEM hl];exact g5⟩
   ⟨Nat.le_refl _,fun q _ hq=>by rw[zM,if_neg (fun e=>hq (by rw[e]))]⟩)
 |some w=>
  obtain⟨j,hj,_,hd⟩:=zDs 0 g5 hl
  rw[Nat.zero_add]at hj
  refine WO.op0 (.tuple #[]) (h.set g (.map (zAF es' j) c)) rfl (by simp only[aop,hm,hk,g4,hj]) (k _ (e0.set g1 g2 _) ⟨g,c,_,g1,g2,rfl,by rw[zM,if_pos rfl],hd⟩
   ⟨Nat.le_refl _,fun q _ hq=>by rw[zM,if_neg (fun e=>hq (by rw[e]))]⟩)
theorem WO.clM {m:Operand} {mv:Value} {es:List (Int×Int)} (o:OwnM h0 h mv es) (e0:Ext h0 h) (k:∀ h',Ext h0 h'→OwnM h0 h' mv []→UpdM mv h h'→WO P tab l ⟨t,ds,rd⟩ h' Q)
  (hm:Ope t m mv:=by exact ze):WO P tab (⟨none,none,.clear m⟩::l) ⟨t,ds,rd⟩ h Q:=by
 have hm:ev t m=mv:=hm
 obtain⟨g,c,es',g1,g2,rfl,g4,g5⟩:=o
 exact WO.op0 (.tuple #[]) (h.set g (.map [] c)) rfl (by simp only[aop,hm,g4]) (k _ (e0.set g1 g2 _) ⟨g,c,_,g1,g2,rfl,by rw[zM,if_pos rfl],rfl⟩
  ⟨Nat.le_refl _,fun q _ hq=>by rw[zM,if_neg (fun e=>hq (by rw[e]))]⟩)
theorem WO.lkM {d:Nat} {m kx:Operand} {mv:Value} {a:Int} {z:Value} {es:List (Int×Int)} (o:OwnM h0 h mv es) (k:WO P tab l ⟨t.set d (match es.lookup a with|some v=> .tuple #[I v,.bool true]|none=> .tuple #[z,.bool false]),ds,rd⟩ h Q)
  (hm:Ope t m mv:=by exact ze) (hk:Ope t kx (I a):=by exact ze):WO P tab (⟨some d,none,.lookup true z m kx⟩::l) ⟨t,ds,rd⟩ h Q:=WO.lookup2 hm hk o k
theorem WO.lnM {d:Nat} {m:Operand} {mv:Value} {es:List (Int×Int)} (o:OwnM h0 h mv es) (k:WO P tab l ⟨t.set d (I es.length),ds,rd⟩ h Q) (hm:Ope t m mv:=by exact ze):WO P tab (⟨some d,none,.lenMap m⟩::l) ⟨t,ds,rd⟩ h Q:=by
 have hm:ev t m=mv:=hm
 obtain⟨g,c,es',g1,g2,rfl,g4,g5⟩:=o
 refine WO.op _ h rfl ?_ k
 have:es'.length=es.length:=by simpa using congrArg List.length g5
 simp only[aop,hm,g4,this]
end
theorem zFu {a b c:Int}:∀ {es:List (Int×Int)},(setM a b es).lookup c=if c=a then some b else es.lookup c
 |[]=>by
  rw[setM,List.lookup_cons]
  by_cases h:c=a
  ·subst h;simp
  ·rw[if_neg h,beq_eq_false_iff_ne.2 h]
 |(k,v)::es=>by
  unfold setM
  by_cases hk:a=k
  ·subst hk
   simp only[beq_self_eq_true,if_true,List.lookup_cons]
   by_cases h:c=a
   ·subst h;simp
   ·rw[if_neg h,beq_eq_false_iff_ne.2 h]
  ·rw[if_neg (by simpa using hk),List.lookup_cons,List.lookup_cons,zFu]
   by_cases h:c=k
   ·subst h
    have hca:¬c=a:=fun e=>hk e.symm
    simp[hca]
   ·rw[beq_eq_false_iff_ne.2 h]
def ZJ (es:List (Int×Int)):Prop:=(es.map (·.1)).Nodup
theorem look_mem {c:Int}:∀ {es:List (Int×Int)},es.lookup c≠none↔c∈es.map (·.1)
 |[]=>by simp
 |(k,v)::es=>by
  rw[List.lookup_cons,List.map_cons,List.mem_cons]
  by_cases h:c=k
  ·subst h;simp
  ·rw[beq_eq_false_iff_ne.2 h]
   exact look_mem.trans ⟨.inr,fun q=>q.resolve_left h⟩
theorem zCP {a b c:Int} (es:List (Int×Int)):c∈(setM a b es).map (·.1)↔c=a∨c∈es.map (·.1):=by
 rw[←look_mem,←look_mem,zFu]
 by_cases h:c=a
 ·rw[if_pos h];exact⟨fun _=> .inl h,fun _=>by simp⟩
 ·rw[if_neg h];exact⟨.inr,fun q=>q.resolve_left h⟩
theorem zCE {a b:Int}:∀ {es:List (Int×Int)},ZJ es→ZJ (setM a b es)
 |[],_=>by unfold ZJ setM;simp
 |(k,v)::es,h=>by
  unfold ZJ at *
  rw[List.map_cons,List.nodup_cons]at h
  unfold setM
  by_cases hk:a=k
  ·subst hk
   simp only[beq_self_eq_true,if_true,List.map_cons,List.nodup_cons];exact h
  ·rw[if_neg (by simpa using hk),List.map_cons,List.nodup_cons]
   exact⟨fun hm=>(zCP es).1 hm |>.elim (fun e=>hk e.symm) h.1,zCE h.2⟩
theorem zCM {a c:Int}:∀ {es:List (Int×Int)},ZJ es→(c∈(zAz a es).map (·.1)↔c≠a∧c∈es.map (·.1))
 |[],_=>by simp[zAz]
 |(k,v)::es,h=>by
  unfold ZJ at h
  rw[List.map_cons,List.nodup_cons]at h
  unfold zAz
  by_cases hk:a=k
  ·subst hk
   simp only[beq_self_eq_true,if_true,List.map_cons,List.mem_cons]
   constructor
   ·intro hm;exact⟨fun e=>by subst e;exact h.1 hm,.inr hm⟩
   ·rintro⟨h1,h2|h2⟩
    ·exact absurd h2 h1
    ·exact h2
  ·rw[if_neg (by simpa using hk),List.map_cons,List.mem_cons,List.map_cons,List.mem_cons,zCM h.2]
   constructor
   ·rintro(e|⟨h1,h2⟩)
    ·subst e;exact⟨fun e=>hk e.symm,.inl rfl⟩
    ·exact⟨h1,.inr h2⟩
   ·rintro⟨h1,h2|h2⟩
    ·exact .inl h2
    ·exact .inr ⟨h1,h2⟩
theorem zEJ {a:Int}:∀ {es:List (Int×Int)},ZJ es→ZJ (zAz a es)
 |[],_=>by unfold ZJ zAz;simp
 |(k,v)::es,h=>by
  have h0:=h
  unfold ZJ at h
  rw[List.map_cons,List.nodup_cons]at h
  unfold zAz
  by_cases hk:a=k
  ·subst hk
   simp only[beq_self_eq_true,if_true];exact h.2
  ·rw[if_neg (by simpa using hk)]
   unfold ZJ
   rw[List.map_cons,List.nodup_cons]
   exact⟨fun hm=>h.1 ((zCM h.2).1 hm).2,zEJ h.2⟩
end Go.Am
namespace Go.Am
section
variable {P:Program} {tab:Tab} {N0 m g:Nat} {cl:Bool} {t:Trie Value} {ds:List Deferred} {rd:Option Nat} {K:AExit→AFr→AHeap→Prop}
theorem WU2.alE {hS X:AHeap} {d n:Nat} {y:Operand} {v:Value} {zero cs:List Value} (eX:Ext (inC (zB 1 hS)) X) (hm:hS.mark≤hS.n) (k:∀ H p,Ext hS H→OwnC hS H p cs→K .normal ⟨t.set d p,ds,rd⟩ H)
  (hy:∀ p,Ope (t.set d p) y v:=by intro p;exact ze) (hv:v.cells=cs.toArray:=by rfl) (hz:zero.length=n:=by rfl) (hn:cs.length=n:=by rfl) (h1:zR cs=true:=by rfl) (hm0:m=hS.mark:=by rfl) (hg0:g=hS.n:=by rfl):
  WU2 P tab m N0 [(⟨some d,none,.alloc zero⟩,[]),(⟨none,none,.store n (.tmp d) y⟩,[])] g cl ⟨t,ds,rd⟩ (inC X) (zCx K hS):=by
 subst hm0 hg0
 have hlt:hS.n<X.n:=eX.n
 refine WU2.al2 hm hlt ?_ (hy _) hv hz hn h1
 have e6:=zGH (o:= .row zero true 0) (o':= .row cs true 0) (k:=0) eX
 have o6:=zGz (cs:=cs) (o:= .row zero true 0) eX
 exact k _ _ e6 o6
theorem WU2.mk {h:AHeap} {d:Nat} {op:AOp} {ob:AObj} {f:Nat→Value} {l:List (AOper×List Nat)} {Q:AFr→AHeap→Prop} (hm:m≤g) (hmade:yT t op=some (ob,f)) (hx:WU2 P tab m N0 l (g+1) false ⟨t.set d (f g),ds,rd⟩ ((inC h).lay g ob) Q) (hk:Nat.beq (zD op) 3=true:=by rfl):
  WU2 P tab m N0 ((⟨some d,none,op⟩,[])::l) g cl ⟨t,ds,rd⟩ (inC h) Q:=by
 rw[WU2,if_pos hk]
 exact⟨rfl,rfl,hm,ob,f,hmade,hx⟩
theorem WU2.inC {h:AHeap} {fr:AFr} {x:AOper×List Nat} {l:List (AOper×List Nat)} {Q:AFr→AHeap→Prop} (hx:WU2 P tab m N0 (x::l) g cl fr (Am.inC h) Q):WU2 P tab m N0 (x::l) g cl fr h Q:=by
 obtain⟨o,un⟩:=x
 unfold WU2 at hx ⊢
 exact hx
theorem lay_get (h:AHeap) (g:Nat) (o:AObj) (j:Nat):((Am.inC h).lay g o).get j=if j=g then some o else h.get j:=zV _ _ _ _
theorem WU2.mkG {X:AHeap} {d:Nat} {op:AOp} {ob:AObj} {f:Nat→Value} {x:AOper×List Nat} {l:List (AOper×List Nat)} {Q:AFr→AHeap→Prop} (hm:m≤g) (hmade:yT t op=some (ob,f))
  (k:∀ X',X'.n=X.n→(∀ j,X'.get j=if j=g then some ob else X.get j)→WU2 P tab m N0 (x::l) (g+1) false ⟨t.set d (f g),ds,rd⟩ (Am.inC X') Q) (hk:Nat.beq (zD op) 3=true):WU2 P tab m N0 ((⟨some d,none,op⟩,[])::x::l) g cl ⟨t,ds,rd⟩ (Am.inC X) Q:=
 WU2.mk hm hmade (WU2.inC (k _ rfl fun j=>lay_get X g ob j)) hk
theorem WU2.mkSl {X:AHeap} {d c n:Nat} {zero:List Value} {x y:Operand} {o:AOper×List Nat} {l:List (AOper×List Nat)} {Q:AFr→AHeap→Prop} (hm:m≤g) (hr:n≤100000)
  (k:∀ X',X'.n=X.n→(∀ j,X'.get j=if j=g then some (.row (zy zero n) true 0) else X.get j)→WU2 P tab m N0 (o::l) (g+1) false ⟨t.set d (.slice (some ⟨g,0,none⟩) n c),ds,rd⟩ (Am.inC X') Q) (hx:Ope t x (I (n:Int)):=by exact ze) (hy:Ope t y (I (n:Int)):=by exact ze):
  WU2 P tab m N0 ((⟨some d,none,.mkSlice c zero x y⟩,[])::o::l) g cl ⟨t,ds,rd⟩ (Am.inC X) Q:=by
 have hx:ev t x=I (n:Int):=hx
 have hy:ev t y=I (n:Int):=hy
 have hn:asN (I (n:Int))=some n:=rfl
 have h1:Nat.ble n room=true:=Nat.ble_eq_true_of_le (by have:room=4294967296:=rfl;omega)
 have h2:Nat.ble n n=true:=Nat.ble_eq_true_of_le (Nat.le_refl _)
 exact WU2.mkG (f:=fun g=> .slice (some ⟨g,0,none⟩) n c) hm (by simp only[yT,hx,hy,hn,h1,h2,Bool.and_self,cond_true]) k rfl
theorem WU2.mkMp {X:AHeap} {d:Nat} {o:AOper×List Nat} {l:List (AOper×List Nat)} {Q:AFr→AHeap→Prop} (hm:m≤g)
  (k:∀ X',X'.n=X.n→(∀ j,X'.get j=if j=g then some (.map [] 0) else X.get j)→WU2 P tab m N0 (o::l) (g+1) false ⟨t.set d (.map (some g)),ds,rd⟩ (Am.inC X') Q):
  WU2 P tab m N0 ((⟨some d,none,.mkMap⟩,[])::o::l) g cl ⟨t,ds,rd⟩ (Am.inC X) Q:=WU2.mkG (f:=fun g=> .map (some g)) hm rfl k rfl
theorem WU2.mkBx {X:AHeap} {d:Nat} {x:Operand} {v:Value} {cs:List Value} {o:AOper×List Nat} {l:List (AOper×List Nat)} {Q:AFr→AHeap→Prop} (hm:m≤g)
  (k:∀ X',X'.n=X.n→(∀ j,X'.get j=if j=g then some (.row cs true 0) else X.get j)→WU2 P tab m N0 (o::l) (g+1) false ⟨t.set d (.pointer (some ⟨g,0,none⟩)),ds,rd⟩ (Am.inC X') Q) (hx:Ope t x v:=by exact ze) (hv:v.cells.toList=cs:=by rfl):
  WU2 P tab m N0 ((⟨some d,none,.box x⟩,[])::o::l) g cl ⟨t,ds,rd⟩ (Am.inC X) Q:=by
 have hx:ev t x=v:=hx
 subst hv
 exact WU2.mkG (f:=fun g=> .pointer (some ⟨g,0,none⟩)) hm (by simp only[yT,hx]) k rfl
end
end Go.Am
