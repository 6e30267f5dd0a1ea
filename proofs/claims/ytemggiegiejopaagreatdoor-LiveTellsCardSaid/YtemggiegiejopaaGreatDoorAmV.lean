/- A part of the abstract machine for the model's programs and of the proof that what it yields the model's call yields (definitions, operations, runs, regions that draw their order); no statement of the seat is proved in this text. -/
import Derived.Test.YtemggiegiejopaaGreatDoorAmU
set_option linter.unusedVariables false
set_option linter.unusedSimpArgs false
namespace Go.Am
section
variable {P:Program} {tab:Tab}
def WU6 (P:Program) (tab:Tab) (m:Nat) (Bad:Nat→Prop):List (AOper×List Nat)→Nat→AFr→AHeap→(AFr→AHeap→Prop)→Prop
 |[],_,fr,h,Q=>Q fr h
 |(o,un)::l,g,fr,h,Q=>
  if Nat.beq (zH o.op) 3=true then
   un=[]∧zO fr.tm o.guard=true∧m≤g∧zX fr.tm o=none∧∃ ob f,yl fr.tm o.op=some (ob,f)∧WU6 P tab m Bad l (g+1) (val o.dst fr (f g)) ((inC h).lay g ob) Q
  else WO P tab [o] fr (inC h) fun fr' h'=>(∀ g∈h'.wr,m≤g)∧(un=[]∨(zX fr.tm o=none∧∀ g∈h'.wr,Bad g))∧(∀ g,zX fr.tm o=some g→¬Bad g)∧WU6 P tab m Bad l g fr' h' Q
theorem zIv {Bad:Nat→Prop} {un:List Nat} {t:Trie Value} {o:AOper} {h':AHeap} (hk:un=[]∨(zX t o=none∧∀ g∈h'.wr,Bad g)) (ws:List (Nat×Nat)) (bs:List (Nat×Nat)) {rs:List (Nat×Nat×Option (Nat×Nat×List Value))} (hr:∀ e∈rs,¬Bad e.2.1):
  ((match zX t o with
   |some g=>(ws.all fun x=> !(Nat.beq g x.2&&un.contains x.1))&&bs.all fun x=> !un.contains x.1||Nat.ble (g+1) x.2
   |none=>true)&&rs.all fun x=> !(un.contains x.1&&h'.wr.contains x.2.1)||zDr h' x.2.1 x.2.2)=true:=by
 rcases hk with rfl|⟨h1,h2⟩
 ·exact ok_nil o ws rs bs t h'
 ·rw[h1];simp only[Bool.true_and];rw[List.all_eq_true];intro x hx;have:h'.wr.contains x.2.1=false:=by
   cases hc:h'.wr.contains x.2.1 with
   |false=>rfl
   |true=>exact absurd (h2 _ (List.contains_iff_mem.1 hc)) (hr x hx)
  rw[this,Bool.and_false];rfl
theorem WU6.run {m:Nat} {Bad:Nat→Prop}:∀ {ops:List (AOper×List Nat)} {g:Nat} {fr:AFr} {h:AHeap} {Q:AFr→AHeap→Prop},WU6 P tab m Bad ops g fr h Q→
  ∃ fr' h',Q fr' h'∧∀ (i:Nat) (ws:List (Nat×Nat)) (rs:List (Nat×Nat×Option (Nat×Nat×List Value))) (bs:List (Nat×Nat)),(∀ e∈ws,m≤e.2)→(∀ e∈rs,¬Bad e.2.1)→
   ∃ ws',(∀ e∈ws',m≤e.2)∧Ev fun n=>yJ P (aex P tab n) ops i g ws rs bs fr h=some (fr',h',ws'):=by
 intro ops;induction ops with
 |nil=>intro g fr h Q hx;exact⟨fr,h,hx,fun i ws rs bs hw _=>⟨ws,hw,Ev.all fun n=>rfl⟩⟩
 |cons x ops ihl=>
  intro g fr h Q hx;obtain⟨o,un⟩:=x;simp only[WU6]at hx;have go:∀ {g':Nat} {fr1:AFr} {h1:AHeap},(g'=bif Nat.beq (zH o.op) 3 then g+1 else g)→(Ev fun n=>yN P (aex P tab n) g o fr (inC h)=some (fr1,h1))→(∀ x∈h1.wr,m≤x)→(un=[]∨(zX fr.tm o=none∧∀ g∈h1.wr,Bad g))→(∀ g,zX fr.tm o=some g→¬Bad g)→WU6 P tab m Bad ops g' fr1 h1 Q→
    ∃ fr' h',Q fr' h'∧∀ (i:Nat) (ws:List (Nat×Nat)) (rs:List (Nat×Nat×Option (Nat×Nat×List Value))) (bs:List (Nat×Nat)),(∀ e∈ws,m≤e.2)→(∀ e∈rs,¬Bad e.2.1)→
     ∃ ws',(∀ e∈ws',m≤e.2)∧Ev fun n=>yJ P (aex P tab n) ((o,un)::ops) i g ws rs bs fr h=some (fr',h',ws'):=by
   intro g' fr1 h1 hg ev hw hk hb hx;obtain⟨fr',h',q,run⟩:=ihl hx;refine⟨fr',h',q,fun i ws rs bs hws hrs=> ?_⟩;obtain⟨ws',w1,w2⟩:=run (i+1) (h1.wr.map (fun g=>(i,g))++ws) (match zX fr.tm o with
     |some g=>(i,g,Y1 fr.tm h o.op)::rs
     |none=>rs) ((i,h.n)::bs) (fun e he=>by
      rcases List.mem_append.1 he with he|he
      ·obtain⟨y,hy,rfl⟩:=List.mem_map.1 he;exact hw y hy
      ·exact hws e he) (fun e he=>by
      cases hr:zX fr.tm o with
      |none=>rw[hr]at he;exact hrs e he
      |some k=>
       rw[hr]at he;rcases List.mem_cons.1 he with rfl|he
       ·exact hb k hr
       ·exact hrs e he)
   refine⟨ws',w1,(ev.and w2).mono fun n ⟨e1,e2⟩=> ?_⟩;simp only[yJ];have e1':yN P (aex P tab n) g o fr {h with mark:=h.n,wr:=[]}=some (fr1,h1):=e1;rw[e1'];have hok:=zIv hk ws bs hrs;exact(congrArg (fun b:Bool=>bif b then yJ P (aex P tab n) ops (i+1) (bif Nat.beq (zH o.op) 3 then g+1 else g) (h1.wr.map (fun g=>(i,g))++ws) (match zX fr.tm o with
     |some g=>(i,g,Y1 fr.tm h o.op)::rs
     |none=>rs) ((i,h.n)::bs) fr1 h1 else none) hok).trans (by rw[cond_true,←hg];exact e2)
  by_cases hk:Nat.beq (zH o.op) 3=true
  ·rw[if_pos hk]at hx;obtain⟨rfl,hw,hm,hr,ob,f,hmade,hx⟩:=hx;refine go (g':=g+1) (by rw[hk];rfl) (Ev.all fun n=> ?_) (h1:=(inC h).lay g ob) (fun x hx=> ?_) (.inl rfl) (fun k hk2=>by rw[hr]at hk2;cases hk2) hx
   ·unfold yN;simp only[hk,hw,hmade,cond_true]
   ·rcases yb hx with rfl|hx
    ·exact hm
    ·cases hx
  ·rw[if_neg hk]at hx;have hk':Nat.beq (zH o.op) 3=false:=by cases hb:Nat.beq (zH o.op) 3 with
    |false=>rfl
    |true=>exact absurd hb hk
   unfold WO at hx;obtain⟨fr1,h1,⟨q1,q2,q3,q4⟩,ev⟩:=hx;refine go (g':=g) (by rw[hk'];rfl) (ev.mono fun n e=> ?_) q1 q2 q3 q4;unfold yN;simp only[hk',cond_false];simp only[yW]at e;cases ha:yF P (aex P tab n) o fr (inC h)with
   |none=>rw[ha]at e;cases e
   |some p=>rw[ha]at e;exact e
theorem WX.regionU6 {ops:List (AOper×List Nat)} {fr:AFr} {h:AHeap} {K:AExit→AFr→AHeap→Prop} (Bad:Nat→Prop) (k:Nat) (hk:cnt3 ops=k) (hne:ops.isEmpty=false)
  (hx:WU6 P tab h.mark Bad ops h.n fr (inC (zB k h)) (zBD K h)):WX P tab (.regionC ops) fr h K:=by
 subst hk;have hx':WU6 P tab h.mark Bad ops h.n fr (zB (cnt3 ops) h) (zBD K h):=by
  cases ops with
  |nil=>cases hne
  |cons x ops=>exact hx
 obtain⟨fr',h',q,run⟩:=WU6.run (h:=zB (cnt3 ops) h) hx';obtain⟨ws',w1,w2⟩:=run 0 [] [] [] (fun e he=>by cases he) (fun e he=>by cases he);unfold WX;refine⟨.normal,fr',_,q,Ev.up (w2.mono fun n e=> ?_)⟩;rw[zr];simp only[zc,YJ];have e':yJ P (aex P tab n) ops 0 h.n [] [] [] fr {h with n:=h.n+(ops.filter fun x=>Nat.beq (zH x.1.op) 3).length}=some (fr',h',ws'):=e;rw[e'];have:((ws'.map (·.2)).filter fun g=> !Nat.ble h.mark g)=[]:=by
  rw[List.filter_eq_nil_iff];intro g hg;obtain⟨y,hy,rfl⟩:=List.mem_map.1 hg;have:Nat.ble h.mark y.2=true:=Nat.ble_eq_true_of_le (w1 y hy);simp[this]
 simp[this,outC]
end
section
variable {P:Program} {tab:Tab} {m:Nat} {Bad:Nat→Prop} {l:List (AOper×List Nat)} {o:AOper} {un:List Nat} {g:Nat} {fr:AFr} {h h0 h':AHeap} {Q:AFr→AHeap→Prop} {K:AExit→AFr→AHeap→Prop} {t:Trie Value}
def uK6 (P:Program) (tab:Tab) (m:Nat) (Bad:Nat→Prop) (un:List Nat) (t:Trie Value) (o:AOper) (l:List (AOper×List Nat)) (g:Nat) (Q:AFr→AHeap→Prop):AFr→AHeap→Prop:=
 fun fr' h'=>(∀ g∈h'.wr,m≤g)∧(un=[]∨(zX t o=none∧∀ g∈h'.wr,Bad g))∧(∀ g,zX t o=some g→¬Bad g)∧WU6 P tab m Bad l g fr' h' Q
theorem WU6.q (hk:Nat.beq (zH o.op) 3=false) (hx:WO P tab [o] fr (inC h) (uK6 P tab m Bad un fr.tm o l g Q)):WU6 P tab m Bad ((o,un)::l) g fr (inC h) Q:=by
 simp only[WU6];rw[if_neg (by rw[hk];exact Bool.noConfusion)];exact hx
theorem uK6_q (hr:zX t o=none) (hx:WU6 P tab m Bad l g fr (inC h) Q):uK6 P tab m Bad [] t o l g Q fr (inC h):=
 ⟨fun g hg=>(by cases hg),.inl rfl,fun g hg=>(by rw[hr]at hg;cases hg),hx⟩
theorem uK6_l {d:Option Nat} {agg:Bool} {n k:Nat} {x:Operand} {a:Addr} (hr:Ope t x (yi (.pointer (some a)) k)) (hb:¬Bad a.block) (hx:WU6 P tab m Bad l g fr (inC h) Q):uK6 P tab m Bad [] t ⟨d,none,.load agg n x⟩ l g Q fr (inC h):=by
 refine⟨fun g hg=>(by cases hg),.inl rfl,fun g hg=> ?_,hx⟩;unfold Ope yi at hr;simp only[zX,zO,cond_true,hr,Option.some.injEq]at hg;rw[←hg];exact hb
end
section
variable {P:Program} {tab:Tab} {t:Trie Value} {ds:List Deferred} {rd:Option Nat}
theorem zEq {l:List Value} {i:Nat} {v:Value} (hi:i<l.length):zR l i [v]=l.set i v:=by
 unfold zR;rw[List.length_singleton,List.set_eq_take_append_cons_drop,if_pos hi];simp
end
section
variable {P:Program} {tab:Tab} {ds:List Deferred} {rd:Option Nat} {h:AHeap} {l:List AOper} {t:Trie Value}
theorem goV {G' G:Prop} (k:G') (r:Wrap G'→G:=by
  intro hgo;repeat (first|(apply WU6.q;rfl)|refine uK6_q rfl ?_|(apply uK6_l;(exact zF);(assumption))|refine WX.seq ?_|refine WX.region ?_|(apply R.mov;(exact zF))|(apply R.add;(exact zF);(exact zF);(omega);(omega))|(apply R.sub;(exact zF);(exact zF);(omega);(omega))|(apply R.mul;(exact zF);(exact zF);(omega);(omega))|(apply R.lss;(exact zF);(exact zF))|(apply R.leq;(exact zF);(exact zF))|(apply R.gtr;(exact zF);(exact zF))|(apply R.geq;(exact zF);(exact zF))|(apply R.eql;(exact zF);(exact zF))|(apply R.neq;(exact zF);(exact zF))|(apply R.not;(exact zF))|(apply R.eqB;(exact zF);(exact zF))|(apply R.neB;(exact zF);(exact zF))|(apply R.conv64;(exact zF);(omega);(omega))|(apply R.conv;(exact zF))|(apply R.pickT;(exact zF);(exact YG);(exact zF))|(apply R.pickF;(exact zF);(exact YG);(exact zF))|(apply R.tup2_0;(exact zF))|(apply R.tup2_1;(exact zF))|(apply R.tup3_0;(exact zF))|(apply R.tup3_1;(exact zF))|(apply R.tup3_2;(exact zF))|(apply R.tup4_0;(exact zF))|(apply R.tup4_1;(exact zF))|(apply R.tup4_2;(exact zF))|(apply R.tup4_3;(exact zF))|(apply R.lenC)|(apply R.nil;(exact zF);(rfl))|(apply R.lenI;(exact zF);(first|with_reducible assumption|exact SlI.ext (by with_reducible assumption) (by with_reducible assumption)|exact OwnI.sl (by with_reducible assumption)|exact OwnN.sl (by with_reducible assumption)|fail))|(apply R.lenR;(exact zF);(with_reducible assumption))|(apply R.idxI;(exact zF);(exact zF);(first|exact AsN.nat|exact AsN.lit rfl|exact AsN.int (by omega)|fail);(first|with_reducible assumption|exact SlI.ext (by with_reducible assumption) (by with_reducible assumption)|exact OwnI.sl (by with_reducible assumption)|exact OwnN.sl (by with_reducible assumption)|fail);(first|omega|with_reducible assumption|(simp only[List.length_map,List.length_set,List.length_append,List.length_cons,List.length_nil]at *;omega)))|(apply R.idxR;(exact zF);(exact zF);(first|exact AsN.nat|exact AsN.lit rfl|exact AsN.int (by omega)|fail);(with_reducible assumption);(first|omega|with_reducible assumption|(simp only[List.length_map,List.length_set,List.length_append,List.length_cons,List.length_nil]at *;omega)))|(apply R.loadI;(exact zF);(first|with_reducible assumption|exact SlI.ext (by with_reducible assumption) (by with_reducible assumption)|exact OwnI.sl (by with_reducible assumption)|exact OwnN.sl (by with_reducible assumption)|fail);(first|omega|with_reducible assumption|(simp only[List.length_map,List.length_set,List.length_append,List.length_cons,List.length_nil]at *;omega)))|(apply R.pceA;(exact zF);(with_reducible assumption);(decide);(first|exact(rfl:_=some (Value.agg #[_,_]))|exact(rfl:_=some (Value.agg #[_,_,_]))|exact(rfl:_=some (Value.agg #[_,_,_,_]))|exact(rfl:_=some (Value.agg #[_,_,_,_,_]))|exact(rfl:_=some (Value.agg #[_,_,_,_,_,_]))|exact(rfl:_=some (Value.agg #[_,_,_,_,_,_,_]))|exact(rfl:_=some (Value.agg #[_,_,_,_,_,_,_,_]))|rfl))|(apply R.pce;(exact zF);(with_reducible assumption);(decide);(rfl))|(apply R.pce0A;(exact zF);(with_reducible assumption);(decide);(first|exact(rfl:_=some (Value.agg #[_,_]))|exact(rfl:_=some (Value.agg #[_,_,_]))|exact(rfl:_=some (Value.agg #[_,_,_,_]))|exact(rfl:_=some (Value.agg #[_,_,_,_,_]))|exact(rfl:_=some (Value.agg #[_,_,_,_,_,_]))|exact(rfl:_=some (Value.agg #[_,_,_,_,_,_,_]))|exact(rfl:_=some (Value.agg #[_,_,_,_,_,_,_,_]))|rfl))|(apply R.pce0;(exact zF);(with_reducible assumption);(decide);(rfl))|(apply R.fldP;(exact zF);(with_reducible assumption))|(apply R.fldC0;(exact zF);(with_reducible assumption))|(apply R.fldC;(exact zF);(with_reducible assumption))|(apply R.idxZ;(exact zF);(with_reducible assumption);(exact zF);(first|exact AsN.nat|exact AsN.lit rfl|exact AsN.int (by omega)|fail);(first|omega|with_reducible assumption|(simp only[List.length_map,List.length_set,List.length_append,List.length_cons,List.length_nil]at *;omega)))|(apply R.idxA0;(exact zF);(with_reducible assumption);(exact zF);(first|exact AsN.nat|exact AsN.lit rfl|exact AsN.int (by omega)|fail);(first|omega|with_reducible assumption|(simp only[List.length_map,List.length_set,List.length_append,List.length_cons,List.length_nil]at *;omega)))|(apply R.idxA1;(exact zF);(with_reducible assumption);(exact zF);(first|exact AsN.nat|exact AsN.lit rfl|exact AsN.int (by omega)|fail);(first|omega|with_reducible assumption|(simp only[List.length_map,List.length_set,List.length_append,List.length_cons,List.length_nil]at *;omega)))|(apply R.loadA;(exact zF);(with_reducible assumption);(first|omega|with_reducible assumption|(simp only[List.length_map,List.length_set,List.length_append,List.length_cons,List.length_nil]at *;omega)))|(apply R.loadC0A;(exact zF);(with_reducible assumption);(first|exact(rfl:_=some (Value.agg #[_,_]))|exact(rfl:_=some (Value.agg #[_,_,_]))|exact(rfl:_=some (Value.agg #[_,_,_,_]))|exact(rfl:_=some (Value.agg #[_,_,_,_,_]))|exact(rfl:_=some (Value.agg #[_,_,_,_,_,_]))|exact(rfl:_=some (Value.agg #[_,_,_,_,_,_,_]))|exact(rfl:_=some (Value.agg #[_,_,_,_,_,_,_,_]))|rfl))|(apply R.loadC0;(exact zF);(with_reducible assumption);(rfl))|(apply R.loadCA;(exact zF);(with_reducible assumption);(first|exact(rfl:_=some (Value.agg #[_,_]))|exact(rfl:_=some (Value.agg #[_,_,_]))|exact(rfl:_=some (Value.agg #[_,_,_,_]))|exact(rfl:_=some (Value.agg #[_,_,_,_,_]))|exact(rfl:_=some (Value.agg #[_,_,_,_,_,_]))|exact(rfl:_=some (Value.agg #[_,_,_,_,_,_,_]))|exact(rfl:_=some (Value.agg #[_,_,_,_,_,_,_,_]))|rfl))|(apply R.loadC;(exact zF);(with_reducible assumption);(rfl))|(apply R.partA;(exact zF);(first|exact(rfl:_=some (Value.agg #[_,_]))|exact(rfl:_=some (Value.agg #[_,_,_]))|exact(rfl:_=some (Value.agg #[_,_,_,_]))|exact(rfl:_=some (Value.agg #[_,_,_,_,_]))|exact(rfl:_=some (Value.agg #[_,_,_,_,_,_]))|exact(rfl:_=some (Value.agg #[_,_,_,_,_,_,_]))|exact(rfl:_=some (Value.agg #[_,_,_,_,_,_,_,_]))|rfl))|(apply R.part;(exact zF);(rfl))|(apply R.idxG;(exact zF);(first|exact AsN.nat|exact AsN.lit rfl|exact AsN.int (by omega)|fail);(first|omega|with_reducible assumption|(simp only[List.length_map,List.length_set,List.length_append,List.length_cons,List.length_nil]at *;omega)))|(apply R.loadG;(exact zF);(with_reducible assumption);(with_reducible assumption))|(apply R.agg;((repeat (apply Parts.cons;(exact zF)));exact Parts.nil);(first|exact(rfl:_=some [_,_])|exact(rfl:_=some [_,_,_])|exact(rfl:_=some [_,_,_,_])|exact(rfl:_=some [_,_,_,_,_])|exact(rfl:_=some [_,_,_,_,_,_])|exact(rfl:_=some [_,_,_,_,_,_,_])|exact(rfl:_=some [_,_,_,_,_,_,_,_])|rfl))|(apply R.nck;(exact zF))|(apply R.lenM;(exact zF);(with_reducible assumption))|(apply R.lkN;(exact zF);(exact zF);(with_reducible assumption);(with_reducible assumption))|(apply R.lkS;(exact zF);(exact zF);(with_reducible assumption);(with_reducible assumption))|(apply R.fun;(exact zCh);(exact zCh))|(apply R.gT;(exact Zb);(exact YG))|(apply R.gF1;(exact Zb);(exact YG))|(apply R.gF2;(exact Zb);(exact YG))|(apply R.gU;(exact Zb))|refine WO.nil ?_|refine Zh ?_|refine WX.skip ?_|refine WX.block ?_|refine WX.exit ?_|refine Yb ?_|refine Z3 ?_|refine zAN ?_|refine Zp rfl ?_|refine zAC ?_|refine WX.ret ?_|refine zAt ?_|refine zAP ?_|refine zAw ?_|(apply WX.cT;(exact zF);(exact YG))|(apply WX.cF;(exact zF);(exact YG))|refine WX.label ?_|refine WX.goto ?_|refine Y9 ?_|refine Yc ?_|refine zAK ?_|refine WX.regionC_quiet rfl ?_)
  exact hgo.out):G:=r ⟨k⟩
end
section
variable {P:Program} {tab:Tab} {t:Trie Value} {ds:List Deferred} {rd:Option Nat}
end
def Dep {α:Type} (R:AHeap→List Value→α→Prop) (h:AHeap) (cs:List Value) (a:α) (D:Nat→Prop):Prop:=
 ∀ hx:AHeap,(∀ k o,D k→h.get k=some o→hx.get k=some o)→h.n≤hx.n→R hx cs a
def OwnR {α:Type} (c:Nat) (R:AHeap→List Value→α→Prop) (b:Nat) (h:AHeap) (v:Value) (xs:List α):Prop:=
 (v= .slice none 0 0∧xs=[])∨∃ g cells D,b≤g∧g<h.n∧v= .slice (some ⟨g,0,none⟩) xs.length c∧h.get g=some (.row cells true 0)∧cells.length=xs.length * c∧¬D g∧(∀ k,D k→b≤k∧k<h.n)∧
  ∀ (i:Nat) (a:α),xs[i]?=some a→Dep R h ((cells.drop (i * c)).take c) a D
section
variable {α:Type} {c b:Nat} {R:AHeap→List Value→α→Prop} {h h':AHeap} {v:Value} {xs:List α}
theorem Dep.self {cs:List Value} {a:α} {D:Nat→Prop} (d:Dep R h cs a D):R h cs a:=d h (fun _ _ _ e=>e) (Nat.le_refl _)
theorem Dep.mono {cs:List Value} {a:α} {D E:Nat→Prop} (d:Dep R h cs a D) (hE:∀ k,D k→E k) (hk:∀ k o,D k→h.get k=some o→h'.get k=some o) (hn:h.n≤h'.n):Dep R h' cs a E:=
 fun hx h1 h2=>d hx (fun k o hd e=>h1 k o (hE k hd) (hk k o hd e)) (Nat.le_trans hn h2)
theorem OwnR.nil:OwnR c R b h (.slice none 0 0) ([]:List α):= .inl ⟨rfl,rfl⟩
theorem OwnR.upd (o:OwnR c R b h v xs) (hk:∀ k,b≤k→k<h.n→h'.get k=h.get k) (hn:h.n≤h'.n):OwnR c R b h' v xs:=by
 rcases o with o|⟨g,cells,D,g1,g2,g3,g4,g5,g6,g7,g8⟩
 ·exact .inl o
 ·exact .inr ⟨g,cells,D,g1,Nat.lt_of_lt_of_le g2 hn,g3,(hk g g1 g2).trans g4,g5,g6,fun k hd=>⟨(g7 k hd).1,Nat.lt_of_lt_of_le (g7 k hd).2 hn⟩,fun i a ha=>(g8 i a ha).mono (fun _ h=>h) (fun k o hd e=>(hk k (g7 k hd).1 (g7 k hd).2).trans e) hn⟩
theorem OwnR.ext (o:OwnR c R b h v xs) (e:Ext h h'):OwnR c R b h' v xs:=o.upd (fun k _ hk=>e.get k hk) e.n
theorem OwnR.dep (o:OwnR c R b h v xs) {hx:AHeap} (hk:∀ k o,b≤k→k<h.n→h.get k=some o→hx.get k=some o) (hn:h.n≤hx.n):SlR c R hx v xs:=by
 rcases o with ⟨rfl,rfl⟩|⟨g,cells,D,g1,g2,rfl,g4,g5,g6,g7,g8⟩
 ·exact SlR.nil
 ·refine⟨cells,⟨g5,.inr ⟨g,0,cells,rfl,Zv (hk g _ g1 g2 g4),?_,Nat.lt_of_lt_of_le g2 hn⟩⟩,fun i a ha=>g8 i a ha hx (fun k o hd e=>hk k o (g7 k hd).1 (g7 k hd).2 e) hn⟩;rw[Zi (by omega)];simp[←g5]
theorem OwnR.sl (o:OwnR c R b h v xs):SlR c R h v xs:=o.dep (fun _ _ _ _ e=>e) (Nat.le_refl _)
theorem OwnN.depI {hb:AHeap} {w:Value} {l:List Int} (o:OwnN hb h w l) {hx:AHeap} (hk:∀ k o,hb.n≤k→k<h.n→h.get k=some o→hx.get k=some o) (hn:h.n≤hx.n):SlI hx w l:=by
 rcases o with ⟨rfl,rfl⟩|⟨g,g1,g2,rfl,g4⟩
 ·exact SlI.nil hx
 ·exact SlI.own (Nat.lt_of_lt_of_le g2 hn) (hk g _ g1 g2 g4)
theorem take_app {cells cs:List Value} {n i:Nat} (hl:cells.length=n * c) (hc:cs.length=c) (hi:i<n):(((cells++cs).drop (i * c)).take c)=(cells.drop (i * c)).take c:=by
 have h1:i * c+c≤n * c:=by rw[←Nat.succ_mul];exact Nat.mul_le_mul_right _ hi
 rw[List.drop_append,List.take_append_of_le_length];rw[List.length_drop];omega
theorem zJN {cells cs:List Value} {n:Nat} (hl:cells.length=n * c) (hc:cs.length=c):(((cells++cs).drop (n * c)).take c)=cs:=by
 rw[List.drop_append,List.drop_eq_nil_of_le (by omega),List.nil_append,hl,Nat.sub_self,List.drop_zero,List.take_of_length_le (by omega)]
theorem OwnR.snoc (o:OwnR c R b h v xs) {cs:List Value} {a:α} {Dn:Nat→Prop} {g':Nat} {olds:List Value} (hc:cs.length=c) (d:Dep R h cs a Dn) (hD:∀ k,Dn k→b≤k∧k<h.n) (hv:∀ g n k,v= .slice (some ⟨g,0,none⟩) n k→¬Dn g)
  (hold:∀ g n k,v= .slice (some ⟨g,0,none⟩) n k→h.get g=some (.row olds true 0)) (hnil:v= .slice none 0 0→olds=[])
  (hg:h.n≤g') (hb:b≤g') (hg2:g'<h'.n) (hget:h'.get g'=some (.row (olds++cs) true 0)) (keep:∀ k,b≤k→k<h.n→(∀ n k',v≠ .slice (some ⟨k,0,none⟩) n k')→h'.get k=h.get k):
  OwnR c R b h' (.slice (some ⟨g',0,none⟩) (xs++[a]).length c) (xs++[a]):=by
 rcases o with ⟨rfl,rfl⟩|⟨g,cells,D,g1,g2,rfl,g4,g5,g6,g7,g8⟩
 ·have:=hnil rfl;subst this;refine .inr ⟨g',cs,Dn,hb,hg2,rfl,by simpa using hget,by simp[hc],fun hd=>by have:=(hD _ hd).2;omega,fun k hd=>⟨(hD k hd).1,by have:=(hD k hd).2;omega⟩,fun i x hx=> ?_⟩;have hi:i=0:=by
   have:=(List.getElem?_eq_some_iff.1 hx).1;simp at this;omega
  subst hi;simp at hx;subst hx;rw[Nat.zero_mul,List.drop_zero,List.take_of_length_le (by omega)];exact d.mono (fun _ h=>h) (fun k o hd e=>(keep k (hD k hd).1 (hD k hd).2 (fun _ _ e=>by cases e)).trans e) (by omega)
 ·have:=hold g _ _ rfl;rw[g4]at this;cases this;refine .inr ⟨g',olds++cs,fun k=>D k∨Dn k,hb,hg2,rfl,hget,by rw[List.length_append,List.length_append,List.length_singleton,Nat.succ_mul,g5,hc],fun hd=> ?_,fun k hd=> ?_,fun i x hx=> ?_⟩
  ·rcases hd with hd|hd
   ·have:=(g7 _ hd).2;omega
   ·have:=(hD _ hd).2;omega
  ·rcases hd with hd|hd
   ·exact⟨(g7 k hd).1,by have:=(g7 k hd).2;omega⟩
   ·exact⟨(hD k hd).1,by have:=(hD k hd).2;omega⟩
  ·by_cases hi:i<xs.length
   ·rw[List.getElem?_append_left hi]at hx;rw[take_app g5 hc hi];refine(g8 i x hx).mono (fun k h=> .inl h) (fun k o hd e=>(keep k (g7 k hd).1 (g7 k hd).2 (fun n k' e2=> ?_)).trans e) (by omega);cases e2;exact g6 hd
   ·rw[List.getElem?_append_right (by omega)]at hx;have hi2:i=xs.length:=by
     have:=(List.getElem?_eq_some_iff.1 hx).1;simp at this;omega
    subst hi2;simp at hx;subst hx;rw[zJN g5 hc];refine d.mono (fun k h=> .inr h) (fun k o hd e=>(keep k (hD k hd).1 (hD k hd).2 (fun n k' e2=> ?_)).trans e) (by omega);exact hv k n k' e2 hd
end
section
variable {P:Program} {tab:Tab} {t:Trie Value} {h:AHeap} {ds:List Deferred} {rd:Option Nat} {l:List AOper} {Q:AFr→AHeap→Prop}
theorem zD1 {zero cs:List Value} {v:Value} {c:Nat} (hv:v.cells=cs.toArray) (hc:cs.length=c) (hz:zero.length=c):ZR (zu zero 1) [(0,c,v)]=some cs:=by
 have h1:zu zero 1=zero:=by simp[zu]
 have h2:Nat.beq v.cells.size c=true:=by rw[hv];simp[hc]
 have h3:Nat.ble (0+c) zero.length=true:=Nat.ble_eq_true_of_le (by omega);rw[h1];simp only[ZR,h2,h3,Bool.and_self,cond_true,hv];congr 1;simp[zR,hc,hz]
theorem zBL {α:Type} {c b gl:Nat} {R:AHeap→List Value→α→Prop} {h H:AHeap} {v:Value} {xs:List α} {cs:List Value} {a:α} {Dn:Nat→Prop} (o:OwnR c R b h v xs) (hc:cs.length=c) (hc0:0<c) (h1:zL cs=true) (hl:xs.length≤100000) (hbn:b≤h.n)
  (d:Dep R h cs a Dn) (hD:∀ k,Dn k→b≤k∧k<h.n) (hv:∀ g n k,v= .slice (some ⟨g,0,none⟩) n k→¬Dn g) (hH:h.n≤H.n) (hgl:gl<H.n) (hkeep:∀ k,k<h.n→H.get k=h.get k) (hlit:H.get gl=some (.row cs true 0)):
  ∃ v' H',yV c v (.slice (some ⟨gl,0,none⟩) 1 c) H=some (v',H')∧OwnR c R b H' v' (xs++[a])∧H'.n=H.n+1∧(∀ k,k<H.n→(∀ n k',v≠ .slice (some ⟨k,0,none⟩) n k')→H'.get k=H.get k)∧H'.mark=H.mark∧(∀ k∈H'.wr,k∈H.wr∨b≤k)∧
   (H.mark≤b→H'.wr=H.wr)∧(Wf H→Wf H')∧(∃ n k g,v'= .slice (some ⟨g,0,none⟩) n k∧H.n≤g):=by
 obtain⟨y,ys,rfl⟩:∃ y ys,cs=y::ys:=by
  cases cs with
  |nil=>simp at hc;omega
  |cons y ys=>exact⟨y,ys,rfl⟩
 have hsrc:yI c H (.slice (some ⟨gl,0,none⟩) 1 c)=some (y::ys):=by
  have e1:yA H gl=some (y::ys):=Zv hlit;have e2:cut (y::ys) 0 (1 * c)=some (y::ys):=by rw[Zi (by omega)];simp[←hc]
  have e3:Nat.beq 1 0=false:=rfl;rw[Nat.one_mul]at e2;simp only[yI,e1,e3,Nat.one_mul,e2,Nat.beq_refl,Option.isNone_none,Bool.and_self,cond_true,cond_false]
 have hdiv:(y::ys).length / c=1:=by rw[hc];exact Nat.div_self hc0
 have hroom:room=4294967296:=rfl;rcases id o with ⟨rfl,rfl⟩|⟨g,cells,D,g1,g2,rfl,g4,g5,g6,g7,g8⟩
 ·have hb1:Nat.ble 1 room=true:=rfl;refine⟨.slice (some ⟨H.n,0,none⟩) 1 c,H.push (.row (y::ys) true 0),?_,?_,rfl,fun k hk _=> ?_,rfl,fun k hk=> .inl hk,fun _=>rfl,fun w k hk=> ?_,⟨_,_,_,rfl,Nat.le_refl _⟩⟩
  ·simp only[yV,hsrc,h1,Bool.not_true,cond_false,hdiv,hb1,cond_true];rfl
  ·have:=o.snoc (h':=H.push (.row (y::ys) true 0)) (g':=H.n) (olds:=[]) hc d hD hv (fun g n k e=>by cases e) (fun _=>rfl) hH (Nat.le_trans hbn hH) (Nat.lt_succ_self _) (zW _ _) (fun k _ hk _=>by rw[zU,if_neg (by omega)];exact hkeep k hk);exact this
  ·rw[zU,if_neg (by omega)]
  ·have hk:H.n+1≤k:=hk;rw[zU,if_neg (by omega)];exact w k (by omega)
 ·have hb1:Nat.ble (xs.length+1) room=true:=Nat.ble_eq_true_of_le (by omega);have hq:H.get g=some (.row cells true 0):=(hkeep g g2).trans g4;have h2:cut cells 0 (xs.length * c)=some cells:=by rw[Zi (by omega)];simp[←g5]
  have h3:Nat.ble 0 (0+xs.length * c)=true:=Nat.ble_eq_true_of_le (Nat.zero_le _);have hcc:Nat.beq c 0=false:=by cases hz:Nat.beq c 0 with
   |false=>rfl
   |true=>have:=Nat.eq_of_beq_eq_true hz;omega
  have hKn:(H.kill g).n=H.n:=rfl;refine⟨.slice (some ⟨H.n,0,none⟩) (xs.length+1) c,(H.kill g).push (.row (cells++y::ys) true (0 - 0)),?_,?_,rfl,fun k hk hvk=> ?_,rfl,fun k hk=> ?_,fun hm=> ?_,fun w k hk=> ?_,⟨_,_,_,rfl,Nat.le_refl _⟩⟩
  ·simp only[yV,hsrc,h1,Bool.not_true,cond_false,hdiv,hb1,hcc,Nat.beq_refl,hq,h2,h3,cond_true,Option.isNone_none,Bool.and_self]
  ·have:=o.snoc (h':=(H.kill g).push (.row (cells++y::ys) true (0 - 0))) (g':=H.n) (olds:=cells) hc d hD hv (fun g n k e=>by cases e;exact g4) (fun e=>by cases e) hH (Nat.le_trans hbn hH) (Nat.lt_succ_self _) (zW (H.kill g) _) (fun k _ hk hvk=>by
    rw[zU,if_neg (by rw[hKn];omega),yr,if_neg (fun e=>hvk _ _ (by rw[e]))];exact hkeep k hk)
   rw[List.length_append,List.length_singleton]at this;exact this
  ·rw[zU,if_neg (by rw[hKn];omega),yr,if_neg (fun e=>hvk _ _ (by rw[e]))]
  ·have hk2:k∈H.log g:=hk;rcases yb hk2 with rfl|h
   ·exact .inr g1
   ·exact .inl h
  ·show H.log g=H.wr;exact zAe (by omega)
  ·have hk:H.n+1≤k:=hk;rw[zU,if_neg (by rw[hKn];omega),yr];split
   ·rfl
   ·exact w k (by omega)
theorem WO.apR {α:Type} {c b d1 d2:Nat} {R:AHeap→List Value→α→Prop} {hB:AHeap} {v w:Value} {xs:List α} {cs zero:List Value} (a:α) (Dn:Nat→Prop) {x y:Operand} (o:OwnR c R b h v xs) (e0:Ext hB h) (hb:hB.n≤b) (hbn:b≤h.n) (hc0:0<c) (hl:xs.length≤100000)
  (d:Dep R h cs a Dn) (hD:∀ k,Dn k→b≤k∧k<h.n) (hv:∀ g n k,v= .slice (some ⟨g,0,none⟩) n k→¬Dn g)
  (k:∀ v' h' lit,Ext hB h'→OwnR c R b h' v' (xs++[a])→h.n≤h'.n→(∀ k,k<h.n→(∀ n k',v≠ .slice (some ⟨k,0,none⟩) n k')→h'.get k=h.get k)→WO P tab l ⟨(t.set d1 lit).set d2 v',ds,rd⟩ h' Q)
  (hx:Ope t x w:=by exact zV) (hw:w.cells=cs.toArray:=by rfl) (hc:cs.length=c:=by rfl) (h1:zL cs=true:=by rfl) (hz:zero.length=c:=by rfl) (hy:∀ u,Ope (t.set d1 u) y v:=by intro u;exact zV):
  WO P tab (⟨some d1,none,.buildSlice 1 c zero [(0,c,x)]⟩::⟨some d2,none,.append c y (.tmp d1)⟩::l) ⟨t,ds,rd⟩ h Q:=by
 have hx:ev t x=w:=hx;refine WO.op (.slice (some ⟨h.n,0,none⟩) 1 c) (h.push (.row cs true 0)) rfl (by
  simp only[aop,z8,List.map_cons,List.map_nil,hx,zD1 hw hc hz,Option.map_some];rfl) ?_
 obtain⟨v',H',q1,q2,q3,q4,q5,q6,q7,q8,q9⟩:=zBL (H:=h.push (.row cs true 0)) (gl:=h.n) o hc hc0 h1 hl hbn d hD hv (Nat.le_succ _) (Nat.lt_succ_self _) (fun k hk=>by rw[zU,if_neg (by omega)]) (zW _ _);have hyv:ev (t.set d1 (.slice (some ⟨h.n,0,none⟩) 1 c)) y=v:=hy _;have e1:ev (t.set d1 (.slice (some ⟨h.n,0,none⟩) 1 c)) (.tmp d1)= .slice (some ⟨h.n,0,none⟩) 1 c:=by simp only[ev,zl,if_true]
 refine WO.op v' H' rfl (by simp only[aop,hyv,e1,q1]) (k v' H' _ ?_ q2 (by rw[q3];show h.n≤h.n+1+1;omega) (fun k hk hvk=> ?_))
 ·have hvb:∀ k,k<hB.n→∀ n k',v≠ .slice (some ⟨k,0,none⟩) n k':=fun k hk n k' e=>by
   rcases o with ⟨e2,_⟩|⟨g,_,_,g1,_,e2,_⟩
   ·rw[e2]at e;cases e
   ·rw[e2]at e;cases e;omega
  refine⟨by rw[q3];show hB.n≤h.n+1+1;have:=e0.n;omega,fun k hk=> ?_,fun w=>q8 ?_,q5.trans e0.mark,fun hm=> ?_⟩
  ·have:=e0.n;rw[q4 k (by show k<h.n+1;omega) (hvb k hk),zU,if_neg (by omega)];exact e0.get k hk
  ·intro k hk;have hk:h.n+1≤k:=hk;rw[zU,if_neg (by omega)];exact e0.wf w k (by omega)
  ·rw[q7 (by show h.mark≤b;rw[e0.mark];omega)];exact e0.wr hm
 ·rw[q4 k (by show k<h.n+1;omega) hvk,zU,if_neg (by omega)]
theorem WU2.apR {α:Type} {c b d1 d2 d3 s j m N0:Nat} {cl:Bool} {R:AHeap→List Value→α→Prop} {hB hS X:AHeap} {p v w:Value} {xs:List α} {cs zero cells:List Value} (a:α) (Dn:Nat→Prop) {x y:Operand} {K:AExit→AFr→AHeap→Prop}
  (eX:Ext (inC (zB 1 hS)) X) (o:OwnR c R b hS v xs) (e0:Ext hB hS) (hm:hS.mark≤hB.n) (hb:hB.n≤b) (hbn:b≤hS.n) (hc0:0<c) (hl:xs.length≤100000) (op:OwnC hB hS p cells) (hpb:∀ g,p= .pointer (some ⟨g,0,none⟩)→g<b)
  (d:Dep R X cs a Dn) (hD:∀ k,Dn k→b≤k∧k<X.n) (hv:∀ g n k,v= .slice (some ⟨g,0,none⟩) n k→¬Dn g) (hDs:¬Dn hS.n) (hj:j<cells.length) (hcl:zL cells=true)
  (k:∀ H v' t',zEF [d1,d2,d3] t t'→Ext hB H→OwnC hB H p (cells.set j v')→zL (cells.set j v')=true→OwnR c R b H v' (xs++[a])→(∀ k,k<hS.n→p≠ .pointer (some ⟨k,0,none⟩)→(∀ n k',v≠ .slice (some ⟨k,0,none⟩) n k')→H.get k=hS.get k)→hS.n≤H.n→K .normal ⟨t',ds,rd⟩ H)
  (hx:Ope t x w:=by exact zV) (hw:w.cells=cs.toArray:=by rfl) (hc:cs.length=c:=by rfl) (h1:zL cs=true:=by rfl) (hz:zero.length=c:=by rfl) (hy:∀ u,Ope (t.set d1 u) y v:=by intro u;exact zV) (hs:∀ u u',Ope ((t.set d1 u).set d2 u') (.tmp s) p:=by intro u u';exact zV) (h32:Nat.beq d2 d3=false:=by rfl) (hm0:m=hS.mark:=by rfl):
  WU2 P tab m N0 [(⟨some d1,none,.buildSlice 1 c zero [(0,c,x)]⟩,[]),(⟨some d2,none,.append c y (.tmp d1)⟩,[]),(⟨some d3,none,.fld j (.tmp s)⟩,[]),(⟨none,none,.store 1 (.tmp d3) (.tmp d2)⟩,[])] hS.n cl ⟨t,ds,rd⟩ (inC X) (zBD K hS):=by
 subst hm0;have hx:ev t x=w:=hx;have hnX:hS.n+1≤X.n:=eX.n;obtain⟨gp,gp1,gp2,hp,gp3⟩:=op;have hgpb:=hpb gp hp;rw[WU2,if_pos (show Nat.beq (zH (AOp.buildSlice 1 c zero [(0,c,x)])) 3=true from rfl)];refine⟨rfl,.inl ⟨rfl,by have:=e0.n;omega,.row cs true 0,_,by simp only[yl,z8,List.map_cons,List.map_nil,hx,zD1 hw hc hz,Option.map_some];rfl,?_⟩⟩;generalize hH1:(inC (inC X)).lay hS.n (.row cs true 0)=H1;have n1:H1.n=X.n:=by rw[←hH1];rfl
 have get1:∀ c',H1.get c'=if c'=hS.n then some (.row cs true 0) else X.get c':=fun c'=>by rw[←hH1];exact zb _ _ _ _
 have getX:∀ k,k<hS.n→X.get k=hS.get k:=fun k hk=>eX.get k (by show k<hS.n+1;omega);have oX:OwnR c R b X v xs:=o.upd (fun k _ hk=>getX k hk) (by omega);have oX1:OwnR c R b (inC H1) v xs:=by
  rcases o with o|⟨g,cl',D,g1,g2,g3,g4,g5,g6,g7,g8⟩
  ·exact .inl o
  ·refine .inr ⟨g,cl',D,g1,by show g<H1.n;omega,g3,?_,g5,g6,fun k hd=>⟨(g7 k hd).1,by have:=(g7 k hd).2;show k<H1.n;omega⟩,fun i a ha=>(g8 i a ha).mono (fun _ h=>h) (fun k o hd e=> ?_) (by show hS.n≤H1.n;omega)⟩
   ·show H1.get g=_;rw[get1,if_neg (by omega),getX g g2];exact g4
   ·have:=(g7 k hd).2;show H1.get k=_;rw[get1,if_neg (by omega),getX k this];exact e
 have d1':Dep R (inC H1) cs a Dn:=d.mono (fun _ h=>h) (fun k o hd e=>by
  show H1.get k=_;rw[get1,if_neg (fun e2:k=hS.n=>by subst e2;exact hDs hd)];exact e) (by show X.n≤H1.n;omega)
 obtain⟨v',H2,q1,q2,q3,q4,q5,q6,q7,q8,n',k',g',q9,q10⟩:=zBL (H:=inC H1) (gl:=hS.n) oX1 hc hc0 h1 hl (by show b≤H1.n;omega) d1' (fun k hd=>⟨(hD k hd).1,by have:=(hD k hd).2;show k<H1.n;omega⟩) hv (Nat.le_refl _) (by show hS.n<H1.n;omega) (fun _ _=>rfl) (by show H1.get hS.n=_;rw[get1,if_pos rfl]);rw[WU2,if_neg (show ¬Nat.beq (zH (AOp.append c y (.tmp d1))) 3=true from Bool.noConfusion)];have hyv:ev (t.set d1 (.slice (some ⟨hS.n,0,none⟩) 1 c)) y=v:=hy _;have e1:ev (t.set d1 (.slice (some ⟨hS.n,0,none⟩) 1 c)) (.tmp d1)= .slice (some ⟨hS.n,0,none⟩) 1 c:=by simp only[ev,zl,if_true]
 refine WO.op v' H2 rfl (by simp only[aop,hyv,e1,q1]) ?_;refine WO.nil ⟨⟨fun c' hc'=> ?_,by show H1.n≤H2.n;rw[q3];exact Nat.le_succ _,.inl rfl⟩,?_⟩
 ·rcases q6 c' hc' with h|h
  ·cases h
  ·omega
 have hvp:∀ n k,v≠ .slice (some ⟨gp,0,none⟩) n k:=fun n k e=>by
  rcases o with ⟨e2,_⟩|⟨g,_,_,g1,_,e2,_⟩
  ·rw[e2]at e;cases e
  ·rw[e2]at e;cases e;omega
 have own2:H2.get gp=some (.row cells true 0):=by
  rw[q4 gp (by show gp<H1.n;omega) hvp];show H1.get gp=_;rw[get1,if_neg (by omega),getX gp gp2];exact gp3
 rw[WU2,if_neg (show ¬Nat.beq (zH (AOp.fld j (.tmp s))) 3=true from Bool.noConfusion)];have hs2:ev ((t.set d1 (.slice (some ⟨hS.n,0,none⟩) 1 c)).set d2 v') (.tmp s)=p:=hs _ _;refine WO.op (.pointer (some ⟨gp,j,none⟩)) (inC H2) rfl (by simp only[aop,hs2,hp,Nat.zero_add,Option.isNone_none,cond_true]) ?_;refine WO.nil ⟨⟨fun c' hc'=>(by cases hc'),Nat.le_refl _,.inl rfl⟩,?_⟩;rw[WU2,if_neg (show ¬Nat.beq (zH (AOp.store 1 (.tmp d3) (.tmp d2))) 3=true from Bool.noConfusion)];have hvone:zL [v']=true:=by rw[q9];rfl
 have hvcells:v'.cells=#[v']:=by rw[q9];rfl
 have hst:zg (inC (inC H2)) ⟨gp,j,none⟩ [v']=some ((inC (inC H2)).set gp (.row (cells.set j v') true 0)):=by
  have hg':(inC (inC H2)).get gp=some (.row cells true 0):=own2;have h1:Nat.ble (j+1) cells.length=true:=Nat.ble_eq_true_of_le hj;have h0:Nat.ble 0 j=true:=Nat.ble_eq_true_of_le (Nat.zero_le _);simp only[zg,hg',List.length_singleton,h1,h0,hvone,Bool.and_self,zEq hj];rfl
 have hd32:¬d2=d3:=fun e=>by subst e;simp at h32
 refine WO.op0 undef ((inC (inC H2)).set gp (.row (cells.set j v') true 0)) rfl (by
  have a1:∀ tt:Trie Value,ev (tt.set d3 (.pointer (some ⟨gp,j,none⟩))) (.tmp d3)= .pointer (some ⟨gp,j,none⟩):=fun tt=>by
   simp only[ev,zl,if_true]
  have a2:∀ w,ev (((t.set d1 (.slice (some ⟨hS.n,0,none⟩) 1 c)).set d2 w).set d3 (.pointer (some ⟨gp,j,none⟩))) (.tmp d2)=w:=fun w=>by
   simp only[ev,zl,if_neg hd32,if_true]
  simp only[val,aop,a1,a2,hvcells,List.size_toArray,List.length_singleton,Nat.beq_refl,hst,Option.map_some,cond_true]) ?_
 refine WO.nil ⟨⟨fun c' hc'=> ?_,Nat.le_refl _,.inl rfl⟩,?_⟩
 ·have hc2:c'∈(inC (inC H2)).log gp:=hc';rcases yb hc2 with rfl|h
  ·omega
  ·cases h
 generalize hH:outC hS ((inC (inC H2)).set gp (.row (cells.set j v') true 0))=H;have nH:H.n=X.n+1:=by rw[←hH];show H2.n=_;rw[q3];show H1.n+1=_;omega
 have getH:∀ c',H.get c'=if c'=gp then some (.row (cells.set j v') true 0) else H2.get c':=fun c'=>by rw[←hH];exact zb _ _ _ _
 have keepH:∀ c',c'<hS.n→c'≠gp→(∀ n k,v≠ .slice (some ⟨c',0,none⟩) n k)→H.get c'=hS.get c':=fun c' h1 h2 h3=>by
  rw[getH,if_neg h2,q4 c' (by show c'<H1.n;omega) h3];show H1.get c'=_;rw[get1,if_neg (by omega),getX c' h1]
 have hvB:∀ k,k<hB.n→∀ n k',v≠ .slice (some ⟨k,0,none⟩) n k':=fun k hk n k' e=>by
  rcases o with ⟨e2,_⟩|⟨g,_,_,g1,_,e2,_⟩
  ·rw[e2]at e;cases e
  ·rw[e2]at e;cases e;omega
 have oneH:zL (cells.set j v')=true:=by
  unfold zL at *;rw[List.all_eq_true]at *;intro z hz;rcases List.mem_or_eq_of_mem_set hz with h|h
  ·exact hcl z h
  ·subst h;rw[q9]
 show K .normal _ _;rw[hH];refine k H v' _ (fun i hi=> ?_) ?_ ⟨gp,gp1,by rw[nH];omega,hp,by rw[getH,if_pos rfl]⟩ oneH (q2.upd (fun k hk1 hk2=>by rw[getH,if_neg (by omega)]) (by rw[nH,q3];show H1.n+1≤_;omega)) (fun c' h1 h2 h3=>keepH c' h1 (fun e=>h2 (by rw[hp,e])) h3) (by rw[nH];omega)
 ·have hc:=ZK hi;rw[List.contains_eq_mem,decide_eq_false_iff_not]at hc;have b1:¬i=d1:=fun e=>hc (by simp[e]);have b2:¬i=d2:=fun e=>hc (by simp[e]);have b3:¬i=d3:=fun e=>hc (by simp[e]);simp only[val,zl,if_neg b1,if_neg b2,if_neg b3]
 ·have hn0:=e0.n;refine⟨by rw[nH];omega,fun k hk=>(keepH k (by omega) (by omega) (hvB k hk)).trans (e0.get k hk),fun w k hk=> ?_,?_,fun hmk=> ?_⟩
  ·rw[nH]at hk;rw[getH,if_neg (by omega)];refine q8 (fun k2 hk2=> ?_) k (by rw[q3];show H1.n+1≤k;omega);have hk2:H1.n≤k2:=hk2;show H1.get k2=_;rw[get1,if_neg (by omega)];exact eX.wf (fun k3 hk3=>e0.wf w k3 (by have:hS.n+1≤k3:=hk3;omega)) k2 (by omega)
  ·rw[←hH];exact e0.mark
  ·rw[←hH];exact e0.wr hmk
end
section
variable {P:Program} {tab:Tab} {m:Nat} {Bad:Nat→Prop} {l:List (AOper×List Nat)} {o:AOper} {un:List Nat} {g:Nat} {fr:AFr} {h h0 h':AHeap} {Q:AFr→AHeap→Prop} {K:AExit→AFr→AHeap→Prop} {t:Trie Value} {ds:List Deferred} {rd:Option Nat}
theorem uK6_el {d:Option Nat} {agg:Bool} {n j:Nat} {x:Operand} {v:Value} (hv:∃ a n k,v= .slice (some a) n k∧¬Bad a.block) (hx:WU6 P tab m Bad l g fr (inC h) Q) (hr:Ope t x (zi v j):=by exact zV):uK6 P tab m Bad [] t ⟨d,none,.load agg n x⟩ l g Q fr (inC h):=by
 obtain⟨a,n',k',rfl,hb⟩:=hv;exact uK6_l (a:=a) (k:=j) hr hb hx
theorem zHK {N0 j n:Nat} {d:Option Nat} {agg:Bool} {x:Operand} {v:Value} {un:List Nat} (hv:∃ a n k,v= .slice (some a) n k∧a.block<N0) (hx:WU2 P tab m N0 l g true fr (inC h) Q) (hr:Ope t x (zi v j):=by exact zV):
  uK2 P tab m N0 un t ⟨d,none,.load agg n x⟩ (inC h) l g true Q fr (inC h):=by
 obtain⟨a,n',k',rfl,hb⟩:=hv;refine zEc (fun k hk=> ?_) hx;unfold Ope zi at hr;simp only[zX,zO,cond_true,hr,Option.some.injEq]at hk;omega
theorem Zd {α:Type} {c i:Nat} {R:AHeap→List Value→α→Prop} {v:Value} {xs:List α} (s:SlR c R h v xs) (hi:i<xs.length):∃ a n k,v= .slice (some a) n k∧a.block<h.n:=by
 obtain⟨cells,⟨h1,⟨h2,_⟩|⟨g,off,row,rfl,_,_,hg⟩⟩,_⟩:=s
 ·omega
 ·exact⟨_,_,_,rfl,hg⟩
theorem zEf {c i n:Nat} {h:AHeap} {v:Value} {cells:List Value} (a:SlC c h v n cells) (hi:i<n):Piece h v (i * c) ((cells.drop (i * c)).take c):=by
 have hlen:cells.length=n * c:=a.1;have hle:i * c+c≤cells.length:=by
  rw[hlen,←Nat.succ_mul];exact Nat.mul_le_mul_right _ hi
 intro P ih t x agg k off r hx hn hr;cases hc:cut ((cells.drop (i * c)).take c) off k with
 |none=>rw[hc]at hr;cases hr
 |some m=>
  rw[hc]at hr;have h1:cut cells (i * c) c=Option.some ((cells.drop (i * c)).take c):=Zi hle;exact zD0 a hx (zC5 h1 hc) hn hr
theorem zh {α:Type} [Inhabited α] {c:Nat} {R:AHeap→List Value→α→Prop} {h:AHeap} {v:Value} {T:List α} {i:Nat} (s:SlR c R h v T) (hi:i<T.length):∃ cs,R h cs (T.getD i default)∧(∀ h',Ext h h'→Piece h' v (i * c) cs∧Piece (inC h') v (i * c) cs)∧IsSl v:=by
 have hs:=s.some hi;obtain⟨cells,a,b⟩:=s;refine⟨_,by simpa [List.getD,List.getElem?_eq_getElem hi]using b i T[i] (List.getElem?_eq_getElem hi),fun h' e=> ?_,hs⟩;have a':=a.ext e;exact⟨zEf a' hi,zEf (h:=inC h') a' hi⟩
theorem WU6.al2 {d1 d2 n:Nat} {z1 z2 cs1 cs2:List Value} {y1 y2:Operand} {v1 v2:Value} {u1 u2:List Nat} {hS:AHeap} (hm:hS.mark≤hS.n)
  (k:∀ H p1 p2,Ext hS H→OwnC hS H p1 cs1→OwnC hS H p2 cs2→K .normal ⟨(t.set d1 p1).set d2 p2,ds,rd⟩ H)
  (hy1:∀ a b,Ope ((t.set d1 a).set d2 b) y1 v1:=by intro a b;exact zV) (hy2:∀ a b,Ope ((t.set d1 a).set d2 b) y2 v2:=by intro a b;exact zV) (hv1:v1.cells=cs1.toArray:=by rfl) (hv2:v2.cells=cs2.toArray:=by rfl)
  (hz1:z1.length=n:=by rfl) (hz2:z2.length=n:=by rfl) (hc1:cs1.length=n:=by rfl) (hc2:cs2.length=n:=by rfl) (h1:zL cs1=true:=by rfl) (h2:zL cs2=true:=by rfl) (h12:Nat.beq d1 d2=false:=by rfl) (hm0:m=hS.mark:=by rfl):
  WU6 P tab m (fun g=>g=hS.n∨g=hS.n+1) [(⟨some d1,none,.alloc z1⟩,[]),(⟨some d2,none,.alloc z2⟩,[]),(⟨none,none,.store n (.tmp d1) y1⟩,u1),(⟨none,none,.store n (.tmp d2) y2⟩,u2)] hS.n ⟨t,ds,rd⟩ (inC (zB 2 hS)) (zBD K hS):=by
 subst hm0;have hd12:¬d1=d2:=fun e=>by subst e;simp at h12
 rw[WU6,if_pos (show Nat.beq (zH (AOp.alloc z1)) 3=true from rfl)];refine⟨rfl,rfl,hm,rfl,.row z1 true 0,fun g=> .pointer (some ⟨g,0,none⟩),rfl,?_⟩;rw[WU6,if_pos (show Nat.beq (zH (AOp.alloc z2)) 3=true from rfl)];refine⟨rfl,rfl,by show hS.mark≤hS.n+1;omega,rfl,.row z2 true 0,fun g=> .pointer (some ⟨g,0,none⟩),rfl,?_⟩;generalize hH2:(inC ((inC (inC (zB 2 hS))).lay hS.n (.row z1 true 0))).lay (hS.n+1) (.row z2 true 0)=H2;have n2:H2.n=hS.n+2:=by rw[←hH2];rfl
 have get2:∀ c,H2.get c=if c=hS.n+1 then some (.row z2 true 0) else if c=hS.n then some (.row z1 true 0) else hS.get c:=fun c=>by
  rw[←hH2];refine(zb _ _ _ _).trans ?_;split
  ·rfl
  ·exact zb _ _ _ _
 have store:∀ (X:AHeap) (g:Nat) (z cs:List Value),X.get g=some (.row z true 0)→z.length=n→cs.length=n→zL cs=true→zg (inC X) ⟨g,0,none⟩ cs=some ((inC X).set g (.row cs true 0)):=fun X g z cs hg hz hc h1=>by
  have hg':(inC X).get g=some (.row z true 0):=hg;have h2:Nat.ble (0+cs.length) z.length=true:=Nat.ble_eq_true_of_le (by omega);have h3:Nat.ble 0 0=true:=rfl;have h4:zR z 0 cs=cs:=by simp[zR,hz,hc]
  simp only[zg,hg',h2,h3,h1,h4,Option.isNone_none,Bool.and_self,cond_true]
 have e1:∀ a b,ev ((t.set d1 a).set d2 b) (.tmp d1)=a:=fun a b=>by simp only[ev,zl,if_neg hd12,if_true]
 have e2:∀ a b,ev ((t.set d1 a).set d2 b) (.tmp d2)=b:=fun a b=>by simp only[ev,zl,if_true]
 have y1e:∀ a b,ev ((t.set d1 a).set d2 b) y1=v1:=hy1;have y2e:∀ a b,ev ((t.set d1 a).set d2 b) y2=v2:=hy2;rw[WU6,if_neg (show ¬Nat.beq (zH (AOp.store n (.tmp d1) y1)) 3=true from Bool.noConfusion)];refine WO.op0 undef ((inC H2).set hS.n (.row cs1 true 0)) rfl (by
  simp only[val,aop,e1,y1e,hv1,List.size_toArray,hc1,Nat.beq_refl,store H2 hS.n z1 cs1 (by rw[get2,if_neg (by omega),if_pos rfl]) hz1 hc1 h1,Option.map_some,cond_true]) ?_
 refine WO.nil ⟨fun c hc=> ?_,.inr ⟨rfl,fun c hc=> ?_⟩,fun c hc=>(by cases hc),?_⟩
 ·have hc:c∈(inC H2).log hS.n:=hc;rcases yb hc with rfl|h
  ·exact hm
  ·cases h
 ·have hc:c∈(inC H2).log hS.n:=hc;rcases yb hc with rfl|h
  ·exact .inl rfl
  ·cases h
 generalize hH3:(inC H2).set hS.n (.row cs1 true 0)=H3;have n3:H3.n=hS.n+2:=by rw[←hH3];exact n2
 have get3:∀ c,H3.get c=if c=hS.n then some (.row cs1 true 0) else H2.get c:=fun c=>by rw[←hH3];exact zP _ _ _ _
 rw[WU6,if_neg (show ¬Nat.beq (zH (AOp.store n (.tmp d2) y2)) 3=true from Bool.noConfusion)];refine WO.op0 undef ((inC H3).set (hS.n+1) (.row cs2 true 0)) rfl (by
  simp only[val,aop,e2,y2e,hv2,List.size_toArray,hc2,Nat.beq_refl,store H3 (hS.n+1) z2 cs2 (by rw[get3,if_neg (by omega),get2,if_pos rfl]) hz2 hc2 h2,Option.map_some,cond_true]) ?_
 refine WO.nil ⟨fun c hc=> ?_,.inr ⟨rfl,fun c hc=> ?_⟩,fun c hc=>(by cases hc),?_⟩
 ·have hc:c∈(inC H3).log (hS.n+1):=hc;rcases yb hc with rfl|h
  ·omega
  ·cases h
 ·have hc:c∈(inC H3).log (hS.n+1):=hc;rcases yb hc with rfl|h
  ·exact .inr rfl
  ·cases h
 generalize hH4:outC hS ((inC H3).set (hS.n+1) (.row cs2 true 0))=H4;have n4:H4.n=hS.n+2:=by rw[←hH4];exact n3
 have get4:∀ c,H4.get c=if c=hS.n+1 then some (.row cs2 true 0) else if c=hS.n then some (.row cs1 true 0) else hS.get c:=fun c=>by
  rw[←hH4];refine(zP (inC H3) _ _ _).trans ?_;split
  ·rfl
  ·rename_i hne;refine(get3 c).trans ?_;split
   ·rfl
   ·rename_i hne2;rw[get2,if_neg hne,if_neg hne2]
 show K .normal _ _;rw[hH4];refine k H4 (.pointer (some ⟨hS.n,0,none⟩)) (.pointer (some ⟨hS.n+1,0,none⟩)) ⟨by omega,fun c hc=>by rw[get4,if_neg (by omega),if_neg (by omega)],fun w c hc=> ?_,?_,fun hmk=> ?_⟩ ⟨hS.n,Nat.le_refl _,by omega,rfl,by rw[get4,if_neg (by omega),if_pos rfl]⟩ ⟨hS.n+1,by omega,by omega,rfl,by rw[get4,if_pos rfl]⟩
 ·rw[get4,if_neg (by omega),if_neg (by omega)];exact w c (by omega)
 ·rw[←hH4];rfl
 ·rw[←hH4];rfl
def RBo (_:AHeap) (cs:List Value) (b:Bool):Prop:=cs=[.bool b]
abbrev SlBo (h:AHeap) (v:Value) (l:List Bool):Prop:=SlR 1 RBo h v l
def OwnBo (h0 h:AHeap) (v:Value) (l:List Bool):Prop:=∃ g,h0.n≤g∧g<h.n∧v= .slice (some ⟨g,0,none⟩) l.length 1∧h.get g=some (.row (l.map .bool) true 0)
theorem OwnBo.ext {h0 h h' v l} (o:OwnBo h0 h v l) (e:Ext h h'):OwnBo h0 h' v l:=by
 obtain⟨g,a,b,c,d⟩:=o;exact⟨g,a,Nat.lt_of_lt_of_le b e.n,c,(e.get g b).trans d⟩
theorem OwnBo.since {h0 h1 h v l} (o:OwnBo h1 h v l) (e:Ext h0 h1):OwnBo h0 h v l:=by
 obtain⟨g,a,b⟩:=o;exact⟨g,Nat.le_trans e.n a,b⟩
theorem OwnBo.sl {h0 h v l} (o:OwnBo h0 h v l):SlBo h v l:=by
 obtain⟨g,a,b,rfl,d⟩:=o;refine⟨l.map .bool,SlC.own (own:=true) (lo:=0) b d (by simp),fun i x hx=> ?_⟩;obtain⟨hi,e⟩:=List.getElem?_eq_some_iff.1 hx;show ((l.map Value.bool).drop (i * 1)).take 1=_;rw[Nat.mul_one,List.drop_eq_getElem_cons (by simpa using hi)];simp[e]
theorem zHS (n:Nat):zu [.bool false] n=(List.replicate n false).map Value.bool:=by
 induction n with
 |zero=>rfl
 |succ n ih=>rw[zu,ih];rfl
theorem WO.mkBo {d n:Nat} {x y:Operand} {l:List AOper} (hr:n≤100000) (k:∀ v h',Ext h h'→OwnBo h h' v (List.replicate n false)→WO P tab l ⟨t.set d v,ds,rd⟩ h' Q)
  (hx:Ope t x (I (n:Int)):=by exact zV) (hy:Ope t y (I (n:Int)):=by exact zV):WO P tab (⟨some d,none,.mkSlice 1 [.bool false] x y⟩::l) ⟨t,ds,rd⟩ h Q:=by
 have h1:Nat.ble n room=true:=Nat.ble_eq_true_of_le (by have:room=4294967296:=rfl;omega);have h2:Nat.ble n n=true:=Nat.ble_eq_true_of_le (Nat.le_refl _);have hx:ev t x=I (n:Int):=hx;have hy:ev t y=I (n:Int):=hy;have hn:asN (I (n:Int))=some n:=rfl;refine WO.op _ _ rfl (by simp only[aop,hx,hy,hn,h1,h2,Bool.and_self,cond_true];rfl) (k _ _ (YB _ _) ⟨h.n,Nat.le_refl _,by simp[AHeap.push],by simp,?_⟩);rw[zW,zHS]
end
section
variable {P:Program} {tab:Tab} {t:Trie Value} {h:AHeap} {ds:List Deferred} {rd:Option Nat} {l:List AOper} {Q:AFr→AHeap→Prop}
theorem WO.apRw {α:Type} {c b d1 d2:Nat} {R:AHeap→List Value→α→Prop} {hB:AHeap} {v w:Value} {xs:List α} {cs zero:List Value} (a:α) (Dn:Nat→Prop) {x y:Operand} (o:OwnR c R b h v xs) (e0:Ext hB h) (hb:hB.n≤b) (hbn:b≤h.n) (hc0:0<c) (hl:xs.length≤100000)
  (d:Dep R h cs a Dn) (hD:∀ k,Dn k→b≤k∧k<h.n) (hv:∀ g n k,v= .slice (some ⟨g,0,none⟩) n k→¬Dn g)
  (k:∀ v' h' lit,Ext hB h'→OwnR c R b h' v' (xs++[a])→h.n≤h'.n→(∀ k,k<h.n→(∀ n k',v≠ .slice (some ⟨k,0,none⟩) n k')→h'.get k=h.get k)→(∀ k∈h'.wr,k∈h.wr∨b≤k)→WO P tab l ⟨(t.set d1 lit).set d2 v',ds,rd⟩ h' Q)
  (hx:Ope t x w:=by exact zV) (hw:w.cells=cs.toArray:=by rfl) (hc:cs.length=c:=by rfl) (h1:zL cs=true:=by rfl) (hz:zero.length=c:=by rfl) (hy:∀ u,Ope (t.set d1 u) y v:=by intro u;exact zV):
  WO P tab (⟨some d1,none,.buildSlice 1 c zero [(0,c,x)]⟩::⟨some d2,none,.append c y (.tmp d1)⟩::l) ⟨t,ds,rd⟩ h Q:=by
 have hx:ev t x=w:=hx;refine WO.op (.slice (some ⟨h.n,0,none⟩) 1 c) (h.push (.row cs true 0)) rfl (by
  simp only[aop,z8,List.map_cons,List.map_nil,hx,zD1 hw hc hz,Option.map_some];rfl) ?_
 obtain⟨v',H',q1,q2,q3,q4,q5,q6,q7,q8,q9⟩:=zBL (H:=h.push (.row cs true 0)) (gl:=h.n) o hc hc0 h1 hl hbn d hD hv (Nat.le_succ _) (Nat.lt_succ_self _) (fun k hk=>by rw[zU,if_neg (by omega)]) (zW _ _);have hyv:ev (t.set d1 (.slice (some ⟨h.n,0,none⟩) 1 c)) y=v:=hy _;have e1:ev (t.set d1 (.slice (some ⟨h.n,0,none⟩) 1 c)) (.tmp d1)= .slice (some ⟨h.n,0,none⟩) 1 c:=by simp only[ev,zl,if_true]
 refine WO.op v' H' rfl (by simp only[aop,hyv,e1,q1]) (k v' H' _ ?_ q2 (by rw[q3];show h.n≤h.n+1+1;omega) (fun k hk hvk=> ?_) q6)
 ·have hvb:∀ k,k<hB.n→∀ n k',v≠ .slice (some ⟨k,0,none⟩) n k':=fun k hk n k' e=>by
   rcases o with ⟨e2,_⟩|⟨g,_,_,g1,_,e2,_⟩
   ·rw[e2]at e;cases e
   ·rw[e2]at e;cases e;omega
  refine⟨by rw[q3];show hB.n≤h.n+1+1;have:=e0.n;omega,fun k hk=> ?_,fun w=>q8 ?_,q5.trans e0.mark,fun hm=> ?_⟩
  ·have:=e0.n;rw[q4 k (by show k<h.n+1;omega) (hvb k hk),zU,if_neg (by omega)];exact e0.get k hk
  ·intro k hk;have hk:h.n+1≤k:=hk;rw[zU,if_neg (by omega)];exact e0.wf w k (by omega)
  ·rw[q7 (by show h.mark≤b;rw[e0.mark];omega)];exact e0.wr hm
 ·rw[q4 k (by show k<h.n+1;omega) hvk,zU,if_neg (by omega)]
theorem WO.stC0w {x y:Operand} {p v:Value} {cells cs:List Value} {n:Nat} {h0:AHeap} (o:OwnC h0 h p cells) (e0:Ext h0 h) (k:∀ h',Ext h0 h'→OwnC h0 h' p cs→UpdC p h h'→(∀ k∈h'.wr,k∈h.wr∨h0.n≤k)→WO P tab l ⟨t,ds,rd⟩ h' Q)
  (hx:Ope t x p:=by exact zV) (hy:Ope t y v:=by exact zV) (hv:v.cells=cs.toArray:=by rfl) (hn:cs.length=n:=by rfl) (hl:cells.length=n:=by rfl) (h1:zL cs=true:=by rfl):WO P tab (⟨none,none,.store n x y⟩::l) ⟨t,ds,rd⟩ h Q:=by
 obtain⟨g,g1,g2,rfl,g3⟩:=o;have hx:ev t x= .pointer (some ⟨g,0,none⟩):=hx;have hy:ev t y=v:=hy;have e:zR cells 0 cs=cs:=by simp[zR,hn,hl]
 have hst:zg h ⟨g,0,none⟩ cs=some (h.set g (.row cs true 0)):=by
  have h2:Nat.ble (0+cs.length) cells.length=true:=Nat.ble_eq_true_of_le (by omega);have h0:Nat.ble 0 0=true:=rfl;simp only[zg,g3,h2,h0,h1,Bool.and_self,e];rfl
 have hnn:Nat.beq cs.length n=true:=by rw[hn];exact Nat.beq_refl _
 refine WO.op0 undef (h.set g (.row cs true 0)) rfl ?_ (k _ (e0.set g1 g2 _) ⟨g,g1,g2,rfl,by rw[zP,if_pos rfl]⟩ ⟨Nat.le_refl _,fun k _ hk=> ?_⟩ fun k hk=> ?_)
 ·simp only[aop,hx,hy,hv,List.size_toArray,hnn,hst,Option.map_some,cond_true]
 ·rw[zP,if_neg (fun e=>hk (by rw[e]))]
 ·have hk:k∈h.log g:=hk;rcases yb hk with rfl|h
  ·exact .inr g1
  ·exact .inl h
theorem WO.apNw {d:Nat} {x y:Operand} {v w:Value} {xs ys:List Int} {h0:AHeap} (o:OwnN h0 h v xs) (s:SlI h w ys) (e0:Ext h0 h) (hne:ys≠[]) (hr:xs.length+ys.length≤4294967296)
  (k:∀ v' h',Ext h0 h'→OwnN h0 h' v' (xs++ys)→Upd v h h'→(∀ k∈h'.wr,k∈h.wr∨h0.n≤k)→(∀ g n c,v'= .slice (some ⟨g,0,none⟩) n c→h.n≤g)→WO P tab l ⟨t.set d v',ds,rd⟩ h' Q)
  (hx:Ope t x v:=by exact zV) (hy:Ope t y w:=by exact zV):WO P tab (⟨some d,none,.append 1 x y⟩::l) ⟨t,ds,rd⟩ h Q:=by
 have hx:ev t x=v:=hx;have hy:ev t y=w:=hy;have hsrc:=Ye s;have hroom:room=4294967296:=rfl;obtain⟨z,zs,rfl⟩:∃ z zs,ys=z::zs:=by
  cases ys with
  |nil=>exact absurd rfl hne
  |cons z zs=>exact⟨z,zs,rfl⟩
 have hone:zL (I z::zs.map I)=true:=zGa (z::zs);have hlen:(I z::zs.map I).length / 1=(z::zs).length:=by simp
 rcases o with ⟨rfl,rfl⟩|⟨g,g1,g2,rfl,g3⟩
 ·have h1:Nat.ble (z::zs).length room=true:=Nat.ble_eq_true_of_le (by rw[hroom];simpa using hr);refine WO.op (.slice (some ⟨h.n,0,none⟩) (z::zs).length 1) (h.push (.row ((z::zs).map I) true 0)) rfl ?_ (k _ _ (e0.push _) (.inr ⟨h.n,e0.n,by simp[AHeap.push],rfl,zW _ _⟩) ⟨Nat.le_succ _,fun k hk _=> ?_⟩ (fun k hk=> .inl hk) fun g n c e=>by cases e;exact Nat.le_refl _)
  ·simp only[aop,hx,hy,yV,hsrc,List.map_cons,hone,hlen,h1,Bool.not_true,cond_true,cond_false];rfl
  ·rw[zU,if_neg (by omega)]
 ·have h1:Nat.ble (xs.length+(z::zs).length) room=true:=Nat.ble_eq_true_of_le (by rw[hroom];exact hr);have h2:cut (xs.map I) 0 (xs.length * 1)=some (xs.map I):=by rw[Zi (by simp)];simp[List.take_of_length_le]
  have hn:(h.kill g).n=h.n:=rfl;have h3:Nat.ble 0 (0+xs.length * 1)=true:=Nat.ble_eq_true_of_le (Nat.zero_le _);refine WO.op (.slice (some ⟨h.n,0,none⟩) (xs.length+(z::zs).length) 1) ((h.kill g).push (.row (xs.map I++(z::zs).map I) true (0 - 0))) rfl ?_
   (k _ _ ((e0.kill g1).push _) (.inr ⟨h.n,e0.n,by simp[AHeap.push,AHeap.kill],by simp,?_⟩) ⟨Nat.le_succ _,fun k hk hv=> ?_⟩ (fun k hk=> ?_) fun g n c e=>by cases e;exact Nat.le_refl _)
  ·simp only[aop,hx,hy,yV,hsrc,List.map_cons,hone,hlen,h1,g3,h2,h3,Bool.not_true,cond_true,cond_false];rfl
  ·have:=zW (h.kill g) (.row (xs.map I++(z::zs).map I) true (0 - 0));rw[hn]at this;rw[this];simp
  ·rw[zU,if_neg (by rw[hn];omega),yr,if_neg (fun e=>hv _ _ _ rfl e.symm)]
  ·have hk:k∈h.log g:=hk;rcases yb hk with rfl|h
   ·exact .inr g1
   ·exact .inl h
end
section
variable {P:Program} {tab:Tab} {m N0:Nat} {l:List (AOper×List Nat)} {o:AOper} {g:Nat} {cl:Bool} {fr:AFr} {h h0 h':AHeap} {Q:AFr→AHeap→Prop} {K:AExit→AFr→AHeap→Prop} {x:AOper×List Nat} {t:Trie Value}
theorem zEl (hw:∀ k∈h'.wr,m≤k) (hn:h.n≤h'.n) (hx:K .normal fr (outC h0 h')):uK2 P tab m N0 [] t o (inC h) [] g cl (zBD K h0) fr h':=⟨⟨hw,hn,.inl rfl⟩,hx⟩
theorem uK2_wl (hw:∀ k∈h'.wr,m≤k) (hn:h.n≤h'.n) (hx:∀ cl',WU2 P tab m N0 (x::l) g cl' fr (inC h') Q):uK2 P tab m N0 [] t o (inC h) (x::l) g cl Q fr h':=⟨⟨hw,hn,.inl rfl⟩,by
 have:=hx (cl&&h'.wr.isEmpty);obtain⟨y,un⟩:=x;unfold WU2 at this ⊢;exact this⟩
theorem zH4 {j n:Nat} {d:Option Nat} {gd:Option (Nat×Bool)} {agg:Bool} {x:Operand} {v:Value} {un:List Nat} (hv:∃ a n k,v= .slice (some a) n k∧a.block<N0) (hx:WU2 P tab m N0 l g true fr (inC h) Q) (hr:Ope t x (zi v j):=by exact zV):
  uK2 P tab m N0 un t ⟨d,gd,.load agg n x⟩ (inC h) l g true Q fr (inC h):=by
 obtain⟨a,n',k',rfl,hb⟩:=hv;refine zEc (fun k hk=> ?_) hx;unfold Ope zi at hr;cases hw:zO t gd with
 |false=>simp only[zX,hw,cond_false]at hk;cases hk
 |true=>
  simp only[zX,hw,cond_true,hr,Option.some.injEq]at hk;omega
theorem uK2_gT {j n:Nat} {b:Bool} {d:Option Nat} {agg:Bool} {x:Operand} {un:List Nat} (hx:WU2 P tab m N0 l g true fr (inC h) Q) (s:Slot t j (.bool b):=by exact Zb) (hb:b=false:=by exact YG):
  uK2 P tab m N0 un t ⟨d,some (j,true),.load agg n x⟩ (inC h) l g true Q fr (inC h):=by
 refine zEc (fun k hk=> ?_) hx;unfold Slot at s;subst hb;have hw:zO t (some (j,true))=false:=by simp only[zO,s];rfl
 simp only[zX,hw,cond_false]at hk;cases hk
theorem uK2_gF {j n:Nat} {b:Bool} {d:Option Nat} {agg:Bool} {x:Operand} {un:List Nat} (hx:WU2 P tab m N0 l g true fr (inC h) Q) (s:Slot t j (.bool b):=by exact Zb) (hb:b=true:=by exact YG):
  uK2 P tab m N0 un t ⟨d,some (j,false),.load agg n x⟩ (inC h) l g true Q fr (inC h):=by
 refine zEc (fun k hk=> ?_) hx;unfold Slot at s;subst hb;have hw:zO t (some (j,false))=false:=by simp only[zO,s];rfl
 simp only[zX,hw,cond_false]at hk;cases hk
theorem uK2_gU {j n:Nat} {want:Bool} {d:Option Nat} {agg:Bool} {x:Operand} {un:List Nat} (hx:WU2 P tab m N0 l g true fr (inC h) Q) (s:Slot t j undef:=by exact Zb):
  uK2 P tab m N0 un t ⟨d,some (j,want),.load agg n x⟩ (inC h) l g true Q fr (inC h):=by
 refine zEc (fun k hk=> ?_) hx;unfold Slot at s;have hw:zO t (some (j,want))=false:=by simp only[zO,s];rfl
 simp only[zX,hw,cond_false]at hk;cases hk
end
theorem Yy {α:Type} {c i:Nat} {R:AHeap→List Value→α→Prop} {h:AHeap} {v:Value} {l:List α} (s:SlR c R h v l) (hl:0<l.length) (hi:i≤l.length):∃ r,Yp c v (some i) none none=some r∧SlR c R h r (l.drop i):=by
 obtain⟨cells,⟨h1,⟨h2,_⟩|⟨g,off,row,rfl,h3,h4,h5⟩⟩,hR⟩:=s
 ·omega
 have hmul:i * c≤l.length * c:=Nat.mul_le_mul_right _ hi;have hlen:(l.drop i).length=l.length - i:=List.length_drop ..;have hsub:(l.length - i) * c=l.length * c - i * c:=Nat.sub_mul ..;refine⟨.slice (some ⟨g,off+i * c,none⟩) (l.length - i) c,?_,cells.drop (i * c),⟨by rw[List.length_drop,hlen,hsub];omega,.inr ⟨g,off+i * c,row,by rw[hlen],h3,?_,h5⟩⟩,fun j a ha=> ?_⟩
 ·have b1:Nat.ble i l.length=true:=Nat.ble_eq_true_of_le hi;have b2:Nat.ble l.length l.length=true:=Nat.ble_eq_true_of_le (Nat.le_refl _);simp only[Yp,Option.getD_none,Option.getD_some,b1,b2,Option.isNone_none,Bool.and_self,cond_true,Nat.beq_refl]
 ·rw[hlen,hsub];obtain⟨c1,c2⟩:=zC6 h4;rw[Zi (by omega),c2,List.drop_take,List.drop_drop]
 ·have hj:j<l.length - i:=by have:=(List.getElem?_eq_some_iff.1 ha).1;omega
  have hja:l[i+j]?=some a:=by rw[List.getElem?_drop]at ha;exact ha
  have:=hR (i+j) a hja;rw[List.drop_drop,show i * c+j * c=(i+j) * c from (Nat.add_mul ..).symm];exact this
section
variable {α:Type} {c b:Nat} {R:AHeap→List Value→α→Prop}
theorem one_all {cells:List Value} {n:Nat} (hc:0<c) (hl:cells.length=n * c) (h:∀ i,i<n→zL ((cells.drop (i * c)).take c)=true):zL cells=true:=by
 unfold zL at *;rw[List.all_eq_true];intro x hx;obtain⟨j,hj,rfl⟩:=List.getElem_of_mem hx;have hi:j / c<n:=by rw[Nat.div_lt_iff_lt_mul hc];omega
 have h1:=List.all_eq_true.1 (h (j / c) hi);refine h1 _ ?_;have hd:j / c * c+j % c=j:=by rw[Nat.mul_comm];exact Nat.div_add_mod ..
 have hm:j % c<c:=Nat.mod_lt _ hc;rw[List.mem_iff_getElem];refine⟨j % c,by rw[List.length_take,List.length_drop];omega,?_⟩;rw[List.getElem_take,List.getElem_drop];congr 1
variable {P:Program} {tab:Tab} {t:Trie Value} {h:AHeap} {ds:List Deferred} {rd:Option Nat} {l:List AOper} {Q:AFr→AHeap→Prop}
theorem WO.apAll {d:Nat} {hB:AHeap} {x y:Operand} {v w:Value} {ys:List α} (o:OwnR c R b h v ([]:List α)) (s:SlR c R h w ys) (hc:0<c) (hind:∀ cs a,R h cs a→Dep R h cs a (fun _=>False)) (hone:∀ cs a,R h cs a→zL cs=true)
  (e0:Ext hB h) (hb:hB.n≤b) (hbn:b≤h.n) (hl:ys.length≤100000) (k:∀ v' h',Ext hB h'→OwnR c R b h' v' ys→WO P tab l ⟨t.set d v',ds,rd⟩ h' Q) (hx:Ope t x v:=by exact zV) (hy:Ope t y w:=by exact zV):
  WO P tab (⟨some d,none,.append c x y⟩::l) ⟨t,ds,rd⟩ h Q:=by
 have hx:ev t x=v:=hx;have hy:ev t y=w:=hy;have hroom:room=4294967296:=rfl;obtain⟨cells,⟨hlen,hcase⟩,hR⟩:=s;have hpc:∀ i,i<ys.length→∃ a,ys[i]?=some a∧R h ((cells.drop (i * c)).take c) a:=fun i hi=>⟨ys[i],List.getElem?_eq_getElem hi,hR i _ (List.getElem?_eq_getElem hi)⟩;by_cases hy0:ys.length=0
 ·have hsrc:yI c h w=some []:=by
   rcases hcase with ⟨_,rfl|⟨a,k',rfl⟩⟩|⟨g,off,row,rfl,_⟩
   ·rfl
   ·rfl
   ·rw[hy0];rfl
  have hys:ys=[]:=List.eq_nil_of_length_eq_zero hy0;subst hys;have hv:∃ a n k,v= .slice a n k∧(a=none→n=0∧k=0):=by
   rcases o with ⟨rfl,_⟩|⟨g,_,_,_,_,rfl,_⟩
   ·exact⟨_,_,_,rfl,fun _=>⟨rfl,rfl⟩⟩
   ·exact⟨_,_,_,rfl,fun h=>by cases h⟩
  refine WO.op v h rfl ?_ (k v h e0 o);obtain⟨a,n,kk,rfl,ha⟩:=hv;cases a with
  |none=>obtain⟨rfl,rfl⟩:=ha rfl;simp only[aop,hx,hy,yV,hsrc]
  |some a=>simp only[aop,hx,hy,yV,hsrc]
 ·obtain⟨g,off,row,rfl,hrow,hcut,hg⟩:=hcase.resolve_left (fun h=>hy0 h.1);have hbe:Nat.beq ys.length 0=false:=by cases hb:Nat.beq ys.length 0 with
   |false=>rfl
   |true=>exact absurd (Nat.eq_of_beq_eq_true hb) hy0
  have hsrc:yI c h (.slice (some ⟨g,off,none⟩) ys.length c)=some cells:=by
   simp only[yI,hbe,Nat.beq_refl,Option.isNone_none,Bool.and_self,cond_true,cond_false,hrow,hcut]
  have h1:zL cells=true:=one_all hc hlen fun i hi=>by
   obtain⟨a,_,r⟩:=hpc i hi;exact hone _ _ r
  obtain⟨z,zs,hz⟩:∃ z zs,cells=z::zs:=by
   cases hcl:cells with
   |nil=>exfalso;rw[hcl,List.length_nil]at hlen;have:0<ys.length * c:=Nat.mul_pos (by omega) hc;omega
   |cons z zs=>exact⟨z,zs,rfl⟩
  have hdiv:(z::zs).length / c=ys.length:=by rw[←hz,hlen];exact Nat.mul_div_cancel _ hc
  rw[hz]at hsrc h1;have hcc:Nat.beq c 0=false:=by cases hz:Nat.beq c 0 with
   |false=>rfl
   |true=>have:=Nat.eq_of_beq_eq_true hz;omega
  have fin:∀ H:AHeap,h.n<H.n→H.get h.n=some (.row (z::zs) true 0)→OwnR c R b H (.slice (some ⟨h.n,0,none⟩) ys.length c) ys:=fun H hn hget=>
   .inr ⟨h.n,z::zs,fun _=>False,hbn,hn,rfl,hget,by rw[←hz];exact hlen,fun h=>h,fun k hk=>hk.elim,fun i a ha=>by
    rw[←hz];exact(hind _ _ (hR i a ha)).mono (fun _ h=>h) (fun _ _ h=>h.elim) (by omega)⟩
  rcases o with ⟨rfl,_⟩|⟨g0,zGr,D,g1,g2,rfl,g4,g5,_⟩
  ·have hb1:Nat.ble ys.length room=true:=Nat.ble_eq_true_of_le (by omega);refine WO.op (.slice (some ⟨h.n,0,none⟩) ys.length c) (h.push (.row (z::zs) true 0)) rfl ?_ (k _ _ (e0.push _) (fin _ (Nat.lt_succ_self _) (zW _ _)));simp only[aop,hx,hy,yV,hsrc,h1,Bool.not_true,cond_false,hdiv,hb1,cond_true];rfl
  ·have hc0:zGr=[]:=List.eq_nil_of_length_eq_zero (by rw[g5,List.length_nil,Nat.zero_mul]);subst hc0;have hb1:Nat.ble (0+ys.length) room=true:=Nat.ble_eq_true_of_le (by omega);have h2:cut [] 0 (0 * c)=some ([]:List Value):=by rw[Nat.zero_mul];rfl
   have h3:Nat.ble 0 (0+0 * c)=true:=Nat.ble_eq_true_of_le (Nat.zero_le _);refine WO.op (.slice (some ⟨h.n,0,none⟩) (0+ys.length) c) ((h.kill g0).push (.row ([]++z::zs) true (0 - 0))) rfl ?_ (k _ _ ((e0.kill (Nat.le_trans hb g1)).push _) ?_)
   ·simp only[aop,hx,hy,yV,hsrc,h1,Bool.not_true,cond_false,hdiv,List.length_nil,hb1,hcc,Nat.beq_refl,g4,h2,h3,cond_true,Option.isNone_none,Bool.and_self]
   ·rw[Nat.zero_add];exact fin _ (Nat.lt_succ_self _) (zW (h.kill g0) _)
end
theorem zD2 {l cs:List Value} {k:Nat} (h:k+cs.length≤l.length) (m:Nat):(zR l k cs)[m]?=if m<k then l[m]? else if m<k+cs.length then cs[m - k]? else l[m]?:=by
 unfold zR;by_cases h1:m<k
 ·rw[if_pos h1,List.append_assoc,List.getElem?_append_left (by rw[List.length_take];omega),List.getElem?_take,if_pos h1]
 ·rw[if_neg h1,List.append_assoc,List.getElem?_append_right (by rw[List.length_take];omega),List.length_take,Nat.min_eq_left (by omega)];by_cases h2:m<k+cs.length
  ·rw[if_pos h2,List.getElem?_append_left (by omega)]
  ·rw[if_neg h2,List.getElem?_append_right (by omega),List.getElem?_drop];congr 1;omega
theorem zIq {l cs:List Value} {k:Nat} (h:k+cs.length≤l.length):(zR l k cs).length=l.length:=by
 unfold zR;simp only[List.length_append,List.length_take,List.length_drop];omega
theorem zCP {l:List Value} {a c m:Nat}:((l.drop a).take c)[m]?=if m<c then l[a+m]? else none:=by
 rw[List.getElem?_take];split
 ·rw[List.getElem?_drop]
 ·rfl
theorem zGi {cells cs:List Value} {n c i j off:Nat} (hl:cells.length=n * c) (hi:i<n) (hj:j<n) (ho:off+cs.length≤c):
  ((zR cells (i * c+off) cs).drop (j * c)).take c=if j=i then zR ((cells.drop (i * c)).take c) off cs else (cells.drop (j * c)).take c:=by
 have hic:i * c+c≤n * c:=by rw[←Nat.succ_mul];exact Nat.mul_le_mul_right _ hi
 have hjc:j * c+c≤n * c:=by rw[←Nat.succ_mul];exact Nat.mul_le_mul_right _ hj
 refine List.ext_getElem? fun m=> ?_;rw[zCP,zD2 (by omega)];by_cases e:j=i
 ·subst e;rw[if_pos rfl,zD2 (by rw[List.length_take,List.length_drop];omega),zCP];by_cases h1:m<c
  ·rw[if_pos h1,if_pos h1];by_cases h2:m<off
   ·rw[if_pos (show j * c+m<j * c+off by omega),if_pos h2]
   ·rw[if_neg (show ¬j * c+m<j * c+off by omega),if_neg h2];by_cases h3:m<off+cs.length
    ·rw[if_pos (show j * c+m<j * c+off+cs.length by omega),if_pos h3];congr 1;omega
    ·rw[if_neg (show ¬j * c+m<j * c+off+cs.length by omega),if_neg h3]
  ·rw[if_neg h1,if_neg h1,if_neg (by omega),if_neg (by omega)]
 ·rw[if_neg e,zCP];by_cases h1:m<c
  ·rw[if_pos h1,if_pos h1];rcases Nat.lt_or_gt_of_ne e with h|h
   ·have:j * c+c≤i * c:=by rw[←Nat.succ_mul];exact Nat.mul_le_mul_right _ h
    rw[if_pos (show j * c+m<i * c+off by omega)]
   ·have:i * c+c≤j * c:=by rw[←Nat.succ_mul];exact Nat.mul_le_mul_right _ h
    rw[if_neg (show ¬j * c+m<i * c+off by omega),if_neg (show ¬j * c+m<i * c+off+cs.length by omega)]
  ·rw[if_neg h1,if_neg h1]
section
variable {α:Type} [Inhabited α] {c b:Nat} {R:AHeap→List Value→α→Prop} {h:AHeap} {v:Value} {xs:List α}
theorem own_row {i off:Nat} {cs:List Value} {a:α} (o:OwnR c R b h v xs) (hi:i<xs.length) (ho:off+cs.length≤c) (hR:∀ old hx,R h old (xs.getD i default)→old.length=c→R hx (zR old off cs) a):
  ∃ g row,b≤g∧g<h.n∧v= .slice (some ⟨g,0,none⟩) xs.length c∧h.get g=some (.row row true 0)∧i * c+off+cs.length≤row.length∧∀ H:AHeap,h.n≤H.n→H.get g=some (.row (zR row (i * c+off) cs) true 0)→(∀ k,k<h.n→k≠g→H.get k=h.get k)→OwnR c R b H v (xs.set i a):=by
 rcases o with ⟨_,rfl⟩|⟨g,cells,D,g1,g2,rfl,g4,g5,g6,g7,g8⟩
 ·simp at hi
 have hic:i * c+c≤xs.length * c:=by rw[←Nat.succ_mul];exact Nat.mul_le_mul_right _ hi
 refine⟨g,cells,g1,g2,rfl,g4,by omega,fun H hn hg hk=> ?_⟩;refine .inr ⟨g,_,D,g1,Nat.lt_of_lt_of_le g2 hn,by rw[List.length_set],hg,by rw[zIq (by omega),List.length_set];exact g5,g6,fun k hd=>⟨(g7 k hd).1,Nat.lt_of_lt_of_le (g7 k hd).2 hn⟩,fun j x hx=> ?_⟩;have hj:j<xs.length:=by have:=(List.getElem?_eq_some_iff.1 hx).1;rwa [List.length_set]at this
 have hkk:∀ k o,D k→h.get k=some o→H.get k=some o:=fun k o hd e=>(hk k (g7 k hd).2 (fun e2=>g6 (e2▸hd))).trans e;rw[zGi g5 hi hj ho];by_cases e:j=i
 ·subst e;rw[if_pos rfl];rw[List.getElem?_set_self hi]at hx;cases hx;intro hx2 _ _;refine hR _ _ (?_:R h _ _) ?_
  ·have:=(g8 j xs[j] (List.getElem?_eq_getElem hi)).self;rw[List.getD_eq_getElem?_getD,List.getElem?_eq_getElem hi];exact this
  ·rw[List.length_take,List.length_drop];omega
 ·rw[if_neg e];rw[List.getElem?_set_ne (fun h=>e h.symm)]at hx;exact(g8 j x hx).mono (fun _ h=>h) hkk hn
theorem own_stR {i off:Nat} {cs:List Value} {a:α} (o:OwnR c R b h v xs) (hi:i<xs.length) (ho:off+cs.length≤c) (h1:zL cs=true) (hR:∀ old hx,R h old (xs.getD i default)→old.length=c→R hx (zR old off cs) a):
  ∃ g row,b≤g∧g<h.n∧v= .slice (some ⟨g,0,none⟩) xs.length c∧zg h ⟨g,i * c+off,none⟩ cs=some (h.set g (.row row true 0))∧∀ H:AHeap,h.n≤H.n→H.get g=some (.row row true 0)→(∀ k,k<h.n→k≠g→H.get k=h.get k)→OwnR c R b H v (xs.set i a):=by
 obtain⟨g,row,g1,g2,g3,g4,g5,g6⟩:=own_row o hi ho hR;refine⟨g,_,g1,g2,g3,?_,g6⟩;have h2:Nat.ble (i * c+off+cs.length) row.length=true:=Nat.ble_eq_true_of_le g5;have h3:Nat.ble 0 (i * c+off)=true:=Nat.ble_eq_true_of_le (Nat.zero_le _);simp only[zg,g4,h2,h3,h1,Option.isNone_none,Bool.and_self,cond_true]
variable {P:Program} {tab:Tab} {t:Trie Value} {ds:List Deferred} {rd:Option Nat} {l:List AOper} {Q:AFr→AHeap→Prop}
theorem WU2.stR {hB hS X:AHeap} {N0 m g:Nat} {cl:Bool} {i off n:Nat} {cs:List Value} {x y:Operand} {u:Value} {K:AExit→AFr→AHeap→Prop} (a:α) (o:OwnR c R b X v xs) (e0:Ext hB hS) (hm:hS.mark≤hB.n) (hX:outC hS X=hS) (hb:hB.n≤b) (hi:i<xs.length) (hR:∀ old hx,R X old (xs.getD i default)→old.length=c→R hx (zR old off cs) a)
  (k:∀ h',Ext hB h'→OwnR c R b h' v (xs.set i a)→h'.n=hS.n→(∀ k,k<hS.n→(∀ n k',v≠ .slice (some ⟨k,0,none⟩) n k')→h'.get k=hS.get k)→K .normal ⟨t,ds,rd⟩ h')
  (hx:Ope t x (zi v (i * c+off)):=by exact zV) (hy:Ope t y u:=by exact zV) (hu:u.cells=cs.toArray:=by rfl) (hn:cs.length=n:=by rfl) (ho:off+cs.length≤c:=by decide) (h1:zL cs=true:=by rfl) (hm0:m=hS.mark:=by rfl):
  WU2 P tab m N0 [(⟨none,none,.store n x y⟩,[])] g cl ⟨t,ds,rd⟩ (inC X) (zBD K hS):=by
 subst hm0;obtain⟨q,row,q1,q2,rfl,hst,hown⟩:=own_stR o hi ho h1 hR;have hx:ev t x= .pointer (some ⟨q,0+(i * c+off),none⟩):=hx;rw[Nat.zero_add]at hx;have hy:ev t y=u:=hy;have hnn:Nat.beq cs.length n=true:=by rw[hn];exact Nat.beq_refl _
 have gX:∀ c,X.get c=hS.get c:=fun c=>by have:=congrArg (fun h:AHeap=>h.get c) hX;exact this
 have nX:X.n=hS.n:=by have:=congrArg AHeap.n hX;exact this
 rw[WU2,if_neg (show ¬Nat.beq (zH (AOp.store n x y)) 3=true from Bool.noConfusion)];have hst':zg (inC (inC X)) ⟨q,i * c+off,none⟩ cs=some ((inC (inC X)).set q (.row row true 0)):=by
  have e1:(inC (inC X)).get q=X.get q:=rfl;unfold zg at hst ⊢;rw[e1];cases hq:X.get q with
  |none=>rw[hq]at hst;cases hst
  |some o=>
   rw[hq]at hst;cases o with
   |row cells own lo=>
    cases own with
    |false=>cases hst
    |true=>
     simp only at hst ⊢;cases hbb:(Nat.ble (i * c+off+cs.length) cells.length&&Nat.ble lo (i * c+off)&&Option.isNone (none:Option _)&&zL cs)with
     |false=>rw[hbb]at hst;cases hst
     |true=>
      rw[hbb]at hst;simp only[cond_true,Option.some.injEq]at hst ⊢;have:=congrArg (fun H:AHeap=>H.get q) hst;simp only[zP,if_true,Option.some.injEq]at this;rw[this]
   |_=>cases hst
 refine WO.op0 undef ((inC (inC X)).set q (.row row true 0)) rfl (by
  simp only[aop,hx,hy,hu,List.size_toArray,hnn,hst',Option.map_some,cond_true]) ?_
 refine WO.nil ⟨⟨fun k hk=> ?_,Nat.le_refl _,.inl rfl⟩,?_⟩
 ·have hk2:k∈(inC (inC X)).log q:=hk;rcases yb hk2 with rfl|hk3
  ·omega
  ·cases hk3
 have get2:∀ k,(outC hS ((inC (inC X)).set q (.row row true 0))).get k=if k=q then some (.row row true 0) else hS.get k:=fun k=>by
  have e1:((inC (inC X)).set q (.row row true 0)).get k=if k=q then some (.row row true 0) else (inC (inC X)).get k:=zP ..;refine e1.trans ?_;split
  ·rfl
  ·exact gX k
 refine k (outC hS ((inC (inC X)).set q (.row row true 0))) ?_ (hown _ (Nat.le_refl _) (by rw[get2,if_pos rfl]) (fun k _ hk=>by rw[get2,if_neg hk,gX])) nX (fun c hc hv=>by rw[get2,if_neg (fun e=>hv _ _ (by rw[e]))]);refine⟨by show hB.n≤X.n;rw[nX];exact e0.n,fun c hc=>by rw[get2,if_neg (by omega)];exact e0.get c hc,fun w c hc=> ?_,e0.mark,fun hmk=>e0.wr hmk⟩;have hc:X.n≤c:=hc;rw[get2,if_neg (by omega)];exact e0.wf w c (by omega)
end
section
variable {P:Program} {tab:Tab} {t:Trie Value} {h:AHeap} {ds:List Deferred} {rd:Option Nat} {l:List AOper} {Q:AFr→AHeap→Prop}
end
def setM (a b:Int):List (Int×Int)→List (Int×Int)
 |[]=>[(a,b)]
 |(k,v)::es=>if a == k then (k,b)::es else (k,v)::setM a b es
def zA0 (a:Int):List (Int×Int)→List (Int×Int)
 |[]=>[]
 |(k,v)::es=>if a == k then es else (k,v)::zA0 a es
theorem zEh {a b:Int}:∀ {es:List (Int×Int)},es.lookup a=none→setM a b es=es++[(a,b)]
 |[],_=>rfl
 |(k,v)::es,h=>by
  rw[List.lookup_cons]at h;split at h
  ·cases h
  ·rename_i hk;rw[setM,hk];simp only[Bool.false_eq_true,if_false,List.cons_append];rw[zEh h]
theorem zES {a:Int}:∀ {es:List (Int×Int)},es.lookup a=none→zA0 a es=es
 |[],_=>rfl
 |(k,v)::es,h=>by
  rw[List.lookup_cons]at h;split at h
  ·cases h
  ·rename_i hk;rw[zA0,hk];simp only[Bool.false_eq_true,if_false];rw[zES h]
theorem zDX {n v:Int}:∀ {es':List MapEntry} {es:List (Int×Int)} (i:Nat),es'.map (fun e=>(e.key,e.val))=es.map (fun e=>(I e.1,I e.2))→es.lookup n=some v→
  ∃ j,ZS (I n) es' i=some (some (i+j,I v))∧(∀ b:Int,(Za (I b) es' j).map (fun e=>(e.key,e.val))=(setM n b es).map fun e=>(I e.1,I e.2))∧(zAI es' j).map (fun e=>(e.key,e.val))=(zA0 n es).map fun e=>(I e.1,I e.2)
 |[],[],_,_,hl=>by cases hl
 |[],_::_,_,h,_=>by cases h
 |_::_,[],_,h,_=>by cases h
 |e::es',(k,w)::es,i,h,hl=>by
  simp only[List.map_cons,List.cons.injEq,Prod.mk.injEq]at h;rw[List.lookup_cons]at hl;split at hl
  ·rename_i hk;cases hl;have hke:n=k:=eq_of_beq hk;have:Yw (I n) e.key=some true:=by rw[h.1.1];simp only[Yw,if_true];rw[hk]
   refine⟨0,by simp only[ZS,this,h.1.2,Nat.add_zero],fun b=> ?_,?_⟩
   ·simp only[Za,setM,hk,if_true,List.map_cons,h.1.1,h.2]
   ·simp only[zAI,zA0,hk,if_true,h.2]
  ·rename_i hk;have:Yw (I n) e.key=some false:=by rw[h.1.1];simp only[Yw,if_true];rw[hk]
   obtain⟨j,hj,hs,hd⟩:=zDX (i+1) h.2 hl;refine⟨j+1,by simp only[ZS,this,hj];congr 3;omega,fun b=> ?_,?_⟩
   ·simp only[Za,setM,hk,Bool.false_eq_true,if_false,List.map_cons,h.1.1,h.1.2,hs b]
   ·simp only[zAI,zA0,hk,Bool.false_eq_true,if_false,List.map_cons,h.1.1,h.1.2,hd]
section
variable {P:Program} {tab:Tab} {t:Trie Value} {h h0:AHeap} {ds:List Deferred} {rd:Option Nat} {l:List AOper} {Q:AFr→AHeap→Prop}
theorem WO.upM {m kx vx:Operand} {mv:Value} {a b:Int} {es:List (Int×Int)} (o:OwnM h0 h mv es) (e0:Ext h0 h) (k:∀ h',Ext h0 h'→OwnM h0 h' mv (setM a b es)→UpdM mv h h'→WO P tab l ⟨t,ds,rd⟩ h' Q)
  (hm:Ope t m mv:=by exact zV) (hk:Ope t kx (I a):=by exact zV) (hv:Ope t vx (I b):=by exact zV):WO P tab (⟨none,none,.update m kx vx⟩::l) ⟨t,ds,rd⟩ h Q:=by
 have hm:ev t m=mv:=hm;have hk:ev t kx=I a:=hk;have hv:ev t vx=I b:=hv;cases hl:es.lookup a with
 |none=>rw[zEh hl]at k;exact WO.updateNew hm hk hv o e0 hl k
 |some w=>
  obtain⟨g,c,es',g1,g2,rfl,g4,g5⟩:=o;obtain⟨j,hj,hs,_⟩:=zDX 0 g5 hl;rw[Nat.zero_add]at hj;refine WO.op0 undef (h.set g (.map (Za (I b) es' j) c)) rfl (by simp only[aop,hm,hk,hv,g4,hj]) (k _ (e0.set g1 g2 _) ⟨g,c,_,g1,g2,rfl,by rw[zP,if_pos rfl],hs b⟩
   ⟨Nat.le_refl _,fun q _ hq=>by rw[zP,if_neg (fun e=>hq (by rw[e]))]⟩)
theorem WO.dlM {m kx:Operand} {mv:Value} {a:Int} {es:List (Int×Int)} (o:OwnM h0 h mv es) (e0:Ext h0 h) (k:∀ h',Ext h0 h'→OwnM h0 h' mv (zA0 a es)→UpdM mv h h'→WO P tab l ⟨t,ds,rd⟩ h' Q)
  (hm:Ope t m mv:=by exact zV) (hk:Ope t kx (I a):=by exact zV):WO P tab (⟨none,none,.delete m kx⟩::l) ⟨t,ds,rd⟩ h Q:=by
 have hm:ev t m=mv:=hm;have hk:ev t kx=I a:=hk;obtain⟨g,c,es',g1,g2,rfl,g4,g5⟩:=o;cases hl:es.lookup a with
 |none=>
  refine WO.op0 (.tuple #[]) (h.set g (.map es' c)) rfl (by simp only[aop,hm,hk,g4,Y4 0 g5 hl]) (k _ (e0.set g1 g2 _) ⟨g,c,_,g1,g2,rfl,by rw[zP,if_pos rfl],by rw[zES hl];exact g5⟩
   ⟨Nat.le_refl _,fun q _ hq=>by rw[zP,if_neg (fun e=>hq (by rw[e]))]⟩)
 |some w=>
  obtain⟨j,hj,_,hd⟩:=zDX 0 g5 hl;rw[Nat.zero_add]at hj;refine WO.op0 (.tuple #[]) (h.set g (.map (zAI es' j) c)) rfl (by simp only[aop,hm,hk,g4,hj]) (k _ (e0.set g1 g2 _) ⟨g,c,_,g1,g2,rfl,by rw[zP,if_pos rfl],hd⟩
   ⟨Nat.le_refl _,fun q _ hq=>by rw[zP,if_neg (fun e=>hq (by rw[e]))]⟩)
theorem WO.clM {m:Operand} {mv:Value} {es:List (Int×Int)} (o:OwnM h0 h mv es) (e0:Ext h0 h) (k:∀ h',Ext h0 h'→OwnM h0 h' mv []→UpdM mv h h'→WO P tab l ⟨t,ds,rd⟩ h' Q)
  (hm:Ope t m mv:=by exact zV):WO P tab (⟨none,none,.clear m⟩::l) ⟨t,ds,rd⟩ h Q:=by
 have hm:ev t m=mv:=hm;obtain⟨g,c,es',g1,g2,rfl,g4,g5⟩:=o;exact WO.op0 (.tuple #[]) (h.set g (.map [] c)) rfl (by simp only[aop,hm,g4]) (k _ (e0.set g1 g2 _) ⟨g,c,_,g1,g2,rfl,by rw[zP,if_pos rfl],rfl⟩
  ⟨Nat.le_refl _,fun q _ hq=>by rw[zP,if_neg (fun e=>hq (by rw[e]))]⟩)
theorem WO.lkM {d:Nat} {m kx:Operand} {mv:Value} {a:Int} {z:Value} {es:List (Int×Int)} (o:OwnM h0 h mv es) (k:WO P tab l ⟨t.set d (match es.lookup a with|some v=> .tuple #[I v,.bool true]|none=> .tuple #[z,.bool false]),ds,rd⟩ h Q)
  (hm:Ope t m mv:=by exact zV) (hk:Ope t kx (I a):=by exact zV):WO P tab (⟨some d,none,.lookup true z m kx⟩::l) ⟨t,ds,rd⟩ h Q:=WO.lookup2 hm hk o k
theorem WO.lnM {d:Nat} {m:Operand} {mv:Value} {es:List (Int×Int)} (o:OwnM h0 h mv es) (k:WO P tab l ⟨t.set d (I es.length),ds,rd⟩ h Q) (hm:Ope t m mv:=by exact zV):WO P tab (⟨some d,none,.lenMap m⟩::l) ⟨t,ds,rd⟩ h Q:=by
 have hm:ev t m=mv:=hm;obtain⟨g,c,es',g1,g2,rfl,g4,g5⟩:=o;refine WO.op _ h rfl ?_ k;have:es'.length=es.length:=by simpa using congrArg List.length g5
 simp only[aop,hm,g4,this]
end
theorem zFe {a b c:Int}:∀ {es:List (Int×Int)},(setM a b es).lookup c=if c=a then some b else es.lookup c
 |[]=>by
  rw[setM,List.lookup_cons];by_cases h:c=a
  ·subst h;simp
  ·rw[if_neg h,beq_eq_false_iff_ne.2 h]
 |(k,v)::es=>by
  unfold setM;by_cases hk:a=k
  ·subst hk;simp only[beq_self_eq_true,if_true,List.lookup_cons];by_cases h:c=a
   ·subst h;simp
   ·rw[if_neg h,beq_eq_false_iff_ne.2 h]
  ·rw[if_neg (by simpa using hk),List.lookup_cons,List.lookup_cons,zFe];by_cases h:c=k
   ·subst h;have hca:¬c=a:=fun e=>hk e.symm;simp[hca]
   ·rw[beq_eq_false_iff_ne.2 h]
def ZW (es:List (Int×Int)):Prop:=(es.map (·.1)).Nodup
theorem look_mem {c:Int}:∀ {es:List (Int×Int)},es.lookup c≠none↔c∈es.map (·.1)
 |[]=>by simp
 |(k,v)::es=>by
  rw[List.lookup_cons,List.map_cons,List.mem_cons];by_cases h:c=k
  ·subst h;simp
  ·rw[beq_eq_false_iff_ne.2 h];exact look_mem.trans ⟨.inr,fun q=>q.resolve_left h⟩
theorem zB9 {a b c:Int} (es:List (Int×Int)):c∈(setM a b es).map (·.1)↔c=a∨c∈es.map (·.1):=by
 rw[←look_mem,←look_mem,zFe];by_cases h:c=a
 ·rw[if_pos h];exact⟨fun _=> .inl h,fun _=>by simp⟩
 ·rw[if_neg h];exact⟨.inr,fun q=>q.resolve_left h⟩
theorem zCH {a b:Int}:∀ {es:List (Int×Int)},ZW es→ZW (setM a b es)
 |[],_=>by unfold ZW setM;simp
 |(k,v)::es,h=>by
  unfold ZW at *;rw[List.map_cons,List.nodup_cons]at h;unfold setM;by_cases hk:a=k
  ·subst hk;simp only[beq_self_eq_true,if_true,List.map_cons,List.nodup_cons];exact h
  ·rw[if_neg (by simpa using hk),List.map_cons,List.nodup_cons];exact⟨fun hm=>(zB9 es).1 hm |>.elim (fun e=>hk e.symm) h.1,zCH h.2⟩
theorem zB8 {a c:Int}:∀ {es:List (Int×Int)},ZW es→(c∈(zA0 a es).map (·.1)↔c≠a∧c∈es.map (·.1))
 |[],_=>by simp[zA0]
 |(k,v)::es,h=>by
  unfold ZW at h;rw[List.map_cons,List.nodup_cons]at h;unfold zA0;by_cases hk:a=k
  ·subst hk;simp only[beq_self_eq_true,if_true,List.map_cons,List.mem_cons];constructor
   ·intro hm;exact⟨fun e=>by subst e;exact h.1 hm,.inr hm⟩
   ·rintro⟨h1,h2|h2⟩
    ·exact absurd h2 h1
    ·exact h2
  ·rw[if_neg (by simpa using hk),List.map_cons,List.mem_cons,List.map_cons,List.mem_cons,zB8 h.2];constructor
   ·rintro(e|⟨h1,h2⟩)
    ·subst e;exact⟨fun e=>hk e.symm,.inl rfl⟩
    ·exact⟨h1,.inr h2⟩
   ·rintro⟨h1,h2|h2⟩
    ·exact .inl h2
    ·exact .inr ⟨h1,h2⟩
theorem zEV {a:Int}:∀ {es:List (Int×Int)},ZW es→ZW (zA0 a es)
 |[],_=>by unfold ZW zA0;simp
 |(k,v)::es,h=>by
  have h0:=h;unfold ZW at h;rw[List.map_cons,List.nodup_cons]at h;unfold zA0;by_cases hk:a=k
  ·subst hk;simp only[beq_self_eq_true,if_true];exact h.2
  ·rw[if_neg (by simpa using hk)];unfold ZW;rw[List.map_cons,List.nodup_cons];exact⟨fun hm=>h.1 ((zB8 h.2).1 hm).2,zEV h.2⟩
section
variable {P:Program} {tab:Tab} {N0 m g:Nat} {cl:Bool} {t:Trie Value} {ds:List Deferred} {rd:Option Nat} {K:AExit→AFr→AHeap→Prop}
theorem WU2.alE {hS X:AHeap} {d n:Nat} {y:Operand} {v:Value} {zero cs:List Value} (eX:Ext (inC (zB 1 hS)) X) (hm:hS.mark≤hS.n) (k:∀ H p,Ext hS H→OwnC hS H p cs→K .normal ⟨t.set d p,ds,rd⟩ H)
  (hy:∀ p,Ope (t.set d p) y v:=by intro p;exact zV) (hv:v.cells=cs.toArray:=by rfl) (hz:zero.length=n:=by rfl) (hn:cs.length=n:=by rfl) (h1:zL cs=true:=by rfl) (hm0:m=hS.mark:=by rfl) (hg0:g=hS.n:=by rfl):
  WU2 P tab m N0 [(⟨some d,none,.alloc zero⟩,[]),(⟨none,none,.store n (.tmp d) y⟩,[])] g cl ⟨t,ds,rd⟩ (inC X) (zBD K hS):=by
 subst hm0 hg0;have hlt:hS.n<X.n:=eX.n;refine WU2.al2 hm hlt ?_ (hy _) hv hz hn h1;have e6:=zGN (o:= .row zero true 0) (o':= .row cs true 0) (k:=0) eX;have o6:=zF8 (cs:=cs) (o:= .row zero true 0) eX;exact k _ _ e6 o6
theorem WU2.mk {h:AHeap} {d:Nat} {gd:Option (Nat×Bool)} {op:AOp} {ob:AObj} {f:Nat→Value} {l:List (AOper×List Nat)} {Q:AFr→AHeap→Prop} (hm:m≤g) (hmade:yl t op=some (ob,f)) (hx:WU2 P tab m N0 l (g+1) false ⟨t.set d (f g),ds,rd⟩ ((inC h).lay g ob) Q) (hk:Nat.beq (zH op) 3=true:=by rfl) (hw:zO t gd=true:=by rfl):
  WU2 P tab m N0 ((⟨some d,gd,op⟩,[])::l) g cl ⟨t,ds,rd⟩ (inC h) Q:=by
 rw[WU2,if_pos hk];exact⟨rfl,.inl ⟨hw,hm,ob,f,hmade,hx⟩⟩
theorem WU2.inC {h:AHeap} {fr:AFr} {x:AOper×List Nat} {l:List (AOper×List Nat)} {Q:AFr→AHeap→Prop} (hx:WU2 P tab m N0 (x::l) g cl fr (Am.inC h) Q):WU2 P tab m N0 (x::l) g cl fr h Q:=by
 obtain⟨o,un⟩:=x;unfold WU2 at hx ⊢;exact hx
theorem lay_get (h:AHeap) (g:Nat) (o:AObj) (j:Nat):((Am.inC h).lay g o).get j=if j=g then some o else h.get j:=zb _ _ _ _
theorem WU2.mkG {X:AHeap} {d:Nat} {gd:Option (Nat×Bool)} {op:AOp} {ob:AObj} {f:Nat→Value} {x:AOper×List Nat} {l:List (AOper×List Nat)} {Q:AFr→AHeap→Prop} (hm:m≤g) (hmade:yl t op=some (ob,f))
  (k:∀ X',X'.n=X.n→(∀ j,X'.get j=if j=g then some ob else X.get j)→WU2 P tab m N0 (x::l) (g+1) false ⟨t.set d (f g),ds,rd⟩ (Am.inC X') Q) (hk:Nat.beq (zH op) 3=true) (hw:zO t gd=true:=by rfl):WU2 P tab m N0 ((⟨some d,gd,op⟩,[])::x::l) g cl ⟨t,ds,rd⟩ (Am.inC X) Q:=
 WU2.mk hm hmade (WU2.inC (k _ rfl fun j=>lay_get X g ob j)) hk hw
theorem WU2.mkSl {X:AHeap} {d c n:Nat} {zero:List Value} {x y:Operand} {o:AOper×List Nat} {l:List (AOper×List Nat)} {Q:AFr→AHeap→Prop} (hm:m≤g) (hr:n≤100000)
  (k:∀ X',X'.n=X.n→(∀ j,X'.get j=if j=g then some (.row (zu zero n) true 0) else X.get j)→WU2 P tab m N0 (o::l) (g+1) false ⟨t.set d (.slice (some ⟨g,0,none⟩) n c),ds,rd⟩ (Am.inC X') Q) (hx:Ope t x (I (n:Int)):=by exact zV) (hy:Ope t y (I (n:Int)):=by exact zV):
  WU2 P tab m N0 ((⟨some d,none,.mkSlice c zero x y⟩,[])::o::l) g cl ⟨t,ds,rd⟩ (Am.inC X) Q:=by
 have hx:ev t x=I (n:Int):=hx;have hy:ev t y=I (n:Int):=hy;have hn:asN (I (n:Int))=some n:=rfl;have h1:Nat.ble n room=true:=Nat.ble_eq_true_of_le (by have:room=4294967296:=rfl;omega);have h2:Nat.ble n n=true:=Nat.ble_eq_true_of_le (Nat.le_refl _);exact WU2.mkG (f:=fun g=> .slice (some ⟨g,0,none⟩) n c) hm (by simp only[yl,hx,hy,hn,h1,h2,Bool.and_self,cond_true]) k rfl
theorem WU2.mkMp {X:AHeap} {d:Nat} {o:AOper×List Nat} {l:List (AOper×List Nat)} {Q:AFr→AHeap→Prop} (hm:m≤g)
  (k:∀ X',X'.n=X.n→(∀ j,X'.get j=if j=g then some (.map [] 0) else X.get j)→WU2 P tab m N0 (o::l) (g+1) false ⟨t.set d (.map (some g)),ds,rd⟩ (Am.inC X') Q):
  WU2 P tab m N0 ((⟨some d,none,.mkMap⟩,[])::o::l) g cl ⟨t,ds,rd⟩ (Am.inC X) Q:=WU2.mkG (f:=fun g=> .map (some g)) hm rfl k rfl
theorem WU2.mkBx {X:AHeap} {d:Nat} {x:Operand} {v:Value} {cs:List Value} {o:AOper×List Nat} {l:List (AOper×List Nat)} {Q:AFr→AHeap→Prop} (hm:m≤g)
  (k:∀ X',X'.n=X.n→(∀ j,X'.get j=if j=g then some (.row cs true 0) else X.get j)→WU2 P tab m N0 (o::l) (g+1) false ⟨t.set d (.pointer (some ⟨g,0,none⟩)),ds,rd⟩ (Am.inC X') Q) (hx:Ope t x v:=by exact zV) (hv:v.cells.toList=cs:=by rfl):
  WU2 P tab m N0 ((⟨some d,none,.box x⟩,[])::o::l) g cl ⟨t,ds,rd⟩ (Am.inC X) Q:=by
 have hx:ev t x=v:=hx;subst hv;exact WU2.mkG (f:=fun g=> .pointer (some ⟨g,0,none⟩)) hm (by simp only[yl,hx]) k rfl
end
theorem zIi {h:AHeap} {q off:Nat} {row cs:List Value} (hq:h.get q=some (.row row true 0)) (hl:off+cs.length≤row.length) (h1:zL cs=true):zg h ⟨q,off,none⟩ cs=some (h.set q (.row (zR row off cs) true 0)):=by
 have h2:Nat.ble (off+cs.length) row.length=true:=Nat.ble_eq_true_of_le hl;have h3:Nat.ble 0 off=true:=Nat.ble_eq_true_of_le (Nat.zero_le _);simp only[zg,hq,h2,h3,h1,Option.isNone_none,Bool.and_self,cond_true]
section
variable {P:Program} {tab:Tab} {t:Trie Value} {ds:List Deferred} {rd:Option Nat}
variable {m N0 g:Nat} {cl:Bool} {K:AExit→AFr→AHeap→Prop} {hS X:AHeap} {q off n:Nat} {row cs:List Value} {x y:Operand} {u:Value}
theorem WO.st1 {h:AHeap} {Q:AFr→AHeap→Prop} {l:List AOper} (hq:h.get q=some (.row row true 0)) (hl:off+cs.length≤row.length) (hx:Ope t x (.pointer (some ⟨q,off,none⟩))) (hy:Ope t y u) (hu:u.cells=cs.toArray) (hn:cs.length=n) (h1:zL cs=true)
  (k:WO P tab l ⟨t,ds,rd⟩ (h.set q (.row (zR row off cs) true 0)) Q):WO P tab (⟨none,none,.store n x y⟩::l) ⟨t,ds,rd⟩ h Q:=by
 have hx:ev t x=_:=hx;have hy:ev t y=u:=hy;have hnn:Nat.beq cs.length n=true:=by rw[hn];exact Nat.beq_refl _
 exact WO.op0 undef _ rfl (by simp only[aop,hx,hy,hu,List.size_toArray,hnn,zIi hq hl h1,Option.map_some,cond_true]) k
theorem log_le {h:AHeap} {q m:Nat} (hm:m≤q) (hw:h.wr=[]):∀ k∈(h.log q),m≤k:=fun k hk=>by
 rcases yb hk with rfl|h2
 ·exact hm
 ·rw[hw]at h2;cases h2
theorem WU2.wF (hq:X.get q=some (.row row true 0)) (hm:m≤q) (k:∀ H,H.n=X.n→(∀ j,j≠q→H.get j=X.get j)→H.get q=some (.row (zR row off cs) true 0)→(Wf X→Wf H)→H.mark=hS.mark→H.wr=hS.wr→K .normal ⟨t,ds,rd⟩ H)
  (hl:off+cs.length≤row.length) (hx:Ope t x (.pointer (some ⟨q,off,none⟩)):=by exact zV) (hy:Ope t y u:=by exact zV) (hu:u.cells=cs.toArray:=by rfl) (hn:cs.length=n:=by rfl) (h1:zL cs=true:=by rfl):
  WU2 P tab m N0 [(⟨none,none,.store n x y⟩,[])] g cl ⟨t,ds,rd⟩ (Am.inC X) (zBD K hS):=by
 refine WU2.q rfl ?_;refine WO.st1 hq hl hx hy hu hn h1 ?_;refine WO.nil (zEl (log_le hm rfl) (Nat.le_refl _) (k _ rfl (fun j hj=> ?_) ?_ (fun w j hj=> ?_) rfl rfl))
 ·exact(zP _ _ _ _).trans (if_neg hj)
 ·exact(zP _ _ _ _).trans (if_pos rfl)
 ·have hj:X.n≤j:=hj;by_cases e:j=q
  ·subst e;have:=w.lt hq;omega
  ·exact(zP _ _ _ _).trans ((if_neg e).trans (w j hj))
section
variable {α:Type} [Inhabited α] {R:AHeap→List Value→α→Prop} {c b i:Nat} {v:Value} {xs:List α} {a:α}
end
theorem WO.mkS {h:AHeap} {Q:AFr→AHeap→Prop} {l:List AOper} {d c n:Nat} {zero:List Value} (hr:n≤100000) (k:∀ h',Ext h h'→h'.n=h.n+1→h'.get h.n=some (.row (zu zero n) true 0)→WO P tab l ⟨t.set d (.slice (some ⟨h.n,0,none⟩) n c),ds,rd⟩ h' Q)
  (hx:Ope t x (I (n:Int)):=by exact zV) (hy:Ope t y (I (n:Int)):=by exact zV):WO P tab (⟨some d,none,.mkSlice c zero x y⟩::l) ⟨t,ds,rd⟩ h Q:=by
 have h1:Nat.ble n room=true:=Nat.ble_eq_true_of_le (by have:room=4294967296:=rfl;omega);have h2:Nat.ble n n=true:=Nat.ble_eq_true_of_le (Nat.le_refl _);have hx:ev t x=I (n:Int):=hx;have hy:ev t y=I (n:Int):=hy;have hn:asN (I (n:Int))=some n:=rfl;exact WO.op _ _ rfl (by simp only[aop,hx,hy,hn,h1,h2,Bool.and_self,cond_true]<;>rfl) (k _ (YB _ _) rfl (zW _ _))
theorem zHf {l:List Value} {i:Nat} {v:Value} (h:i<l.length):zR l i [v]=l.set i v:=by
 unfold zR;rw[List.set_eq_take_append_cons_drop,if_pos h];simp only[List.append_assoc,List.singleton_append,List.length_singleton]
theorem WO.stBo {hB h:AHeap} {Q:AFr→AHeap→Prop} {l:List AOper} {v:Value} {bs:List Bool} {b:Bool} {i:Nat} (o:OwnBo hB h v bs) (e0:Ext hB h) (hi:i<bs.length)
  (k:∀ h',Ext hB h'→OwnBo hB h' v (bs.set i b)→Upd v h h'→WO P tab l ⟨t,ds,rd⟩ h' Q)
  (hx:Ope t x (zi v (i * 1)):=by exact zV) (hy:Ope t y (.bool b):=by exact zV):WO P tab (⟨none,none,.store 1 x y⟩::l) ⟨t,ds,rd⟩ h Q:=by
 obtain⟨g,g1,g2,rfl,g4⟩:=o;rw[show zi (.slice (some ⟨g,0,none⟩) bs.length 1) (i * 1)= .pointer (some ⟨g,i,none⟩) by show Value.pointer (some ⟨g,0+i * 1,none⟩)=_;rw[Nat.zero_add,Nat.mul_one]]at hx;have hp:zR (bs.map Value.bool) i [.bool b]=(bs.set i b).map .bool:=by
  unfold zR;rw[List.map_set,List.set_eq_take_append_cons_drop,if_pos (by simpa using hi)];simp
 refine WO.st1 (cs:=[.bool b]) g4 (by simp;omega) hx hy rfl rfl rfl ?_;rw[hp];exact k _ (e0.set g1 g2 _) ⟨g,g1,g2,by rw[List.length_set],by rw[zP,if_pos rfl]⟩ ⟨Nat.le_refl _,fun j _ hj=>by rw[zP,if_neg (fun e=>hj _ _ _ rfl e.symm)]⟩
theorem ownR_bo {hB h:AHeap} {b:Nat} {v:Value} {ys:List Bool} (o:OwnR 1 RBo b h v ys) (hb:hB.n≤b) (hne:ys≠[]):OwnBo hB h v ys:=by
 rcases o with ⟨_,e⟩|⟨g,cells,D,g1,g2,g3,g4,g5,_,_,g8⟩
 ·exact absurd e hne
 refine⟨g,Nat.le_trans hb g1,g2,g3,?_⟩;have:cells=ys.map .bool:=List.ext_getElem (by simp;omega) fun i h1 h2=>by
  have hi:i<ys.length:=by omega
  have hd:(cells.drop (i * 1)).take 1=[.bool ys[i]]:=(g8 i ys[i] (List.getElem?_eq_getElem hi)).self;rw[Nat.mul_one,List.drop_eq_getElem_cons h1,List.take_succ_cons,List.take_zero]at hd;simp only[List.cons.injEq,and_true]at hd;rw[hd,List.getElem_map]
 rw[←this];exact g4
theorem WO.blBo {h:AHeap} {Q:AFr→AHeap→Prop} {l:List AOper} {d:Nat} {zero:List Value} (k:∀ v h',Ext h h'→OwnBo h h' v []→WO P tab l ⟨t.set d v,ds,rd⟩ h' Q):WO P tab (⟨some d,none,.buildSlice 0 1 zero []⟩::l) ⟨t,ds,rd⟩ h Q:=
 WO.buildI (xs:=[]) rfl rfl fun v h' e o=>k v h' e (by obtain⟨g,a,b,c,d⟩:=o;exact⟨g,a,b,c,d⟩)
theorem WO.apBo {hB h:AHeap} {Q:AFr→AHeap→Prop} {l:List AOper} {d:Nat} {v w:Value} {ys:List Bool} (o:OwnBo hB h v []) (s:SlR 1 RBo h w ys) (e0:Ext hB h) (hl:ys.length≤100000) (k:∀ v' h',Ext hB h'→OwnBo hB h' v' ys→WO P tab l ⟨t.set d v',ds,rd⟩ h' Q)
  (hx:Ope t x v:=by exact zV) (hy:Ope t y w:=by exact zV):WO P tab (⟨some d,none,.append 1 x y⟩::l) ⟨t,ds,rd⟩ h Q:=by
 by_cases hne:ys=[]
 ·subst hne;obtain⟨cells,s1,_⟩:=s;have hc:cells=[]:=List.eq_nil_of_length_eq_zero (by have:=s1.1;simpa using this);subst hc;have hs:=Ye s1;have hx:ev t x=v:=hx;have hy:ev t y=w:=hy;refine WO.op v h rfl ?_ (k v h e0 o);obtain⟨g,_,_,rfl,_⟩:=o;simp only[aop,hx,hy,yV,hs]
 ·have o2:OwnR 1 RBo hB.n h v ([]:List Bool):=by
   obtain⟨g,a,b,c,d⟩:=o;exact .inr ⟨g,[],fun _=>False,a,b,c,d,rfl,id,fun _ h=>h.elim,fun i a h=>by simp at h⟩
  exact WO.apAll o2 s (by decide) (fun cs a r hx _ _=>r) (fun cs a r=>by rw[show cs=[.bool a] from r];rfl) e0 (Nat.le_refl _) e0.n hl (fun v' h' e o=>k v' h' e (ownR_bo o (Nat.le_refl _) hne)) hx hy
end
end Go.Am
