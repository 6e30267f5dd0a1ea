/- A part of the abstract machine for the model's programs and of the proof that what it yields the model's call yields (definitions, operations, runs, regions that draw their order); no statement of the seat is proved in this text. -/
import Derived.Test.YteekipjpghikkaaGreatDoorAmU
set_option linter.unusedVariables false
set_option linter.unusedSimpArgs false
namespace Go.Am
section
variable {P:Program} {tab:Tab}
def WU6 (P:Program) (tab:Tab) (m:Nat) (Bad:Nat→Prop):List (AOper×List Nat)→Nat→AFr→AHeap→(AFr→AHeap→Prop)→Prop
 |[],_,fr,h,Q=>Q fr h
 |(o,un)::l,g,fr,h,Q=>
  if Nat.beq (zG o.op) 3=true then
   un=[]∧zR fr.tm o.guard=true∧m≤g∧zh fr.tm o=none∧∃ ob f,yh fr.tm o.op=some (ob,f)∧WU6 P tab m Bad l (g+1) (val o.dst fr (f g)) ((inC h).lay g ob) Q
  else WO P tab [o] fr (inC h) fun fr' h'=>(∀ g∈h'.wr,m≤g)∧(un=[]∨(zh fr.tm o=none∧∀ g∈h'.wr,Bad g))∧(∀ g,zh fr.tm o=some g→¬Bad g)∧WU6 P tab m Bad l g fr' h' Q
theorem zJt {Bad:Nat→Prop} {un:List Nat} {t:Trie Value} {o:AOper} {h':AHeap} (hk:un=[]∨(zh t o=none∧∀ g∈h'.wr,Bad g)) (ws:List (Nat×Nat)) (bs:List (Nat×Nat)) {rs:List (Nat×Nat×Option (Nat×Nat×List Value))} (hr:∀ e∈rs,¬Bad e.2.1):
  ((match zh t o with
   |some g=>(ws.all fun x=> !(Nat.beq g x.2&&un.contains x.1))&&bs.all fun x=> !un.contains x.1||Nat.ble (g+1) x.2
   |none=>true)&&rs.all fun x=> !(un.contains x.1&&h'.wr.contains x.2.1)||zDv h' x.2.1 x.2.2)=true:=by
 rcases hk with rfl|⟨h1,h2⟩
 ·exact zMq o ws rs bs t h'
 ·rw[h1];simp only[Bool.true_and];rw[List.all_eq_true];intro x hx;have:h'.wr.contains x.2.1=false:=by
   cases hc:h'.wr.contains x.2.1 with
   |false=>rfl
   |true=>exact absurd (h2 _ (List.contains_iff_mem.1 hc)) (hr x hx)
  rw[this,Bool.and_false];rfl
theorem WU6.run {m:Nat} {Bad:Nat→Prop}:∀ {ops:List (AOper×List Nat)} {g:Nat} {fr:AFr} {h:AHeap} {Q:AFr→AHeap→Prop},WU6 P tab m Bad ops g fr h Q→
  ∃ fr' h',Q fr' h'∧∀ (i:Nat) (ws:List (Nat×Nat)) (rs:List (Nat×Nat×Option (Nat×Nat×List Value))) (bs:List (Nat×Nat)),(∀ e∈ws,m≤e.2)→(∀ e∈rs,¬Bad e.2.1)→
   ∃ ws',(∀ e∈ws',m≤e.2)∧Ev fun n=>yN P (aex P tab n) ops i g ws rs bs fr h=some (fr',h',ws'):=by
 intro ops;induction ops with
 |nil=>intro g fr h Q hx;exact⟨fr,h,hx,fun i ws rs bs hw _=>⟨ws,hw,Ev.all fun n=>rfl⟩⟩
 |cons x ops ihl=>
  intro g fr h Q hx;obtain⟨o,un⟩:=x;simp only[WU6]at hx;have go:∀ {g':Nat} {fr1:AFr} {h1:AHeap},(g'=bif Nat.beq (zG o.op) 3 then g+1 else g)→(Ev fun n=>yU P (aex P tab n) g o fr (inC h)=some (fr1,h1))→(∀ x∈h1.wr,m≤x)→(un=[]∨(zh fr.tm o=none∧∀ g∈h1.wr,Bad g))→(∀ g,zh fr.tm o=some g→¬Bad g)→WU6 P tab m Bad ops g' fr1 h1 Q→
    ∃ fr' h',Q fr' h'∧∀ (i:Nat) (ws:List (Nat×Nat)) (rs:List (Nat×Nat×Option (Nat×Nat×List Value))) (bs:List (Nat×Nat)),(∀ e∈ws,m≤e.2)→(∀ e∈rs,¬Bad e.2.1)→
     ∃ ws',(∀ e∈ws',m≤e.2)∧Ev fun n=>yN P (aex P tab n) ((o,un)::ops) i g ws rs bs fr h=some (fr',h',ws'):=by
   intro g' fr1 h1 hg ev hw hk hb hx;obtain⟨fr',h',q,run⟩:=ihl hx;refine⟨fr',h',q,fun i ws rs bs hws hrs=> ?_⟩;obtain⟨ws',w1,w2⟩:=run (i+1) (h1.wr.map (fun g=>(i,g))++ws) (match zh fr.tm o with
     |some g=>(i,g,Yz fr.tm h o.op)::rs
     |none=>rs) ((i,h.n)::bs) (fun e he=>by
      rcases List.mem_append.1 he with he|he
      ·obtain⟨y,hy,rfl⟩:=List.mem_map.1 he;exact hw y hy
      ·exact hws e he) (fun e he=>by
      cases hr:zh fr.tm o with
      |none=>rw[hr]at he;exact hrs e he
      |some k=>
       rw[hr]at he;rcases List.mem_cons.1 he with rfl|he
       ·exact hb k hr
       ·exact hrs e he)
   refine⟨ws',w1,(ev.and w2).mono fun n ⟨e1,e2⟩=> ?_⟩;simp only[yN];have e1':yU P (aex P tab n) g o fr {h with mark:=h.n,wr:=[]}=some (fr1,h1):=e1;rw[e1'];have hok:=zJt hk ws bs hrs;exact(congrArg (fun b:Bool=>bif b then yN P (aex P tab n) ops (i+1) (bif Nat.beq (zG o.op) 3 then g+1 else g) (h1.wr.map (fun g=>(i,g))++ws) (match zh fr.tm o with
     |some g=>(i,g,Yz fr.tm h o.op)::rs
     |none=>rs) ((i,h.n)::bs) fr1 h1 else none) hok).trans (by rw[cond_true,←hg];exact e2)
  by_cases hk:Nat.beq (zG o.op) 3=true
  ·rw[if_pos hk]at hx;obtain⟨rfl,hw,hm,hr,ob,f,hmade,hx⟩:=hx;refine go (g':=g+1) (by rw[hk];rfl) (Ev.all fun n=> ?_) (h1:=(inC h).lay g ob) (fun x hx=> ?_) (.inl rfl) (fun k hk2=>by rw[hr]at hk2;cases hk2) hx
   ·unfold yU;simp only[hk,hw,hmade,cond_true]
   ·rcases yo hx with rfl|hx
    ·exact hm
    ·cases hx
  ·rw[if_neg hk]at hx;have hk':Nat.beq (zG o.op) 3=false:=by cases hb:Nat.beq (zG o.op) 3 with
    |false=>rfl
    |true=>exact absurd hb hk
   unfold WO at hx;obtain⟨fr1,h1,⟨q1,q2,q3,q4⟩,ev⟩:=hx;refine go (g':=g) (by rw[hk'];rfl) (ev.mono fun n e=> ?_) q1 q2 q3 q4;unfold yU;simp only[hk',cond_false];simp only[ye]at e;cases ha:yH P (aex P tab n) o fr (inC h)with
   |none=>rw[ha]at e;cases e
   |some p=>rw[ha]at e;exact e
theorem WX.regionU6 {ops:List (AOper×List Nat)} {fr:AFr} {h:AHeap} {K:AExit→AFr→AHeap→Prop} (Bad:Nat→Prop) (k:Nat) (hk:zF1 ops=k) (hne:ops.isEmpty=false)
  (hx:WU6 P tab h.mark Bad ops h.n fr (inC (zC k h)) (zAt K h)):WX P tab (.regionC ops) fr h K:=by
 subst hk;have hx':WU6 P tab h.mark Bad ops h.n fr (zC (zF1 ops) h) (zAt K h):=by
  cases ops with
  |nil=>cases hne
  |cons x ops=>exact hx
 obtain⟨fr',h',q,run⟩:=WU6.run (h:=zC (zF1 ops) h) hx';obtain⟨ws',w1,w2⟩:=run 0 [] [] [] (fun e he=>by cases he) (fun e he=>by cases he);unfold WX;refine⟨.normal,fr',_,q,Ev.up (w2.mono fun n e=> ?_)⟩;rw[zq];simp only[zi,YH];have e':yN P (aex P tab n) ops 0 h.n [] [] [] fr {h with n:=h.n+(ops.filter fun x=>Nat.beq (zG x.1.op) 3).length}=some (fr',h',ws'):=e;rw[e'];have:((ws'.map (·.2)).filter fun g=> !Nat.ble h.mark g)=[]:=by
  rw[List.filter_eq_nil_iff];intro g hg;obtain⟨y,hy,rfl⟩:=List.mem_map.1 hg;have:Nat.ble h.mark y.2=true:=Nat.ble_eq_true_of_le (w1 y hy);simp[this]
 simp[this,outC]
end
section
variable {P:Program} {tab:Tab} {m:Nat} {Bad:Nat→Prop} {l:List (AOper×List Nat)} {o:AOper} {un:List Nat} {g:Nat} {fr:AFr} {h h0 h':AHeap} {Q:AFr→AHeap→Prop} {K:AExit→AFr→AHeap→Prop} {t:Trie Value}
def uK6 (P:Program) (tab:Tab) (m:Nat) (Bad:Nat→Prop) (un:List Nat) (t:Trie Value) (o:AOper) (l:List (AOper×List Nat)) (g:Nat) (Q:AFr→AHeap→Prop):AFr→AHeap→Prop:=
 fun fr' h'=>(∀ g∈h'.wr,m≤g)∧(un=[]∨(zh t o=none∧∀ g∈h'.wr,Bad g))∧(∀ g,zh t o=some g→¬Bad g)∧WU6 P tab m Bad l g fr' h' Q
theorem WU6.q (hk:Nat.beq (zG o.op) 3=false) (hx:WO P tab [o] fr (inC h) (uK6 P tab m Bad un fr.tm o l g Q)):WU6 P tab m Bad ((o,un)::l) g fr (inC h) Q:=by
 simp only[WU6];rw[if_neg (by rw[hk];exact Bool.noConfusion)];exact hx
theorem zSk (hr:zh t o=none) (hx:WU6 P tab m Bad l g fr (inC h) Q):uK6 P tab m Bad [] t o l g Q fr (inC h):=
 ⟨fun g hg=>(by cases hg),.inl rfl,fun g hg=>(by rw[hr]at hg;cases hg),hx⟩
theorem zIp {d:Option Nat} {agg:Bool} {n k:Nat} {x:Operand} {a:Addr} (hr:Ope t x (yF (.pointer (some a)) k)) (hb:¬Bad a.block) (hx:WU6 P tab m Bad l g fr (inC h) Q):uK6 P tab m Bad [] t ⟨d,none,.load agg n x⟩ l g Q fr (inC h):=by
 refine⟨fun g hg=>(by cases hg),.inl rfl,fun g hg=> ?_,hx⟩;unfold Ope yF at hr;simp only[zh,zR,cond_true,hr,Option.some.injEq]at hg;rw[←hg];exact hb
theorem WU6.mk {d:Nat} {op:AOp} {ob:AObj} {f:Nat→Value} (hk:Nat.beq (zG op) 3=true) (hm:m≤g) (hmade:yh t op=some (ob,f)) {ds:List Deferred} {rd:Option Nat} (hx:WU6 P tab m Bad l (g+1) ⟨t.set d (f g),ds,rd⟩ ((inC h).lay g ob) Q):WU6 P tab m Bad ((⟨some d,none,op⟩,[])::l) g ⟨t,ds,rd⟩ (inC h) Q:=by
 simp only[WU6];rw[if_pos hk];refine⟨by trivial,rfl,hm,?_,ob,f,hmade,hx⟩;cases op<;>first|rfl|cases hk
end
structure AR (hB h:AHeap) (p:Value) (cells:List Value) (n:Nat) (A:Nat→List Int):Prop where
 own:OwnC hB h p cells
 len:cells.length=n
 all:∀ j,j<n→OwnN hB h (cells.getD j undef) (A j)
 apart:∀ i j g a b c d,i<n→j<n→i≠j→cells.getD i undef= .slice (some ⟨g,0,none⟩) a b→cells.getD j undef= .slice (some ⟨g,0,none⟩) c d→False
theorem AR.ext {hB h h':AHeap} {p:Value} {cells:List Value} {n:Nat} {A:Nat→List Int} (r:AR hB h p cells n A) (e:Ext h h'):AR hB h' p cells n A:=
 ⟨r.own.ext e,r.len,fun j hj=>(r.all j hj).ext e,r.apart⟩
theorem AR.off {hB h:AHeap} {p:Value} {cells:List Value} {n:Nat} {A:Nat→List Int} (r:AR hB h p cells n A) {j:Nat} (hj:j<n) {g gp a b:Nat} (hp:p= .pointer (some ⟨gp,0,none⟩)) (hv:cells.getD j undef= .slice (some ⟨g,0,none⟩) a b):g≠gp:=by
 intro e;subst e;obtain⟨q,_,_,hq,hg⟩:=r.own;rw[hp]at hq;cases hq;rcases r.all j hj with ⟨h1,_⟩|⟨q2,_,_,h2,h3⟩
 ·rw[h1]at hv;cases hv
 ·rw[h2]at hv;cases hv;rw[hg]at h3;have he:cells=(A j).map I:=by simpa using h3
  have:=congrArg (fun l=>l.getD j undef) he;simp only[h2]at this;have hlen:j<((A j).map I).length:=by rw[←he,r.len];exact hj
  rw[List.getD_eq_getElem?_getD,List.getElem?_eq_getElem hlen]at this;simp at this
section
variable {P:Program} {tab:Tab} {t:Trie Value} {ds:List Deferred} {rd:Option Nat}
theorem zEb {l:List Value} {i j:Nat} {v d:Value} (hi:i<l.length):(l.set i v).getD j d=if j=i then v else l.getD j d:=by
 simp only[List.getD_eq_getElem?_getD,List.getElem?_set];by_cases h:i=j
 ·subst h;simp[hi]
 ·rw[if_neg h,if_neg (fun e=>h e.symm)]
theorem zCK {l:List Value} {i:Nat} {v:Value} (hi:i<l.length):zg l i [v]=l.set i v:=by
 unfold zg;rw[List.length_singleton,List.set_eq_take_append_cons_drop,if_pos hi];simp
theorem zNR {cells:List Value} {i:Nat} (hi:i<cells.length):(cut cells i 1).bind (zL false)=some (cells.getD i undef):=by
 have h1:cells.drop i=cells[i]::cells.drop (i+1):=List.drop_eq_getElem_cons hi;have h2:cells.getD i undef=cells[i]:=by simp[List.getD,List.getElem?_eq_getElem hi]
 have hc:cut cells i 1=some [cells[i]]:=(ZD (by omega)).trans (by rw[h1];rfl);rw[hc,h2];rfl
theorem zFS (a n k):(Value.slice a n k).cells=#[.slice a n k]:=rfl
theorem WU6.app {d1 d2 d3 s i n:Nat} {x y z:Operand} {un:List Nat} {hB h:AHeap} {p v:Value} {cells:List Value} {A:Nat→List Int} {k:Int} {K:AExit→AFr→AHeap→Prop}
  (r:AR hB h p cells n A) (e0:Ext hB h) (hm:h.mark≤hB.n) (hi:i<n) (hv:cells.getD i undef=v) (hlen:(A i).length≤1000)
  (hy:Ope t y (I k)) (hx:Ope (t.set d1 (.slice (some ⟨h.n,0,none⟩) 1 1)) x v) (h21:Nat.beq d1 d2=false) (hs:∀ w,Ope ((t.set d1 (.slice (some ⟨h.n,0,none⟩) 1 1)).set d2 w) (.tmp s) p) (hz:∀ w,Ope ((t.set d1 (.slice (some ⟨h.n,0,none⟩) 1 1)).set d2 w) z (I (i:Int))) (h32:Nat.beq d2 d3=false)
  (kk:∀ h1 w t',(∀ j,Nat.beq j d1=false→Nat.beq j d2=false→Nat.beq j d3=false→zB t' j=zB t j)→Ext hB h1→AR hB h1 p (cells.set i w) n (fun j=>if j=i then A i++[k] else A j)→(∀ g,g<h.n→p≠ .pointer (some ⟨g,0,none⟩)→(∀ a b,v≠ .slice (some ⟨g,0,none⟩) a b)→h1.get g=h.get g)→h.n≤h1.n→K .normal ⟨t',ds,rd⟩ h1):
  WU6 P tab h.mark (fun g=>∃ a b,v= .slice (some ⟨g,0,none⟩) a b) [(⟨some d1,none,.buildSlice 1 1 [I 0] [(0,1,y)]⟩,[]),(⟨some d2,none,.append 1 x (.tmp d1)⟩,un),(⟨some d3,none,.idxArr n 1 (.tmp s) z⟩,[]),(⟨none,none,.store 1 (.tmp d3) (.tmp d2)⟩,[])] h.n ⟨t,ds,rd⟩ (inC (zC 1 h)) (zAt K h):=by
 have hon:=r.all i hi;rw[hv]at hon;obtain⟨gp,gp1,gp2,hp,gp3⟩:=r.own;have hmade:yh t (.buildSlice 1 1 [I 0] [(0,1,y)])=some (.row [I k] true 0,fun g=> .slice (some ⟨g,0,none⟩) 1 1):=by
  have hy:ev t y=I k:=hy;simp only[yh,zx,List.map_cons,List.map_nil,hy];rfl
 refine WU6.mk rfl (by have:=e0.n;omega) hmade ?_;generalize hH1:(inC (zC 1 h)).lay h.n (.row [I k] true 0)=H1;have n1:H1.n=h.n+1:=by rw[←hH1];rfl
 have get1:∀ c,H1.get c=if c=h.n then some (.row [I k] true 0) else h.get c:=fun c=>by rw[←hH1];exact zV _ _ _ _
 have sl:SlI (inC H1) (.slice (some ⟨h.n,0,none⟩) 1 1) [k]:=⟨rfl,.inr ⟨h.n,0,[I k],rfl,ZU (own:=true) (lo:=0) (by have:=get1 h.n;rw[if_pos rfl]at this;exact this),rfl,by show h.n<H1.n;omega⟩⟩;have hsrc:=Zg sl;obtain⟨H2,ha,n2,get2,keep2,wr2,wf2⟩:∃ H2,yY 1 v (.slice (some ⟨h.n,0,none⟩) 1 1) (inC H1)=some (.slice (some ⟨h.n+1,0,none⟩) (A i++[k]).length 1,H2)∧H2.n=h.n+2∧H2.get (h.n+1)=some (.row ((A i++[k]).map I) true 0)∧
   (∀ c,c≠h.n+1→(∀ a b,v≠ .slice (some ⟨c,0,none⟩) a b)→H2.get c=H1.get c)∧(∀ c∈H2.wr,∃ a b,v= .slice (some ⟨c,0,none⟩) a b)∧(∀ c,h.n+2≤c→H1.get c=none→H2.get c=none):=by
  have hone:zN [I k]=true:=rfl;have hn1:(inC H1).n=h.n+1:=n1;rcases hon with ⟨rfl,hA⟩|⟨q,q1,q2,rfl,q3⟩
  ·refine⟨(inC H1).push (.row [I k] true 0),?_,?_,?_,fun c hc _=> ?_,fun c hc=>(by cases hc),fun c hc h0=> ?_⟩
   ·have:Nat.ble 1 room=true:=rfl;simp only[yY,hsrc,List.map_cons,List.map_nil,hone,Bool.not_true,cond_false,List.length_singleton,Nat.div_one,this,cond_true,hA,List.nil_append];rw[←hn1];rfl
   ·show (inC H1).n+1=_;omega
   ·rw[hA,←hn1,zQ,if_pos rfl];rfl
   ·rw[zQ,if_neg (by omega)];rfl
   ·rw[zQ,if_neg (by omega)];exact h0
  ·have hq:(inC H1).get q=some (.row ((A i).map I) true 0):=by
    have:=get1 q;rw[if_neg (by omega)]at this;exact this.trans q3
   refine⟨((inC H1).kill q).push (.row ((A i).map I++[I k]) true (0 - 0)),?_,?_,?_,fun c hc hv=> ?_,fun c hc=> ?_,fun c hc h0=> ?_⟩
   ·have h1:Nat.ble ((A i).length+1) room=true:=Nat.ble_eq_true_of_le (by have:room=4294967296:=rfl;omega);have h2:cut ((A i).map I) 0 ((A i).length * 1)=some ((A i).map I):=by rw[ZD (by simp)];simp[List.take_of_length_le]
    have h3:Nat.ble 0 (0+(A i).length * 1)=true:=Nat.ble_eq_true_of_le (Nat.zero_le _);simp only[yY,hsrc,List.map_cons,List.map_nil,hone,Bool.not_true,cond_false,List.length_singleton,Nat.div_one,h1,h2,h3,hq,cond_true,hn1,List.length_append];rfl
   ·show (inC H1).n+1=_;omega
   ·have e:((inC H1).kill q).n=h.n+1:=n1;rw[←e,zQ,if_pos rfl];simp
   ·rw[zQ,if_neg (by show c≠(inC H1).n;omega),yc,if_neg (fun e=>hv _ _ (by rw[e]))];rfl
   ·have hc2:c∈(inC H1).log q:=hc;rcases yo hc2 with rfl|h
    ·exact⟨_,_,rfl⟩
    ·cases h
   ·rw[zQ,if_neg (by show c≠(inC H1).n;omega),yc];split
    ·rfl
    ·exact h0
 have hbad:∀ c,(∃ a b,v= .slice (some ⟨c,0,none⟩) a b)→hB.n≤c∧c<h.n∧c≠gp:=by
  rintro c ⟨a,b,e⟩;have hne:=r.off hi hp (hv.trans e);rcases hon with ⟨h1,_⟩|⟨q,q1,q2,h1,_⟩
  ·rw[e]at h1;cases h1
  ·rw[e]at h1;cases h1;exact⟨q1,q2,hne⟩
 have hgp:∀ a b,v≠ .slice (some ⟨gp,0,none⟩) a b:=fun a b e=>(hbad gp ⟨a,b,e⟩).2.2 rfl;rw[WU6,if_neg (show ¬Nat.beq (zG (AOp.append 1 x (.tmp d1))) 3=true from Bool.noConfusion)];have hx:ev (t.set d1 (.slice (some ⟨h.n,0,none⟩) 1 1)) x=v:=hx;have e1:ev (t.set d1 (.slice (some ⟨h.n,0,none⟩) 1 1)) (.tmp d1)= .slice (some ⟨h.n,0,none⟩) 1 1:=by simp only[ev,zl,if_true]
 refine WO.op (.slice (some ⟨h.n+1,0,none⟩) (A i++[k]).length 1) H2 rfl (by simp only[aop,hx,e1,ha]) ?_;refine WO.nil ⟨fun c hc=> ?_,.inr ⟨rfl,wr2⟩,fun c hc=>(by cases hc),?_⟩
 ·have:=(hbad c (wr2 c hc)).1;omega
 rw[WU6,if_neg (show ¬Nat.beq (zG (AOp.idxArr n 1 (.tmp s) z)) 3=true from Bool.noConfusion)];have own2:OwnC hB (inC H2) p cells:=by
  refine⟨gp,gp1,by show gp<H2.n;omega,hp,?_⟩;show H2.get gp=_;rw[keep2 gp (by omega) hgp,get1,if_neg (by omega)];exact gp3
 have hs2:=hs (.slice (some ⟨h.n+1,0,none⟩) (A i++[k]).length 1);have hz2:=hz (.slice (some ⟨h.n+1,0,none⟩) (A i++[k]).length 1);have hidx:=OwnC.idxArr0 (P:=P) (ih:=Ex.bot) (c:=1) (n:=n) (i:=i) hs2 (by have hz2:ev _ z=I (i:Int):=hz2;rw[hz2];rfl) own2 hi;rw[Nat.mul_one]at hidx;refine WO.op _ (inC H2) rfl hidx ?_;refine WO.nil ⟨fun c hc=>(by cases hc),?_,fun c hc=>(by cases hc),?_⟩
 ·exact .inr ⟨rfl,fun c hc=>(by cases hc)⟩
 rw[WU6,if_neg (show ¬Nat.beq (zG (AOp.store 1 (.tmp d3) (.tmp d2))) 3=true from Bool.noConfusion)];have hst:zr (inC (inC H2)) ⟨gp,i,none⟩ [.slice (some ⟨h.n+1,0,none⟩) (A i++[k]).length 1]=some ((inC (inC H2)).set gp (.row (cells.set i (.slice (some ⟨h.n+1,0,none⟩) (A i++[k]).length 1)) true 0)):=by
  obtain⟨q,_,_,hq,hg⟩:=own2;rw[hp]at hq;cases hq;have hg':(inC (inC H2)).get gp=some (.row cells true 0):=hg;have h1:Nat.ble (i+1) cells.length=true:=Nat.ble_eq_true_of_le (by rw[r.len];exact hi);have h0:Nat.ble 0 i=true:=Nat.ble_eq_true_of_le (Nat.zero_le _);have h2:zN [.slice (some ⟨h.n+1,0,none⟩) (A i++[k]).length 1]=true:=rfl;simp only[zr,hg',List.length_singleton,h1,h0,h2,Bool.and_self,zCK (show i<cells.length by rw[r.len];exact hi)];rfl
 have hd32:¬d2=d3:=fun e=>by subst e;simp at h32
 refine WO.op0 undef ((inC (inC H2)).set gp (.row (cells.set i (.slice (some ⟨h.n+1,0,none⟩) (A i++[k]).length 1)) true 0)) rfl (by
  have a1:∀ tt:Trie Value,ev (tt.set d3 (yF p i)) (.tmp d3)= .pointer (some ⟨gp,i,none⟩):=fun tt=>by
   simp only[ev,zl,if_true,hp,yF,Nat.zero_add]
  have a2:∀ w,ev (((t.set d1 (.slice (some ⟨h.n,0,none⟩) 1 1)).set d2 w).set d3 (yF p i)) (.tmp d2)=w:=fun w=>by
   simp only[ev,zl,if_neg hd32,if_true]
  simp only[val,aop,a1,a2,zFS,List.size_toArray,List.length_singleton,Nat.beq_refl,hst,Option.map_some,cond_true]) ?_
 refine WO.nil ⟨fun c hc=> ?_,.inl rfl,fun c hc=>(by cases hc),?_⟩
 ·have hc2:c∈(inC (inC H2)).log gp:=hc;rcases yo hc2 with rfl|h
  ·omega
  ·cases h
 generalize hH:outC h ((inC (inC H2)).set gp (.row (cells.set i (.slice (some ⟨h.n+1,0,none⟩) (A i++[k]).length 1)) true 0))=H;have nH:H.n=h.n+2:=by rw[←hH];exact n2
 have getH:∀ c,H.get c=if c=gp then some (.row (cells.set i (.slice (some ⟨h.n+1,0,none⟩) (A i++[k]).length 1)) true 0) else H2.get c:=fun c=>by rw[←hH];exact zV _ _ _ _
 have keepH:∀ c,c<h.n→c≠gp→(∀ a b,v≠ .slice (some ⟨c,0,none⟩) a b)→H.get c=h.get c:=fun c h1 h2 h3=>by
  rw[getH,if_neg h2,keep2 c (by omega) h3,get1,if_neg (by omega)]
 have lowH:∀ c,c<hB.n→H.get c=h.get c:=fun c hc=>keepH c (by have:=e0.n;omega) (by omega) (fun a b e=>by have:=(hbad c ⟨a,b,e⟩).1;omega);show K .normal _ _;rw[hH];refine kk H (.slice (some ⟨h.n+1,0,none⟩) (A i++[k]).length 1) _ (fun j a1 a2 a3=> ?_) ?_ ?_ (fun c h1 h2 h3=>keepH c h1 (fun e=>h2 (by rw[hp,e])) h3) (by omega)
 ·have b1:¬j=d1:=fun e=>by subst e;simp at a1
  have b2:¬j=d2:=fun e=>by subst e;simp at a2
  have b3:¬j=d3:=fun e=>by subst e;simp at a3
  simp only[val,zl,if_neg b1,if_neg b2,if_neg b3]
 ·refine⟨by rw[nH];have:=e0.n;omega,fun c hc=>(lowH c hc).trans (e0.get c hc),fun w c hc=> ?_,?_,fun hmk=> ?_⟩
  ·rw[nH]at hc;rw[getH,if_neg (by omega)];exact wf2 c hc (by rw[get1,if_neg (by omega)];exact e0.wf w c (by omega))
  ·rw[←hH];exact e0.mark
  ·rw[←hH];exact e0.wr hmk
 ·refine⟨⟨gp,gp1,by omega,hp,by rw[getH,if_pos rfl]⟩,by rw[List.length_set];exact r.len,fun j hj=> ?_,fun j1 j2 g a b c d hj1 hj2 hne e1 e2=> ?_⟩
  ·rw[zEb (by rw[r.len];exact hi)];by_cases e:j=i
   ·rw[if_pos e];simp only[if_pos e];exact .inr ⟨h.n+1,by have:=e0.n;omega,by omega,rfl,by rw[getH,if_neg (by omega)];exact get2⟩
   ·rw[if_neg e];simp only[if_neg e];rcases r.all j hj with h1|⟨q,q1,q2,h1,q3⟩
    ·exact .inl h1
    ·refine .inr ⟨q,q1,by omega,h1,?_⟩;rw[keepH q q2 (r.off hj hp h1) (fun a b e2=>r.apart j i q _ _ a b hj hi e h1 (hv.trans e2))];exact q3
  ·rw[zEb (by rw[r.len];exact hi)]at e1 e2;have old:∀ j a b,j<n→cells.getD j undef= .slice (some ⟨g,0,none⟩) a b→g<h.n:=fun j a b hj e=>by
    rcases r.all j hj with ⟨h1,_⟩|⟨q,_,q2,h1,_⟩
    ·rw[e]at h1;cases h1
    ·rw[e]at h1;cases h1;exact q2
   by_cases f1:j1=i
   ·rw[if_pos f1]at e1;cases e1;by_cases f2:j2=i
    ·exact hne (f1.trans f2.symm)
    ·rw[if_neg f2]at e2;have:=old j2 _ _ hj2 e2;omega
   ·rw[if_neg f1]at e1;by_cases f2:j2=i
    ·rw[if_pos f2]at e2;cases e2;have:=old j1 _ _ hj1 e1;omega
    ·rw[if_neg f2]at e2;exact r.apart j1 j2 g a b c d hj1 hj2 hne e1 e2
theorem AR.one {hB h:AHeap} {p:Value} {cells:List Value} {n:Nat} {A:Nat→List Int} (r:AR hB h p cells n A):zN cells=true:=by
 unfold zN;rw[List.all_eq_true];intro x hx;obtain⟨j,hj,rfl⟩:=List.mem_iff_getElem.1 hx;have e:cells.getD j undef=cells[j]:=by simp[List.getD,List.getElem?_eq_getElem hj]
 have:=r.all j (by rw[←r.len];exact hj);rw[e]at this;rcases this with ⟨h,_⟩|⟨_,_,_,h,_⟩<;>rw[h]
theorem AR.updC {hB h h':AHeap} {p:Value} {cells:List Value} {n:Nat} {A:Nat→List Int} (r:AR hB h p cells n A) (o:OwnC hB h' p cells) (u:UpdC p h h'):AR hB h' p cells n A:=by
 refine⟨o,r.len,fun j hj=> ?_,r.apart⟩;rcases r.all j hj with h1|⟨q,q1,q2,h1,q3⟩
 ·exact .inl h1
 ·refine .inr ⟨q,q1,Nat.lt_of_lt_of_le q2 u.1,h1,(u.2 q q2 fun e=> ?_).trans q3⟩;exact r.off hj e h1 rfl
theorem zIw {cells:List Value} {n:Nat} (hn:cells.length=n):(cut cells 0 n).bind (zL true)=some (.agg cells.toArray):=by
 subst hn;rw[ZD (by omega)];simp[List.take_of_length_le,zL]
theorem WO.ldV {d i:Nat} {x:Operand} {p:Value} {cells:List Value} {h0 h:AHeap} {l:List AOper} {Q:AFr→AHeap→Prop} (o:OwnC h0 h p cells) (hi:i<cells.length) (k:WO P tab l ⟨t.set d (cells.getD i undef),ds,rd⟩ h Q) (hx:Ope t x (yF p i):=by exact zv):WO P tab (⟨some d,none,.load false 1 x⟩::l) ⟨t,ds,rd⟩ h Q:=
 WO.o (OwnC.load hx o (zNR hi)) k
theorem WO.ldAll {d n:Nat} {x:Operand} {p:Value} {cells:List Value} {h0 h:AHeap} {l:List AOper} {Q:AFr→AHeap→Prop} (o:OwnC h0 h p cells) (hn:cells.length=n) (k:WO P tab l ⟨t.set d (.agg cells.toArray),ds,rd⟩ h Q) (hx:Ope t x p:=by exact zv):WO P tab (⟨some d,none,.load true n x⟩::l) ⟨t,ds,rd⟩ h Q:=
 WO.o (OwnC.load0 hx o (zIw hn)) k
end
section
variable {P:Program} {tab:Tab} {ds:List Deferred} {rd:Option Nat} {h:AHeap} {l:List AOper} {t:Trie Value}
theorem goV {G' G:Prop} (k:G') (r:Wrap G'→G:=by
  intro hgo;first|with_reducible show WU6 _ _ _ _ (_::_) _ _ _ _|refine go ?_
  repeat (first|((apply WU6.q;rfl);refine go ?_)|refine zSk rfl ?_|(apply zIp;(exact zM);(assumption)))
  first|with_reducible show WU6 _ _ _ _ (_::_) _ _ _ _|refine go ?_
  exact hgo.out):G:=r ⟨k⟩
end
section
variable {P:Program} {tab:Tab} {t:Trie Value} {ds:List Deferred} {rd:Option Nat}
theorem zC4 {h0 h:AHeap} {p:Value} {xs:List Int} {j:Nat} {a:Int} (o:OwnC h0 h p (xs.map I)) (hj:j<xs.length):∃ g,h0.n≤g∧g<h.n∧p= .pointer (some ⟨g,0,none⟩)∧zr h ⟨g,j,none⟩ [I a]=some (h.set g (.row ((xs.set j a).map I) true 0)):=by
 obtain⟨g,g1,g2,hp,g3⟩:=o;refine⟨g,g1,g2,hp,?_⟩;have h1:Nat.ble (j+1) (xs.map I).length=true:=Nat.ble_eq_true_of_le (by simp;omega);have h0:Nat.ble 0 j=true:=Nat.ble_eq_true_of_le (Nat.zero_le _);have h2:zN [I a]=true:=rfl;simp only[zr,g3,List.length_singleton,h1,h0,h2,Bool.and_self,Yp _ _ _ hj];rfl
theorem WO.stI1 {x y:Operand} {p:Value} {xs:List Int} {j:Nat} {a:Int} {h0 h:AHeap} {l:List AOper} {Q:AFr→AHeap→Prop} (o:OwnC h0 h p (xs.map I)) (e0:Ext h0 h) (hj:j<xs.length)
  (k:∀ h',Ext h0 h'→OwnC h0 h' p ((xs.set j a).map I)→UpdC p h h'→WO P tab l ⟨t,ds,rd⟩ h' Q) (hx:Ope t x (yF p j):=by exact zv) (hy:Ope t y (I a):=by exact zv):WO P tab (⟨none,none,.store 1 x y⟩::l) ⟨t,ds,rd⟩ h Q:=by
 refine WO.storeC hx hy (v:=I a) (cs:=[I a]) rfl rfl rfl o e0 (by simp;omega) fun h' a1 a2 a3=>k h' a1 ?_ a3;rw[Yp _ _ _ hj]at a2;exact a2
theorem WU2.st1 {N0 g:Nat} {cl:Bool} {x y:Operand} {p:Value} {xs:List Int} {j:Nat} {a:Int} {h0 X:AHeap} {m:Nat} {w:AOper×List Nat} {l:List (AOper×List Nat)} {Q:AFr→AHeap→Prop} (o:OwnC h0 X p (xs.map I)) (hm:m≤h0.n) (hj:j<xs.length)
  (k:∀ X',X'.n=X.n→OwnC h0 X' p ((xs.set j a).map I)→UpdC p X X'→(Wf X→Wf X')→WU2 P tab m N0 (w::l) g false ⟨t,ds,rd⟩ (inC X') Q) (hx:Ope t x (yF p j):=by exact zv) (hy:Ope t y (I a):=by exact zv):
  WU2 P tab m N0 ((⟨none,none,.store 1 x y⟩,[])::w::l) g cl ⟨t,ds,rd⟩ (inC X) Q:=by
 obtain⟨q,q1,q2,hp,hst⟩:=zC4 (a:=a) o hj;rw[WU2,if_neg (show ¬Nat.beq (zG (AOp.store 1 x y)) 3=true from Bool.noConfusion)];have hst':zr (inC (inC X)) ⟨q,j,none⟩ [I a]=some ((inC (inC X)).set q (.row ((xs.set j a).map I) true 0)):=by
  have:OwnC h0 (inC (inC X)) p (xs.map I):=o;obtain⟨q',_,_,hp',h⟩:=zC4 (a:=a) this hj;rw[hp]at hp';cases hp';exact h
 have hx:ev t x=yF p j:=hx;have hy:ev t y=I a:=hy;have hc:(I a).cells=#[I a]:=rfl;refine WO.op0 undef ((inC (inC X)).set q (.row ((xs.set j a).map I) true 0)) rfl (by
  simp only[aop,hx,hp,yF,Nat.zero_add,hy,hc,hst',Option.map_some];rfl) ?_
 have hlog:(inC (inC X)).log q=[q]:=by
  have:Nat.ble X.n q=false:=by
   cases hb:Nat.ble X.n q with
   |false=>rfl
   |true=>have:=Nat.le_of_ble_eq_true hb;omega
  show (bif Nat.ble X.n q then [] else q::[])=_;rw[this];rfl
 have hwr:((inC (inC X)).set q (.row ((xs.set j a).map I) true 0)).wr=[q]:=hlog;refine WO.nil ⟨⟨fun c hc=> ?_,Nat.le_refl _,.inl rfl⟩,?_⟩
 ·rw[hwr]at hc;rw[List.mem_singleton]at hc;subst hc;omega
 ·rw[hwr,show (cl&&[q].isEmpty)=false by cases cl<;>rfl];have:=k ((inC (inC X)).set q (.row ((xs.set j a).map I) true 0)) rfl ⟨q,q1,q2,hp,by rw[zu,if_pos rfl]⟩ ⟨Nat.le_refl _,fun c _ hc=>by rw[zu,if_neg (fun e=>hc (by rw[hp,e]))];rfl⟩ (fun wf c hc=>by have hc:X.n≤c:=hc;rw[zu,if_neg (by omega)];exact wf c hc);obtain⟨o2,un2⟩:=w;unfold WU2 at this ⊢;exact this
theorem WU2.stE {N0 g:Nat} {cl:Bool} {x y:Operand} {p:Value} {xs:List Int} {j:Nat} {a:Int} {h0 hS X:AHeap} {K:AExit→AFr→AHeap→Prop} (o:OwnC h0 X p (xs.map I)) (e0:Ext h0 hS) (hm:hS.mark≤h0.n) (hn:X.n=hS.n) (u:UpdC p hS X) (wf:Wf hS→Wf X) (hj:j<xs.length)
  (k:∀ h1,Ext h0 h1→OwnC h0 h1 p ((xs.set j a).map I)→UpdC p hS h1→K .normal ⟨t,ds,rd⟩ h1) (hx:Ope t x (yF p j):=by exact zv) (hy:Ope t y (I a):=by exact zv):
  WU2 P tab hS.mark N0 [(⟨none,none,.store 1 x y⟩,[])] g cl ⟨t,ds,rd⟩ (inC X) (zAt K hS):=by
 obtain⟨q,q1,q2,hp,_⟩:=zC4 (a:=a) o hj;rw[WU2,if_neg (show ¬Nat.beq (zG (AOp.store 1 x y)) 3=true from Bool.noConfusion)];have hst':zr (inC (inC X)) ⟨q,j,none⟩ [I a]=some ((inC (inC X)).set q (.row ((xs.set j a).map I) true 0)):=by
  have:OwnC h0 (inC (inC X)) p (xs.map I):=o;obtain⟨q',_,_,hp',h⟩:=zC4 (a:=a) this hj;rw[hp]at hp';cases hp';exact h
 have hx:ev t x=yF p j:=hx;have hy:ev t y=I a:=hy;have hc:(I a).cells=#[I a]:=rfl;refine WO.op0 undef ((inC (inC X)).set q (.row ((xs.set j a).map I) true 0)) rfl (by
  simp only[aop,hx,hp,yF,Nat.zero_add,hy,hc,hst',Option.map_some];rfl) ?_
 refine WO.nil ⟨⟨fun c hc=> ?_,Nat.le_refl _,.inl rfl⟩,?_⟩
 ·have hc2:c∈(inC (inC X)).log q:=hc;rcases yo hc2 with rfl|h
  ·omega
  ·cases h
 have get2:∀ c,(outC hS ((inC (inC X)).set q (.row ((xs.set j a).map I) true 0))).get c=if c=q then some (.row ((xs.set j a).map I) true 0) else X.get c:=fun c=>zV _ _ _ _;refine k (outC hS ((inC (inC X)).set q (.row ((xs.set j a).map I) true 0))) ?_ ⟨q,q1,q2,hp,by rw[get2,if_pos rfl]⟩ ⟨by show hS.n≤X.n;omega,fun c hc hv=>by rw[get2,if_neg (fun e=>hv (by rw[hp,e]))];exact u.2 c hc hv⟩;refine⟨by show h0.n≤X.n;rw[hn];exact e0.n,fun c hc=> ?_,fun w c hc=> ?_,e0.mark,fun hmk=>e0.wr hmk⟩
 ·rw[get2,if_neg (by omega)];exact(u.2 c (by have:=e0.n;omega) (fun e=>by rw[hp]at e;cases e;omega)).trans (e0.get c hc)
 ·have hc:X.n≤c:=hc;rw[get2,if_neg (by omega)];exact wf (e0.wf w) c hc
theorem zJV {xs:List Int} {j n:Nat} (h:j+n≤xs.length):(cut (xs.map I) j n).bind (zL true)=some (.agg (((xs.drop j).take n).map I).toArray):=by
 rw[ZD (by simp;omega)];simp[zL]
theorem WO.ldMany {d j n:Nat} {x:Operand} {p:Value} {xs:List Int} {h0 h:AHeap} {l:List AOper} {Q:AFr→AHeap→Prop} (o:OwnC h0 h p (xs.map I)) (hn:j+n≤xs.length) (k:WO P tab l ⟨t.set d (.agg (((xs.drop j).take n).map I).toArray),ds,rd⟩ h Q) (hx:Ope t x (yF p j):=by exact zv):WO P tab (⟨some d,none,.load true n x⟩::l) ⟨t,ds,rd⟩ h Q:=
 WO.o (OwnC.load hx o (zJV hn)) k
theorem zLs {e:TypeId} {kk:IntKind} {d:Nat} (he:P.underlying e=some (.int kk)) (ha:zT P (isAgg e)=some false) {xs ys:List Int} (hl:xs.length=ys.length):∀ (m i:Nat),i+m=xs.length→
  zT P (do
   let s ←(forIn (List.range' i m) (none,()) fun f (__s:Option Bool×Unit)=>do
           let __do_lift ←part e (xs.map I).toArray (f * 1)
           let __do_lift_1 ←part e (ys.map I).toArray (f * 1)
           let __do_lift ←Op.equalIn (d+1) e __do_lift __do_lift_1
           if (!__do_lift)=true then pure (ForInStep.done (some false,()))
            else pure (ForInStep.yield (none,())):Sem (Option Bool×Unit))
   match s.fst with
        |some r=>pure r
        |none=>pure true)=some (decide (xs.drop i=ys.drop i)):=by
 intro m;induction m with
 |zero=>
  intro i hi;have h1:xs.drop i=[]:=List.drop_eq_nil_of_le (by omega);have h2:ys.drop i=[]:=List.drop_eq_nil_of_le (by omega);rw[h1,h2];rfl
 |succ m ih=>
  intro i hi;have hx:i<xs.length:=by omega
  have hy:i<ys.length:=by omega
  have px:zT P (part e (xs.map I).toArray (i * 1))=some (I xs[i]):=zB1 (by rw[ha]) (by simp[hx]);have py:zT P (part e (ys.map I).toArray (i * 1))=some (I ys[i]):=zB1 (by rw[ha]) (by simp[hy]);have heq:zT P (Op.equalIn (d+1) e (I xs[i]) (I ys[i]))=some (decide (xs[i]=ys[i])):=by
   rw[Op.equalIn,zK,yS he];simp only[Option.bind_some,if_true,zFK];congr 1
  rw[List.range'_succ,List.forIn_cons];simp only[bind_assoc,zK,px,py,Option.bind_some,heq];have e1:(xs.drop i=ys.drop i)↔(xs[i]=ys[i]∧xs.drop (i+1)=ys.drop (i+1)):=by rw[List.drop_eq_getElem_cons hx,List.drop_eq_getElem_cons hy,List.cons.injEq]
  by_cases h:xs[i]=ys[i]
  ·have:=ih (i+1) (by omega);rw[decide_eq_true h,show decide (xs.drop i=ys.drop i)=decide (xs.drop (i+1)=ys.drop (i+1)) from decide_eq_decide.2 (e1.trans ⟨fun h=>h.2,fun k=>⟨h,k⟩⟩),←this,zK];rfl
  ·rw[decide_eq_false h,show decide (xs.drop i=ys.drop i)=false from decide_eq_false fun k=>h (e1.1 k).1];rfl
theorem zSe {t e:TypeId} {kk:IntKind} {n:Nat} {xs ys:List Int} {x y:Operand} (ht:P.underlying t=some (.array n e)) (he:P.underlying e=some (.int kk)) (ha:zT P (isAgg e)=some false) (hs:zT P (sizeOf e)=some 1) (hg:P.eqGuardType P.depth t=false) (hx:xs.length=n) (hy:ys.length=n):
  zT P (do eqGuard .eql t x y (.agg (xs.map I).toArray) (.agg (ys.map I).toArray);binOp .eql t (.agg (xs.map I).toArray) (.agg (ys.map I).toArray))=some (.bool (decide (xs=ys))):=by
 have h1:zT P (eqGuard .eql t x y (.agg (xs.map I).toArray) (.agg (ys.map I).toArray))=some ():=by
  unfold eqGuard;simp only[Bool.not_true,Bool.false_eq_true,if_false];rw[zK,yG];simp only[Option.bind_some];rw[zK,yG];simp only[Option.bind_some,hg,Bool.not_false,if_true];rfl
 rw[zK,h1];simp only[Option.bind_some];unfold binOp;simp only[];rw[zK];have h2:zT P (Op.equal t (.agg (xs.map I).toArray) (.agg (ys.map I).toArray))=some (decide (xs=ys)):=by
  unfold Op.equal Op.maxDepth;rw[show (10000:Nat)=9999+1 from rfl,Op.equalIn,zK,yS ht];simp only[Option.bind_some];rw[zK,hs];simp only[Option.bind_some];have:=zLs (P:=P) (d:=9998) he ha (xs:=xs) (ys:=ys) (by omega) n 0 (by omega);rw[List.drop_zero,List.drop_zero]at this;rw[←this,zK,zK];first|rw[Std.Legacy.Range.forIn_eq_forIn_range']|rw[Std.Range.forIn_eq_forIn_range']
  have hsz:(Std.Legacy.Range.size [:n])=n:=by simp[Std.Legacy.Range.size]
  rw[hsz];congr 1;funext a;obtain⟨a,_⟩:=a;cases a<;>rfl
 rw[h2];rfl
noncomputable def zQd (P:Program) (t:TypeId) (n:Nat):Bool:=
 (match P.underlying t with
 |some (.array m e)=>Nat.beq m n&&(match P.underlying e with|some (.int _)=>true|_=>false)&&(match zT P (isAgg e)with|some false=>true|_=>false)&&(match zT P (sizeOf e)with|some 1=>true|_=>false)
 |_=>false)&& !P.eqGuardType P.depth t
theorem zQR {t:TypeId} {n:Nat} {xs ys:List Int} {x y:Operand} (h:zQd P t n=true) (hx:xs.length=n) (hy:ys.length=n):
  zT P (do eqGuard .eql t x y (.agg (xs.map I).toArray) (.agg (ys.map I).toArray);binOp .eql t (.agg (xs.map I).toArray) (.agg (ys.map I).toArray))=some (.bool (decide (xs=ys))):=by
 unfold zQd at h;rw[Bool.and_eq_true]at h;obtain⟨h,hg⟩:=h;have hg:P.eqGuardType P.depth t=false:=by cases hh:P.eqGuardType P.depth t with|false=>rfl|true=>rw[hh]at hg;cases hg
 split at h
 ·rename_i m e ht;simp only[Bool.and_eq_true]at h;obtain⟨⟨⟨h1,h2⟩,h3⟩,h4⟩:=h;have hm:=Nat.eq_of_beq_eq_true h1;subst hm;split at h2
  ·rename_i kk he;refine zSe ht he ?_ ?_ hg hx hy
   ·split at h3
    ·assumption
    ·cases h3
   ·split at h4
    ·assumption
    ·cases h4
  ·cases h2
 ·cases h
def zIt (K:AExit→AFr→AHeap→Prop):AExit→AFr→AHeap→Prop
 | .normal,fr,h=>K .normal fr h
 | .exit i,fr,h=>K (.exit i) fr h
 | .goto _,_,_=>False
 | .ret,fr,h=>K .ret fr h
theorem zG7 {K fr h} (hx:K .ret fr h):zIt K .ret fr h:=hx
theorem WX.scope0 {b fr h K} (hx:WX P tab b fr h (zIt K)):WX P tab (.scope b) fr h K:=by
 unfold WX at hx ⊢;obtain⟨e,fr',h',k,ev⟩:=hx;have run:∀ n,(aex P tab n).exec b fr h=some (e,fr',h')→(∀ l,e≠ .goto l)→Zv (aex P tab n) zQj b b fr h=some (e,fr',h'):=fun n h1 h2=>by
  show Zv (aex P tab n) (4294967295+1) b b fr h=_;rw[Zv,h1];cases e with
  |goto l=>exact absurd rfl (h2 l)
  |_=>rfl
 cases e with
 |goto l=>exact k.elim
 |normal=>exact⟨_,_,_,k,Ev.up (ev.mono fun n e=>by rw[zq];simp only[zi];exact run n e (fun l h=>by cases h))⟩
 |exit i=>exact⟨_,_,_,k,Ev.up (ev.mono fun n e=>by rw[zq];simp only[zi];exact run n e (fun l h=>by cases h))⟩
 |ret=>exact⟨_,_,_,k,Ev.up (ev.mono fun n e=>by rw[zq];simp only[zi];exact run n e (fun l h=>by cases h))⟩
end
def Dep {α:Type} (R:AHeap→List Value→α→Prop) (h:AHeap) (cs:List Value) (a:α) (D:Nat→Prop):Prop:=
 ∀ hx:AHeap,(∀ k o,D k→h.get k=some o→hx.get k=some o)→h.n≤hx.n→R hx cs a
def OwnR {α:Type} (c:Nat) (R:AHeap→List Value→α→Prop) (b:Nat) (h:AHeap) (v:Value) (xs:List α):Prop:=
 (v= .slice none 0 0∧xs=[])∨∃ g cells D,b≤g∧g<h.n∧v= .slice (some ⟨g,0,none⟩) xs.length c∧h.get g=some (.row cells true 0)∧cells.length=xs.length * c∧¬D g∧(∀ k,D k→b≤k∧k<h.n)∧
  ∀ (i:Nat) (a:α),xs[i]?=some a→Dep R h ((cells.drop (i * c)).take c) a D
section
variable {α:Type} {c b:Nat} {R:AHeap→List Value→α→Prop} {h h':AHeap} {v:Value} {xs:List α}
theorem Dep.self {cs:List Value} {a:α} {D:Nat→Prop} (d:Dep R h cs a D):R h cs a:=d h (fun _ _ _ e=>e) (Nat.le_refl _)
theorem Dep.mono {cs:List Value} {a:α} {D E:Nat→Prop} (d:Dep R h cs a D) (hE:∀ k,D k→E k) (hk:∀ k o,D k→h.get k=some o→h'.get k=some o) (hn:h.n≤h'.n):Dep R h' cs a E:=
 fun hx h1 h2=>d hx (fun k o hd e=>h1 k o (hE k hd) (hk k o hd e)) (Nat.le_trans hn h2)
theorem OwnR.nil:OwnR c R b h (.slice none 0 0) ([]:List α):= .inl ⟨rfl,rfl⟩
theorem OwnR.upd (o:OwnR c R b h v xs) (hk:∀ k,b≤k→k<h.n→h'.get k=h.get k) (hn:h.n≤h'.n):OwnR c R b h' v xs:=by
 rcases o with o|⟨g,cells,D,g1,g2,g3,g4,g5,g6,g7,g8⟩
 ·exact .inl o
 ·exact .inr ⟨g,cells,D,g1,Nat.lt_of_lt_of_le g2 hn,g3,(hk g g1 g2).trans g4,g5,g6,fun k hd=>⟨(g7 k hd).1,Nat.lt_of_lt_of_le (g7 k hd).2 hn⟩,fun i a ha=>(g8 i a ha).mono (fun _ h=>h) (fun k o hd e=>(hk k (g7 k hd).1 (g7 k hd).2).trans e) hn⟩
theorem OwnR.ext (o:OwnR c R b h v xs) (e:Ext h h'):OwnR c R b h' v xs:=o.upd (fun k _ hk=>e.get k hk) e.n
theorem OwnR.dep (o:OwnR c R b h v xs) {hx:AHeap} (hk:∀ k o,b≤k→k<h.n→h.get k=some o→hx.get k=some o) (hn:h.n≤hx.n):SlR c R hx v xs:=by
 rcases o with ⟨rfl,rfl⟩|⟨g,cells,D,g1,g2,rfl,g4,g5,g6,g7,g8⟩
 ·exact SlR.nil
 ·refine⟨cells,⟨g5,.inr ⟨g,0,cells,rfl,ZU (hk g _ g1 g2 g4),?_,Nat.lt_of_lt_of_le g2 hn⟩⟩,fun i a ha=>g8 i a ha hx (fun k o hd e=>hk k o (g7 k hd).1 (g7 k hd).2 e) hn⟩;rw[ZD (by omega)];simp[←g5]
theorem OwnR.sl (o:OwnR c R b h v xs):SlR c R h v xs:=o.dep (fun _ _ _ _ e=>e) (Nat.le_refl _)
theorem OwnN.depI {hb:AHeap} {w:Value} {l:List Int} (o:OwnN hb h w l) {hx:AHeap} (hk:∀ k o,hb.n≤k→k<h.n→h.get k=some o→hx.get k=some o) (hn:h.n≤hx.n):SlI hx w l:=by
 rcases o with ⟨rfl,rfl⟩|⟨g,g1,g2,rfl,g4⟩
 ·exact SlI.nil hx
 ·exact SlI.own (Nat.lt_of_lt_of_le g2 hn) (hk g _ g1 g2 g4)
theorem zL1 {cells cs:List Value} {n i:Nat} (hl:cells.length=n * c) (hc:cs.length=c) (hi:i<n):(((cells++cs).drop (i * c)).take c)=(cells.drop (i * c)).take c:=by
 have h1:i * c+c≤n * c:=by rw[←Nat.succ_mul];exact Nat.mul_le_mul_right _ hi
 rw[List.drop_append,List.take_append_of_le_length];rw[List.length_drop];omega
theorem zJi {cells cs:List Value} {n:Nat} (hl:cells.length=n * c) (hc:cs.length=c):(((cells++cs).drop (n * c)).take c)=cs:=by
 rw[List.drop_append,List.drop_eq_nil_of_le (by omega),List.nil_append,hl,Nat.sub_self,List.drop_zero,List.take_of_length_le (by omega)]
theorem OwnR.snoc (o:OwnR c R b h v xs) {cs:List Value} {a:α} {Dn:Nat→Prop} {g':Nat} {olds:List Value} (hc:cs.length=c) (d:Dep R h cs a Dn) (hD:∀ k,Dn k→b≤k∧k<h.n) (hv:∀ g n k,v= .slice (some ⟨g,0,none⟩) n k→¬Dn g)
  (hold:∀ g n k,v= .slice (some ⟨g,0,none⟩) n k→h.get g=some (.row olds true 0)) (hnil:v= .slice none 0 0→olds=[])
  (hg:h.n≤g') (hb:b≤g') (hg2:g'<h'.n) (hget:h'.get g'=some (.row (olds++cs) true 0)) (keep:∀ k,b≤k→k<h.n→(∀ n k',v≠ .slice (some ⟨k,0,none⟩) n k')→h'.get k=h.get k):
  OwnR c R b h' (.slice (some ⟨g',0,none⟩) (xs++[a]).length c) (xs++[a]):=by
 rcases o with ⟨rfl,rfl⟩|⟨g,cells,D,g1,g2,rfl,g4,g5,g6,g7,g8⟩
 ·have:=hnil rfl;subst this;refine .inr ⟨g',cs,Dn,hb,hg2,rfl,by simpa using hget,by simp[hc],fun hd=>by have:=(hD _ hd).2;omega,fun k hd=>⟨(hD k hd).1,by have:=(hD k hd).2;omega⟩,fun i x hx=> ?_⟩;have hi:i=0:=by
   have:=(List.getElem?_eq_some_iff.1 hx).1;simp at this;omega
  subst hi;simp at hx;subst hx;rw[Nat.zero_mul,List.drop_zero,List.take_of_length_le (by omega)];exact d.mono (fun _ h=>h) (fun k o hd e=>(keep k (hD k hd).1 (hD k hd).2 (fun _ _ e=>by cases e)).trans e) (by omega)
 ·have:=hold g _ _ rfl;rw[g4]at this;cases this;refine .inr ⟨g',olds++cs,fun k=>D k∨Dn k,hb,hg2,rfl,hget,by rw[List.length_append,List.length_append,List.length_singleton,Nat.succ_mul,g5,hc],fun hd=> ?_,fun k hd=> ?_,fun i x hx=> ?_⟩
  ·rcases hd with hd|hd
   ·have:=(g7 _ hd).2;omega
   ·have:=(hD _ hd).2;omega
  ·rcases hd with hd|hd
   ·exact⟨(g7 k hd).1,by have:=(g7 k hd).2;omega⟩
   ·exact⟨(hD k hd).1,by have:=(hD k hd).2;omega⟩
  ·by_cases hi:i<xs.length
   ·rw[List.getElem?_append_left hi]at hx;rw[zL1 g5 hc hi];refine(g8 i x hx).mono (fun k h=> .inl h) (fun k o hd e=>(keep k (g7 k hd).1 (g7 k hd).2 (fun n k' e2=> ?_)).trans e) (by omega);cases e2;exact g6 hd
   ·rw[List.getElem?_append_right (by omega)]at hx;have hi2:i=xs.length:=by
     have:=(List.getElem?_eq_some_iff.1 hx).1;simp at this;omega
    subst hi2;simp at hx;subst hx;rw[zJi g5 hc];refine d.mono (fun k h=> .inr h) (fun k o hd e=>(keep k (hD k hd).1 (hD k hd).2 (fun n k' e2=> ?_)).trans e) (by omega);exact hv k n k' e2 hd
end
section
variable {P:Program} {tab:Tab} {t:Trie Value} {h:AHeap} {ds:List Deferred} {rd:Option Nat} {l:List AOper} {Q:AFr→AHeap→Prop}
theorem zBt {zero cs:List Value} {v:Value} {c:Nat} (hv:v.cells=cs.toArray) (hc:cs.length=c) (hz:zero.length=c):ZR (zZ zero 1) [(0,c,v)]=some cs:=by
 have h1:zZ zero 1=zero:=by simp[zZ]
 have h2:Nat.beq v.cells.size c=true:=by rw[hv];simp[hc]
 have h3:Nat.ble (0+c) zero.length=true:=Nat.ble_eq_true_of_le (by omega);rw[h1];simp only[ZR,h2,h3,Bool.and_self,cond_true,hv];congr 1;simp[zg,hc,hz]
theorem zBN {α:Type} {c b gl:Nat} {R:AHeap→List Value→α→Prop} {h H:AHeap} {v:Value} {xs:List α} {cs:List Value} {a:α} {Dn:Nat→Prop} (o:OwnR c R b h v xs) (hc:cs.length=c) (hc0:0<c) (h1:zN cs=true) (hl:xs.length≤100000) (hbn:b≤h.n)
  (d:Dep R h cs a Dn) (hD:∀ k,Dn k→b≤k∧k<h.n) (hv:∀ g n k,v= .slice (some ⟨g,0,none⟩) n k→¬Dn g) (hH:h.n≤H.n) (hgl:gl<H.n) (hkeep:∀ k,k<h.n→H.get k=h.get k) (hlit:H.get gl=some (.row cs true 0)):
  ∃ v' H',yY c v (.slice (some ⟨gl,0,none⟩) 1 c) H=some (v',H')∧OwnR c R b H' v' (xs++[a])∧H'.n=H.n+1∧(∀ k,k<H.n→(∀ n k',v≠ .slice (some ⟨k,0,none⟩) n k')→H'.get k=H.get k)∧H'.mark=H.mark∧(∀ k∈H'.wr,k∈H.wr∨b≤k)∧
   (H.mark≤b→H'.wr=H.wr)∧(Wf H→Wf H')∧(∃ n k g,v'= .slice (some ⟨g,0,none⟩) n k∧H.n≤g):=by
 obtain⟨y,ys,rfl⟩:∃ y ys,cs=y::ys:=by
  cases cs with
  |nil=>simp at hc;omega
  |cons y ys=>exact⟨y,ys,rfl⟩
 have hsrc:yd c H (.slice (some ⟨gl,0,none⟩) 1 c)=some (y::ys):=by
  have e1:yP H gl=some (y::ys):=ZU hlit;have e2:cut (y::ys) 0 (1 * c)=some (y::ys):=by rw[ZD (by omega)];simp[←hc]
  have e3:Nat.beq 1 0=false:=rfl;rw[Nat.one_mul]at e2;simp only[yd,e1,e3,Nat.one_mul,e2,Nat.beq_refl,Option.isNone_none,Bool.and_self,cond_true,cond_false]
 have hdiv:(y::ys).length / c=1:=by rw[hc];exact Nat.div_self hc0
 have hroom:room=4294967296:=rfl;rcases id o with ⟨rfl,rfl⟩|⟨g,cells,D,g1,g2,rfl,g4,g5,g6,g7,g8⟩
 ·have hb1:Nat.ble 1 room=true:=rfl;refine⟨.slice (some ⟨H.n,0,none⟩) 1 c,H.push (.row (y::ys) true 0),?_,?_,rfl,fun k hk _=> ?_,rfl,fun k hk=> .inl hk,fun _=>rfl,fun w k hk=> ?_,⟨_,_,_,rfl,Nat.le_refl _⟩⟩
  ·simp only[yY,hsrc,h1,Bool.not_true,cond_false,hdiv,hb1,cond_true];rfl
  ·have:=o.snoc (h':=H.push (.row (y::ys) true 0)) (g':=H.n) (olds:=[]) hc d hD hv (fun g n k e=>by cases e) (fun _=>rfl) hH (Nat.le_trans hbn hH) (Nat.lt_succ_self _) (zY _ _) (fun k _ hk _=>by rw[zQ,if_neg (by omega)];exact hkeep k hk);exact this
  ·rw[zQ,if_neg (by omega)]
  ·have hk:H.n+1≤k:=hk;rw[zQ,if_neg (by omega)];exact w k (by omega)
 ·have hb1:Nat.ble (xs.length+1) room=true:=Nat.ble_eq_true_of_le (by omega);have hq:H.get g=some (.row cells true 0):=(hkeep g g2).trans g4;have h2:cut cells 0 (xs.length * c)=some cells:=by rw[ZD (by omega)];simp[←g5]
  have h3:Nat.ble 0 (0+xs.length * c)=true:=Nat.ble_eq_true_of_le (Nat.zero_le _);have hcc:Nat.beq c 0=false:=by cases hz:Nat.beq c 0 with
   |false=>rfl
   |true=>have:=Nat.eq_of_beq_eq_true hz;omega
  have hKn:(H.kill g).n=H.n:=rfl;refine⟨.slice (some ⟨H.n,0,none⟩) (xs.length+1) c,(H.kill g).push (.row (cells++y::ys) true (0 - 0)),?_,?_,rfl,fun k hk hvk=> ?_,rfl,fun k hk=> ?_,fun hm=> ?_,fun w k hk=> ?_,⟨_,_,_,rfl,Nat.le_refl _⟩⟩
  ·simp only[yY,hsrc,h1,Bool.not_true,cond_false,hdiv,hb1,hcc,Nat.beq_refl,hq,h2,h3,cond_true,Option.isNone_none,Bool.and_self]
  ·have:=o.snoc (h':=(H.kill g).push (.row (cells++y::ys) true (0 - 0))) (g':=H.n) (olds:=cells) hc d hD hv (fun g n k e=>by cases e;exact g4) (fun e=>by cases e) hH (Nat.le_trans hbn hH) (Nat.lt_succ_self _) (zY (H.kill g) _) (fun k _ hk hvk=>by
    rw[zQ,if_neg (by rw[hKn];omega),yc,if_neg (fun e=>hvk _ _ (by rw[e]))];exact hkeep k hk)
   rw[List.length_append,List.length_singleton]at this;exact this
  ·rw[zQ,if_neg (by rw[hKn];omega),yc,if_neg (fun e=>hvk _ _ (by rw[e]))]
  ·have hk2:k∈H.log g:=hk;rcases yo hk2 with rfl|h
   ·exact .inr g1
   ·exact .inl h
  ·show H.log g=H.wr;exact Yf (by omega)
  ·have hk:H.n+1≤k:=hk;rw[zQ,if_neg (by rw[hKn];omega),yc];split
   ·rfl
   ·exact w k (by omega)
theorem WO.apR {α:Type} {c b d1 d2:Nat} {R:AHeap→List Value→α→Prop} {hB:AHeap} {v w:Value} {xs:List α} {cs zero:List Value} (a:α) (Dn:Nat→Prop) {x y:Operand} (o:OwnR c R b h v xs) (e0:Ext hB h) (hb:hB.n≤b) (hbn:b≤h.n) (hc0:0<c) (hl:xs.length≤100000)
  (d:Dep R h cs a Dn) (hD:∀ k,Dn k→b≤k∧k<h.n) (hv:∀ g n k,v= .slice (some ⟨g,0,none⟩) n k→¬Dn g)
  (k:∀ v' h' lit,Ext hB h'→OwnR c R b h' v' (xs++[a])→h.n≤h'.n→(∀ k,k<h.n→(∀ n k',v≠ .slice (some ⟨k,0,none⟩) n k')→h'.get k=h.get k)→WO P tab l ⟨(t.set d1 lit).set d2 v',ds,rd⟩ h' Q)
  (hx:Ope t x w:=by exact zv) (hw:w.cells=cs.toArray:=by rfl) (hc:cs.length=c:=by rfl) (h1:zN cs=true:=by rfl) (hz:zero.length=c:=by rfl) (hy:∀ u,Ope (t.set d1 u) y v:=by intro u;exact zv):
  WO P tab (⟨some d1,none,.buildSlice 1 c zero [(0,c,x)]⟩::⟨some d2,none,.append c y (.tmp d1)⟩::l) ⟨t,ds,rd⟩ h Q:=by
 have hx:ev t x=w:=hx;refine WO.op (.slice (some ⟨h.n,0,none⟩) 1 c) (h.push (.row cs true 0)) rfl (by
  simp only[aop,zx,List.map_cons,List.map_nil,hx,zBt hw hc hz,Option.map_some];rfl) ?_
 obtain⟨v',H',q1,q2,q3,q4,q5,q6,q7,q8,q9⟩:=zBN (H:=h.push (.row cs true 0)) (gl:=h.n) o hc hc0 h1 hl hbn d hD hv (Nat.le_succ _) (Nat.lt_succ_self _) (fun k hk=>by rw[zQ,if_neg (by omega)]) (zY _ _);have hyv:ev (t.set d1 (.slice (some ⟨h.n,0,none⟩) 1 c)) y=v:=hy _;have e1:ev (t.set d1 (.slice (some ⟨h.n,0,none⟩) 1 c)) (.tmp d1)= .slice (some ⟨h.n,0,none⟩) 1 c:=by simp only[ev,zl,if_true]
 refine WO.op v' H' rfl (by simp only[aop,hyv,e1,q1]) (k v' H' _ ?_ q2 (by rw[q3];show h.n≤h.n+1+1;omega) (fun k hk hvk=> ?_))
 ·have hvb:∀ k,k<hB.n→∀ n k',v≠ .slice (some ⟨k,0,none⟩) n k':=fun k hk n k' e=>by
   rcases o with ⟨e2,_⟩|⟨g,_,_,g1,_,e2,_⟩
   ·rw[e2]at e;cases e
   ·rw[e2]at e;cases e;omega
  refine⟨by rw[q3];show hB.n≤h.n+1+1;have:=e0.n;omega,fun k hk=> ?_,fun w=>q8 ?_,q5.trans e0.mark,fun hm=> ?_⟩
  ·have:=e0.n;rw[q4 k (by show k<h.n+1;omega) (hvb k hk),zQ,if_neg (by omega)];exact e0.get k hk
  ·intro k hk;have hk:h.n+1≤k:=hk;rw[zQ,if_neg (by omega)];exact e0.wf w k (by omega)
  ·rw[q7 (by show h.mark≤b;rw[e0.mark];omega)];exact e0.wr hm
 ·rw[q4 k (by show k<h.n+1;omega) hvk,zQ,if_neg (by omega)]
theorem WU2.apR {α:Type} {c b d1 d2 d3 s j m N0:Nat} {cl:Bool} {R:AHeap→List Value→α→Prop} {hB hS X:AHeap} {p v w:Value} {xs:List α} {cs zero cells:List Value} (a:α) (Dn:Nat→Prop) {x y:Operand} {K:AExit→AFr→AHeap→Prop}
  (eX:Ext (inC (zC 1 hS)) X) (o:OwnR c R b hS v xs) (e0:Ext hB hS) (hm:hS.mark≤hB.n) (hb:hB.n≤b) (hbn:b≤hS.n) (hc0:0<c) (hl:xs.length≤100000) (op:OwnC hB hS p cells) (hpb:∀ g,p= .pointer (some ⟨g,0,none⟩)→g<b)
  (d:Dep R X cs a Dn) (hD:∀ k,Dn k→b≤k∧k<X.n) (hv:∀ g n k,v= .slice (some ⟨g,0,none⟩) n k→¬Dn g) (hDs:¬Dn hS.n) (hj:j<cells.length) (hcl:zN cells=true)
  (k:∀ H v' t',zEa [d1,d2,d3] t t'→Ext hB H→OwnC hB H p (cells.set j v')→zN (cells.set j v')=true→OwnR c R b H v' (xs++[a])→(∀ k,k<hS.n→p≠ .pointer (some ⟨k,0,none⟩)→(∀ n k',v≠ .slice (some ⟨k,0,none⟩) n k')→H.get k=hS.get k)→hS.n≤H.n→K .normal ⟨t',ds,rd⟩ H)
  (hx:Ope t x w:=by exact zv) (hw:w.cells=cs.toArray:=by rfl) (hc:cs.length=c:=by rfl) (h1:zN cs=true:=by rfl) (hz:zero.length=c:=by rfl) (hy:∀ u,Ope (t.set d1 u) y v:=by intro u;exact zv) (hs:∀ u u',Ope ((t.set d1 u).set d2 u') (.tmp s) p:=by intro u u';exact zv) (h32:Nat.beq d2 d3=false:=by rfl) (hm0:m=hS.mark:=by rfl):
  WU2 P tab m N0 [(⟨some d1,none,.buildSlice 1 c zero [(0,c,x)]⟩,[]),(⟨some d2,none,.append c y (.tmp d1)⟩,[]),(⟨some d3,none,.fld j (.tmp s)⟩,[]),(⟨none,none,.store 1 (.tmp d3) (.tmp d2)⟩,[])] hS.n cl ⟨t,ds,rd⟩ (inC X) (zAt K hS):=by
 subst hm0;have hx:ev t x=w:=hx;have hnX:hS.n+1≤X.n:=eX.n;obtain⟨gp,gp1,gp2,hp,gp3⟩:=op;have hgpb:=hpb gp hp;rw[WU2,if_pos (show Nat.beq (zG (AOp.buildSlice 1 c zero [(0,c,x)])) 3=true from rfl)];refine⟨rfl,.inl ⟨rfl,by have:=e0.n;omega,.row cs true 0,_,by simp only[yh,zx,List.map_cons,List.map_nil,hx,zBt hw hc hz,Option.map_some];rfl,?_⟩⟩;generalize hH1:(inC (inC X)).lay hS.n (.row cs true 0)=H1;have n1:H1.n=X.n:=by rw[←hH1];rfl
 have get1:∀ c',H1.get c'=if c'=hS.n then some (.row cs true 0) else X.get c':=fun c'=>by rw[←hH1];exact zV _ _ _ _
 have getX:∀ k,k<hS.n→X.get k=hS.get k:=fun k hk=>eX.get k (by show k<hS.n+1;omega);have oX:OwnR c R b X v xs:=o.upd (fun k _ hk=>getX k hk) (by omega);have oX1:OwnR c R b (inC H1) v xs:=by
  rcases o with o|⟨g,cl',D,g1,g2,g3,g4,g5,g6,g7,g8⟩
  ·exact .inl o
  ·refine .inr ⟨g,cl',D,g1,by show g<H1.n;omega,g3,?_,g5,g6,fun k hd=>⟨(g7 k hd).1,by have:=(g7 k hd).2;show k<H1.n;omega⟩,fun i a ha=>(g8 i a ha).mono (fun _ h=>h) (fun k o hd e=> ?_) (by show hS.n≤H1.n;omega)⟩
   ·show H1.get g=_;rw[get1,if_neg (by omega),getX g g2];exact g4
   ·have:=(g7 k hd).2;show H1.get k=_;rw[get1,if_neg (by omega),getX k this];exact e
 have d1':Dep R (inC H1) cs a Dn:=d.mono (fun _ h=>h) (fun k o hd e=>by
  show H1.get k=_;rw[get1,if_neg (fun e2:k=hS.n=>by subst e2;exact hDs hd)];exact e) (by show X.n≤H1.n;omega)
 obtain⟨v',H2,q1,q2,q3,q4,q5,q6,q7,q8,n',k',g',q9,q10⟩:=zBN (H:=inC H1) (gl:=hS.n) oX1 hc hc0 h1 hl (by show b≤H1.n;omega) d1' (fun k hd=>⟨(hD k hd).1,by have:=(hD k hd).2;show k<H1.n;omega⟩) hv (Nat.le_refl _) (by show hS.n<H1.n;omega) (fun _ _=>rfl) (by show H1.get hS.n=_;rw[get1,if_pos rfl]);rw[WU2,if_neg (show ¬Nat.beq (zG (AOp.append c y (.tmp d1))) 3=true from Bool.noConfusion)];have hyv:ev (t.set d1 (.slice (some ⟨hS.n,0,none⟩) 1 c)) y=v:=hy _;have e1:ev (t.set d1 (.slice (some ⟨hS.n,0,none⟩) 1 c)) (.tmp d1)= .slice (some ⟨hS.n,0,none⟩) 1 c:=by simp only[ev,zl,if_true]
 refine WO.op v' H2 rfl (by simp only[aop,hyv,e1,q1]) ?_;refine WO.nil ⟨⟨fun c' hc'=> ?_,by show H1.n≤H2.n;rw[q3];exact Nat.le_succ _,.inl rfl⟩,?_⟩
 ·rcases q6 c' hc' with h|h
  ·cases h
  ·omega
 have hvp:∀ n k,v≠ .slice (some ⟨gp,0,none⟩) n k:=fun n k e=>by
  rcases o with ⟨e2,_⟩|⟨g,_,_,g1,_,e2,_⟩
  ·rw[e2]at e;cases e
  ·rw[e2]at e;cases e;omega
 have own2:H2.get gp=some (.row cells true 0):=by
  rw[q4 gp (by show gp<H1.n;omega) hvp];show H1.get gp=_;rw[get1,if_neg (by omega),getX gp gp2];exact gp3
 rw[WU2,if_neg (show ¬Nat.beq (zG (AOp.fld j (.tmp s))) 3=true from Bool.noConfusion)];have hs2:ev ((t.set d1 (.slice (some ⟨hS.n,0,none⟩) 1 c)).set d2 v') (.tmp s)=p:=hs _ _;refine WO.op (.pointer (some ⟨gp,j,none⟩)) (inC H2) rfl (by simp only[aop,hs2,hp,Nat.zero_add,Option.isNone_none,cond_true]) ?_;refine WO.nil ⟨⟨fun c' hc'=>(by cases hc'),Nat.le_refl _,.inl rfl⟩,?_⟩;rw[WU2,if_neg (show ¬Nat.beq (zG (AOp.store 1 (.tmp d3) (.tmp d2))) 3=true from Bool.noConfusion)];have hvone:zN [v']=true:=by rw[q9];rfl
 have hvcells:v'.cells=#[v']:=by rw[q9];rfl
 have hst:zr (inC (inC H2)) ⟨gp,j,none⟩ [v']=some ((inC (inC H2)).set gp (.row (cells.set j v') true 0)):=by
  have hg':(inC (inC H2)).get gp=some (.row cells true 0):=own2;have h1:Nat.ble (j+1) cells.length=true:=Nat.ble_eq_true_of_le hj;have h0:Nat.ble 0 j=true:=Nat.ble_eq_true_of_le (Nat.zero_le _);simp only[zr,hg',List.length_singleton,h1,h0,hvone,Bool.and_self,zCK hj];rfl
 have hd32:¬d2=d3:=fun e=>by subst e;simp at h32
 refine WO.op0 undef ((inC (inC H2)).set gp (.row (cells.set j v') true 0)) rfl (by
  have a1:∀ tt:Trie Value,ev (tt.set d3 (.pointer (some ⟨gp,j,none⟩))) (.tmp d3)= .pointer (some ⟨gp,j,none⟩):=fun tt=>by
   simp only[ev,zl,if_true]
  have a2:∀ w,ev (((t.set d1 (.slice (some ⟨hS.n,0,none⟩) 1 c)).set d2 w).set d3 (.pointer (some ⟨gp,j,none⟩))) (.tmp d2)=w:=fun w=>by
   simp only[ev,zl,if_neg hd32,if_true]
  simp only[val,aop,a1,a2,hvcells,List.size_toArray,List.length_singleton,Nat.beq_refl,hst,Option.map_some,cond_true]) ?_
 refine WO.nil ⟨⟨fun c' hc'=> ?_,Nat.le_refl _,.inl rfl⟩,?_⟩
 ·have hc2:c'∈(inC (inC H2)).log gp:=hc';rcases yo hc2 with rfl|h
  ·omega
  ·cases h
 generalize hH:outC hS ((inC (inC H2)).set gp (.row (cells.set j v') true 0))=H;have nH:H.n=X.n+1:=by rw[←hH];show H2.n=_;rw[q3];show H1.n+1=_;omega
 have getH:∀ c',H.get c'=if c'=gp then some (.row (cells.set j v') true 0) else H2.get c':=fun c'=>by rw[←hH];exact zV _ _ _ _
 have keepH:∀ c',c'<hS.n→c'≠gp→(∀ n k,v≠ .slice (some ⟨c',0,none⟩) n k)→H.get c'=hS.get c':=fun c' h1 h2 h3=>by
  rw[getH,if_neg h2,q4 c' (by show c'<H1.n;omega) h3];show H1.get c'=_;rw[get1,if_neg (by omega),getX c' h1]
 have hvB:∀ k,k<hB.n→∀ n k',v≠ .slice (some ⟨k,0,none⟩) n k':=fun k hk n k' e=>by
  rcases o with ⟨e2,_⟩|⟨g,_,_,g1,_,e2,_⟩
  ·rw[e2]at e;cases e
  ·rw[e2]at e;cases e;omega
 have oneH:zN (cells.set j v')=true:=by
  unfold zN at *;rw[List.all_eq_true]at *;intro z hz;rcases List.mem_or_eq_of_mem_set hz with h|h
  ·exact hcl z h
  ·subst h;rw[q9]
 show K .normal _ _;rw[hH];refine k H v' _ (fun i hi=> ?_) ?_ ⟨gp,gp1,by rw[nH];omega,hp,by rw[getH,if_pos rfl]⟩ oneH (q2.upd (fun k hk1 hk2=>by rw[getH,if_neg (by omega)]) (by rw[nH,q3];show H1.n+1≤_;omega)) (fun c' h1 h2 h3=>keepH c' h1 (fun e=>h2 (by rw[hp,e])) h3) (by rw[nH];omega)
 ·have hc:=ZN hi;rw[List.contains_eq_mem,decide_eq_false_iff_not]at hc;have b1:¬i=d1:=fun e=>hc (by simp[e]);have b2:¬i=d2:=fun e=>hc (by simp[e]);have b3:¬i=d3:=fun e=>hc (by simp[e]);simp only[val,zl,if_neg b1,if_neg b2,if_neg b3]
 ·have hn0:=e0.n;refine⟨by rw[nH];omega,fun k hk=>(keepH k (by omega) (by omega) (hvB k hk)).trans (e0.get k hk),fun w k hk=> ?_,?_,fun hmk=> ?_⟩
  ·rw[nH]at hk;rw[getH,if_neg (by omega)];refine q8 (fun k2 hk2=> ?_) k (by rw[q3];show H1.n+1≤k;omega);have hk2:H1.n≤k2:=hk2;show H1.get k2=_;rw[get1,if_neg (by omega)];exact eX.wf (fun k3 hk3=>e0.wf w k3 (by have:hS.n+1≤k3:=hk3;omega)) k2 (by omega)
  ·rw[←hH];exact e0.mark
  ·rw[←hH];exact e0.wr hmk
end
section
variable {P:Program} {tab:Tab} {m:Nat} {Bad:Nat→Prop} {l:List (AOper×List Nat)} {o:AOper} {un:List Nat} {g:Nat} {fr:AFr} {h h0 h':AHeap} {Q:AFr→AHeap→Prop} {K:AExit→AFr→AHeap→Prop} {t:Trie Value} {ds:List Deferred} {rd:Option Nat}
theorem zMi {d:Option Nat} {agg:Bool} {n j:Nat} {x:Operand} {v:Value} (hv:∃ a n k,v= .slice (some a) n k∧¬Bad a.block) (hx:WU6 P tab m Bad l g fr (inC h) Q) (hr:Ope t x (zz v j):=by exact zv):uK6 P tab m Bad [] t ⟨d,none,.load agg n x⟩ l g Q fr (inC h):=by
 obtain⟨a,n',k',rfl,hb⟩:=hv;exact zIp (a:=a) (k:=j) hr hb hx
theorem zHG {N0 j n:Nat} {d:Option Nat} {agg:Bool} {x:Operand} {v:Value} {un:List Nat} (hv:∃ a n k,v= .slice (some a) n k∧a.block<N0) (hx:WU2 P tab m N0 l g true fr (inC h) Q) (hr:Ope t x (zz v j):=by exact zv):
  uK2 P tab m N0 un t ⟨d,none,.load agg n x⟩ (inC h) l g true Q fr (inC h):=by
 obtain⟨a,n',k',rfl,hb⟩:=hv;refine zD9 (fun k hk=> ?_) hx;unfold Ope zz at hr;simp only[zh,zR,cond_true,hr,Option.some.injEq]at hk;omega
theorem Y0 {α:Type} {c i:Nat} {R:AHeap→List Value→α→Prop} {v:Value} {xs:List α} (s:SlR c R h v xs) (hi:i<xs.length):∃ a n k,v= .slice (some a) n k∧a.block<h.n:=by
 obtain⟨cells,⟨h1,⟨h2,_⟩|⟨g,off,row,rfl,_,_,hg⟩⟩,_⟩:=s
 ·omega
 ·exact⟨_,_,_,rfl,hg⟩
theorem zEl {c i n:Nat} {h:AHeap} {v:Value} {cells:List Value} (a:SlC c h v n cells) (hi:i<n):Piece h v (i * c) ((cells.drop (i * c)).take c):=by
 have hlen:cells.length=n * c:=a.1;have hle:i * c+c≤cells.length:=by
  rw[hlen,←Nat.succ_mul];exact Nat.mul_le_mul_right _ hi
 intro P ih t x agg k off r hx hn hr;cases hc:cut ((cells.drop (i * c)).take c) off k with
 |none=>rw[hc]at hr;cases hr
 |some m=>
  rw[hc]at hr;have h1:cut cells (i * c) c=Option.some ((cells.drop (i * c)).take c):=ZD hle;exact zEB a hx (zDW h1 hc) hn hr
theorem zo {α:Type} [Inhabited α] {c:Nat} {R:AHeap→List Value→α→Prop} {h:AHeap} {v:Value} {T:List α} {i:Nat} (s:SlR c R h v T) (hi:i<T.length):∃ cs,R h cs (T.getD i default)∧(∀ h',Ext h h'→Piece h' v (i * c) cs∧Piece (inC h') v (i * c) cs)∧zNU v:=by
 have hs:=s.some hi;obtain⟨cells,a,b⟩:=s;refine⟨_,by simpa [List.getD,List.getElem?_eq_getElem hi]using b i T[i] (List.getElem?_eq_getElem hi),fun h' e=> ?_,hs⟩;have a':=a.ext e;exact⟨zEl a' hi,zEl (h:=inC h') a' hi⟩
theorem WU6.al2 {d1 d2 n:Nat} {z1 z2 cs1 cs2:List Value} {y1 y2:Operand} {v1 v2:Value} {u1 u2:List Nat} {hS:AHeap} (hm:hS.mark≤hS.n)
  (k:∀ H p1 p2,Ext hS H→OwnC hS H p1 cs1→OwnC hS H p2 cs2→K .normal ⟨(t.set d1 p1).set d2 p2,ds,rd⟩ H)
  (hy1:∀ a b,Ope ((t.set d1 a).set d2 b) y1 v1:=by intro a b;exact zv) (hy2:∀ a b,Ope ((t.set d1 a).set d2 b) y2 v2:=by intro a b;exact zv) (hv1:v1.cells=cs1.toArray:=by rfl) (hv2:v2.cells=cs2.toArray:=by rfl)
  (hz1:z1.length=n:=by rfl) (hz2:z2.length=n:=by rfl) (hc1:cs1.length=n:=by rfl) (hc2:cs2.length=n:=by rfl) (h1:zN cs1=true:=by rfl) (h2:zN cs2=true:=by rfl) (h12:Nat.beq d1 d2=false:=by rfl) (hm0:m=hS.mark:=by rfl):
  WU6 P tab m (fun g=>g=hS.n∨g=hS.n+1) [(⟨some d1,none,.alloc z1⟩,[]),(⟨some d2,none,.alloc z2⟩,[]),(⟨none,none,.store n (.tmp d1) y1⟩,u1),(⟨none,none,.store n (.tmp d2) y2⟩,u2)] hS.n ⟨t,ds,rd⟩ (inC (zC 2 hS)) (zAt K hS):=by
 subst hm0;have hd12:¬d1=d2:=fun e=>by subst e;simp at h12
 rw[WU6,if_pos (show Nat.beq (zG (AOp.alloc z1)) 3=true from rfl)];refine⟨rfl,rfl,hm,rfl,.row z1 true 0,fun g=> .pointer (some ⟨g,0,none⟩),rfl,?_⟩;rw[WU6,if_pos (show Nat.beq (zG (AOp.alloc z2)) 3=true from rfl)];refine⟨rfl,rfl,by show hS.mark≤hS.n+1;omega,rfl,.row z2 true 0,fun g=> .pointer (some ⟨g,0,none⟩),rfl,?_⟩;generalize hH2:(inC ((inC (inC (zC 2 hS))).lay hS.n (.row z1 true 0))).lay (hS.n+1) (.row z2 true 0)=H2;have n2:H2.n=hS.n+2:=by rw[←hH2];rfl
 have get2:∀ c,H2.get c=if c=hS.n+1 then some (.row z2 true 0) else if c=hS.n then some (.row z1 true 0) else hS.get c:=fun c=>by
  rw[←hH2];refine(zV _ _ _ _).trans ?_;split
  ·rfl
  ·exact zV _ _ _ _
 have store:∀ (X:AHeap) (g:Nat) (z cs:List Value),X.get g=some (.row z true 0)→z.length=n→cs.length=n→zN cs=true→zr (inC X) ⟨g,0,none⟩ cs=some ((inC X).set g (.row cs true 0)):=fun X g z cs hg hz hc h1=>by
  have hg':(inC X).get g=some (.row z true 0):=hg;have h2:Nat.ble (0+cs.length) z.length=true:=Nat.ble_eq_true_of_le (by omega);have h3:Nat.ble 0 0=true:=rfl;have h4:zg z 0 cs=cs:=by simp[zg,hz,hc]
  simp only[zr,hg',h2,h3,h1,h4,Option.isNone_none,Bool.and_self,cond_true]
 have e1:∀ a b,ev ((t.set d1 a).set d2 b) (.tmp d1)=a:=fun a b=>by simp only[ev,zl,if_neg hd12,if_true]
 have e2:∀ a b,ev ((t.set d1 a).set d2 b) (.tmp d2)=b:=fun a b=>by simp only[ev,zl,if_true]
 have y1e:∀ a b,ev ((t.set d1 a).set d2 b) y1=v1:=hy1;have y2e:∀ a b,ev ((t.set d1 a).set d2 b) y2=v2:=hy2;rw[WU6,if_neg (show ¬Nat.beq (zG (AOp.store n (.tmp d1) y1)) 3=true from Bool.noConfusion)];refine WO.op0 undef ((inC H2).set hS.n (.row cs1 true 0)) rfl (by
  simp only[val,aop,e1,y1e,hv1,List.size_toArray,hc1,Nat.beq_refl,store H2 hS.n z1 cs1 (by rw[get2,if_neg (by omega),if_pos rfl]) hz1 hc1 h1,Option.map_some,cond_true]) ?_
 refine WO.nil ⟨fun c hc=> ?_,.inr ⟨rfl,fun c hc=> ?_⟩,fun c hc=>(by cases hc),?_⟩
 ·have hc:c∈(inC H2).log hS.n:=hc;rcases yo hc with rfl|h
  ·exact hm
  ·cases h
 ·have hc:c∈(inC H2).log hS.n:=hc;rcases yo hc with rfl|h
  ·exact .inl rfl
  ·cases h
 generalize hH3:(inC H2).set hS.n (.row cs1 true 0)=H3;have n3:H3.n=hS.n+2:=by rw[←hH3];exact n2
 have get3:∀ c,H3.get c=if c=hS.n then some (.row cs1 true 0) else H2.get c:=fun c=>by rw[←hH3];exact zu _ _ _ _
 rw[WU6,if_neg (show ¬Nat.beq (zG (AOp.store n (.tmp d2) y2)) 3=true from Bool.noConfusion)];refine WO.op0 undef ((inC H3).set (hS.n+1) (.row cs2 true 0)) rfl (by
  simp only[val,aop,e2,y2e,hv2,List.size_toArray,hc2,Nat.beq_refl,store H3 (hS.n+1) z2 cs2 (by rw[get3,if_neg (by omega),get2,if_pos rfl]) hz2 hc2 h2,Option.map_some,cond_true]) ?_
 refine WO.nil ⟨fun c hc=> ?_,.inr ⟨rfl,fun c hc=> ?_⟩,fun c hc=>(by cases hc),?_⟩
 ·have hc:c∈(inC H3).log (hS.n+1):=hc;rcases yo hc with rfl|h
  ·omega
  ·cases h
 ·have hc:c∈(inC H3).log (hS.n+1):=hc;rcases yo hc with rfl|h
  ·exact .inr rfl
  ·cases h
 generalize hH4:outC hS ((inC H3).set (hS.n+1) (.row cs2 true 0))=H4;have n4:H4.n=hS.n+2:=by rw[←hH4];exact n3
 have get4:∀ c,H4.get c=if c=hS.n+1 then some (.row cs2 true 0) else if c=hS.n then some (.row cs1 true 0) else hS.get c:=fun c=>by
  rw[←hH4];refine(zu (inC H3) _ _ _).trans ?_;split
  ·rfl
  ·rename_i hne;refine(get3 c).trans ?_;split
   ·rfl
   ·rename_i hne2;rw[get2,if_neg hne,if_neg hne2]
 show K .normal _ _;rw[hH4];refine k H4 (.pointer (some ⟨hS.n,0,none⟩)) (.pointer (some ⟨hS.n+1,0,none⟩)) ⟨by omega,fun c hc=>by rw[get4,if_neg (by omega),if_neg (by omega)],fun w c hc=> ?_,?_,fun hmk=> ?_⟩ ⟨hS.n,Nat.le_refl _,by omega,rfl,by rw[get4,if_neg (by omega),if_pos rfl]⟩ ⟨hS.n+1,by omega,by omega,rfl,by rw[get4,if_pos rfl]⟩
 ·rw[get4,if_neg (by omega),if_neg (by omega)];exact w c (by omega)
 ·rw[←hH4];rfl
 ·rw[←hH4];rfl
def RBo (_:AHeap) (cs:List Value) (b:Bool):Prop:=cs=[.bool b]
abbrev zPf (h:AHeap) (v:Value) (l:List Bool):Prop:=SlR 1 RBo h v l
def OwnBo (h0 h:AHeap) (v:Value) (l:List Bool):Prop:=∃ g,h0.n≤g∧g<h.n∧v= .slice (some ⟨g,0,none⟩) l.length 1∧h.get g=some (.row (l.map .bool) true 0)
theorem OwnBo.ext {h0 h h' v l} (o:OwnBo h0 h v l) (e:Ext h h'):OwnBo h0 h' v l:=by
 obtain⟨g,a,b,c,d⟩:=o;exact⟨g,a,Nat.lt_of_lt_of_le b e.n,c,(e.get g b).trans d⟩
theorem OwnBo.sl {h0 h v l} (o:OwnBo h0 h v l):zPf h v l:=by
 obtain⟨g,a,b,rfl,d⟩:=o;refine⟨l.map .bool,SlC.own (own:=true) (lo:=0) b d (by simp),fun i x hx=> ?_⟩;obtain⟨hi,e⟩:=List.getElem?_eq_some_iff.1 hx;show ((l.map Value.bool).drop (i * 1)).take 1=_;rw[Nat.mul_one,List.drop_eq_getElem_cons (by simpa using hi)];simp[e]
theorem zIP (n:Nat):zZ [.bool false] n=(List.replicate n false).map Value.bool:=by
 induction n with
 |zero=>rfl
 |succ n ih=>rw[zZ,ih];rfl
theorem WO.mkBo {d n:Nat} {x y:Operand} {l:List AOper} (hr:n≤100000) (k:∀ v h',Ext h h'→OwnBo h h' v (List.replicate n false)→WO P tab l ⟨t.set d v,ds,rd⟩ h' Q)
  (hx:Ope t x (I (n:Int)):=by exact zv) (hy:Ope t y (I (n:Int)):=by exact zv):WO P tab (⟨some d,none,.mkSlice 1 [.bool false] x y⟩::l) ⟨t,ds,rd⟩ h Q:=by
 have h1:Nat.ble n room=true:=Nat.ble_eq_true_of_le (by have:room=4294967296:=rfl;omega);have h2:Nat.ble n n=true:=Nat.ble_eq_true_of_le (Nat.le_refl _);have hx:ev t x=I (n:Int):=hx;have hy:ev t y=I (n:Int):=hy;have hn:asN (I (n:Int))=some n:=rfl;refine WO.op _ _ rfl (by simp only[aop,hx,hy,hn,h1,h2,Bool.and_self,cond_true];rfl) (k _ _ (ZZ _ _) ⟨h.n,Nat.le_refl _,by simp[AHeap.push],by simp,?_⟩);rw[zY,zIP]
theorem WU2.stBo {N0 g:Nat} {cl:Bool} {x y:Operand} {v:Value} {bs:List Bool} {b:Bool} {i j:Nat} {hB hS X:AHeap} {m:Nat} (o:OwnBo hB X v bs) (e0:Ext hB hS) (hm:hS.mark≤hB.n) (hX:outC hS X=hS) (hi:i<bs.length)
  (k:∀ h',Ext hB h'→OwnBo hB h' v (bs.set i b)→(∀ k,k<hS.n→(∀ n k',v≠ .slice (some ⟨k,0,none⟩) n k')→h'.get k=hS.get k)→hS.n≤h'.n→K .normal ⟨t,ds,rd⟩ h')
  (hx:Ope t x (zz v j):=by exact zv) (hy:Ope t y (.bool b):=by exact zv) (hj:j=i * 1:=by rfl) (hm0:m=hS.mark:=by rfl):WU2 P tab m N0 [(⟨none,none,.store 1 x y⟩,[])] g cl ⟨t,ds,rd⟩ (inC X) (zAt K hS):=by
 subst hm0 hj;rw[Nat.mul_one]at hx;obtain⟨q,q1,q2,rfl,q3⟩:=o;have hx:ev t x= .pointer (some ⟨q,0+i,none⟩):=hx;have hy:ev t y= .bool b:=hy;have gX:∀ c,X.get c=hS.get c:=fun c=>by have:=congrArg (fun h:AHeap=>h.get c) hX;exact this
 have nX:X.n=hS.n:=by have:=congrArg AHeap.n hX;exact this
 rw[WU2,if_neg (show ¬Nat.beq (zG (AOp.store 1 x y)) 3=true from Bool.noConfusion)];have hst:zr (inC (inC X)) ⟨q,0+i,none⟩ [.bool b]=some ((inC (inC X)).set q (.row ((bs.set i b).map .bool) true 0)):=by
  have g3':(inC (inC X)).get q=some (.row (bs.map .bool) true 0):=q3;have h2:Nat.ble (0+i+1) (bs.map Value.bool).length=true:=Nat.ble_eq_true_of_le (by simp;omega);have h3:Nat.ble 0 (0+i)=true:=Nat.ble_eq_true_of_le (Nat.zero_le _);have h4:zg (bs.map Value.bool) (0+i) [.bool b]=(bs.set i b).map .bool:=by
   rw[Nat.zero_add,zCK (by simpa using hi),List.map_set]
  have h5:zN [Value.bool b]=true:=rfl;simp only[zr,g3',List.length_singleton,h2,h3,h4,h5,Option.isNone_none,Bool.and_self,cond_true]
 have hc:(Value.bool b).cells=#[.bool b]:=rfl;refine WO.op0 undef ((inC (inC X)).set q (.row ((bs.set i b).map .bool) true 0)) rfl (by
  simp only[aop,hx,hy,hc,List.size_toArray,List.length_singleton,Nat.beq_refl,hst,Option.map_some,cond_true]) ?_
 refine WO.nil ⟨⟨fun k hk=> ?_,Nat.le_refl _,.inl rfl⟩,?_⟩
 ·have hk2:k∈(inC (inC X)).log q:=hk;rcases yo hk2 with rfl|hk3
  ·omega
  ·cases hk3
 have get2:∀ k,(outC hS ((inC (inC X)).set q (.row ((bs.set i b).map .bool) true 0))).get k=if k=q then some (.row ((bs.set i b).map .bool) true 0) else hS.get k:=fun k=>by
  have e1:((inC (inC X)).set q (.row ((bs.set i b).map .bool) true 0)).get k=if k=q then some (.row ((bs.set i b).map .bool) true 0) else (inC (inC X)).get k:=zu ..;refine e1.trans ?_;split
  ·rfl
  ·exact gX k
 refine k (outC hS ((inC (inC X)).set q (.row ((bs.set i b).map .bool) true 0))) ?_ ⟨q,q1,q2,by simp,by rw[get2,if_pos rfl]⟩ (fun c hc hv=>by rw[get2,if_neg (fun e=>hv _ _ (by rw[e]))]) (by show hS.n≤X.n;omega);refine⟨by show hB.n≤X.n;rw[nX];exact e0.n,fun c hc=>by rw[get2,if_neg (by omega)];exact e0.get c hc,fun w c hc=> ?_,e0.mark,fun hmk=>e0.wr hmk⟩;have hc:X.n≤c:=hc;rw[get2,if_neg (by omega)];exact e0.wf w c (by omega)
end
section
variable {P:Program} {tab:Tab} {t:Trie Value} {h:AHeap} {ds:List Deferred} {rd:Option Nat} {l:List AOper} {Q:AFr→AHeap→Prop}
end
section
variable {P:Program} {tab:Tab} {m N0:Nat} {l:List (AOper×List Nat)} {o:AOper} {g:Nat} {cl:Bool} {fr:AFr} {h h0 h':AHeap} {Q:AFr→AHeap→Prop} {K:AExit→AFr→AHeap→Prop} {x:AOper×List Nat} {t:Trie Value}
theorem zSV (hw:∀ k∈h'.wr,m≤k) (hn:h.n≤h'.n) (hx:∀ cl',WU2 P tab m N0 (x::l) g cl' fr (inC h') Q):uK2 P tab m N0 [] t o (inC h) (x::l) g cl Q fr h':=⟨⟨hw,hn,.inl rfl⟩,by
 have:=hx (cl&&h'.wr.isEmpty);obtain⟨y,un⟩:=x;unfold WU2 at this ⊢;exact this⟩
theorem zQq {j n:Nat} {b:Bool} {d:Option Nat} {agg:Bool} {x:Operand} {un:List Nat} (hx:WU2 P tab m N0 l g true fr (inC h) Q) (s:Slot t j (.bool b):=by exact Z8) (hb:b=true:=by exact zEP):
  uK2 P tab m N0 un t ⟨d,some (j,false),.load agg n x⟩ (inC h) l g true Q fr (inC h):=by
 refine zD9 (fun k hk=> ?_) hx;unfold Slot at s;subst hb;have hw:zR t (some (j,false))=false:=by simp only[zR,s];rfl
 simp only[zh,hw,cond_false]at hk;cases hk
end
section
variable {α:Type} {c b:Nat} {R:AHeap→List Value→α→Prop}
variable {P:Program} {tab:Tab} {t:Trie Value} {h:AHeap} {ds:List Deferred} {rd:Option Nat} {l:List AOper} {Q:AFr→AHeap→Prop}
end
section
variable {α:Type} [Inhabited α] {c b:Nat} {R:AHeap→List Value→α→Prop} {h:AHeap} {v:Value} {xs:List α}
variable {P:Program} {tab:Tab} {t:Trie Value} {ds:List Deferred} {rd:Option Nat} {l:List AOper} {Q:AFr→AHeap→Prop}
end
section
variable {P:Program} {tab:Tab} {t:Trie Value} {h:AHeap} {ds:List Deferred} {rd:Option Nat} {l:List AOper} {Q:AFr→AHeap→Prop}
end
section
variable {P:Program} {tab:Tab} {t:Trie Value} {h h0:AHeap} {ds:List Deferred} {rd:Option Nat} {l:List AOper} {Q:AFr→AHeap→Prop}
end
section
variable {P:Program} {tab:Tab} {N0 m g:Nat} {cl:Bool} {t:Trie Value} {ds:List Deferred} {rd:Option Nat} {K:AExit→AFr→AHeap→Prop}
theorem WU2.alE {hS X:AHeap} {d n:Nat} {y:Operand} {v:Value} {zero cs:List Value} (eX:Ext (inC (zC 1 hS)) X) (hm:hS.mark≤hS.n) (k:∀ H p,Ext hS H→OwnC hS H p cs→K .normal ⟨t.set d p,ds,rd⟩ H)
  (hy:∀ p,Ope (t.set d p) y v:=by intro p;exact zv) (hv:v.cells=cs.toArray:=by rfl) (hz:zero.length=n:=by rfl) (hn:cs.length=n:=by rfl) (h1:zN cs=true:=by rfl) (hm0:m=hS.mark:=by rfl) (hg0:g=hS.n:=by rfl):
  WU2 P tab m N0 [(⟨some d,none,.alloc zero⟩,[]),(⟨none,none,.store n (.tmp d) y⟩,[])] g cl ⟨t,ds,rd⟩ (inC X) (zAt K hS):=by
 subst hm0 hg0;have hlt:hS.n<X.n:=eX.n;refine WU2.al2 hm hlt ?_ (hy _) hv hz hn h1;have e6:=zHF (o:= .row zero true 0) (o':= .row cs true 0) (k:=0) eX;have o6:=zGw (cs:=cs) (o:= .row zero true 0) eX;exact k _ _ e6 o6
theorem WU2.mk {h:AHeap} {d:Nat} {gd:Option (Nat×Bool)} {op:AOp} {ob:AObj} {f:Nat→Value} {l:List (AOper×List Nat)} {Q:AFr→AHeap→Prop} (hm:m≤g) (hmade:yh t op=some (ob,f)) (hx:WU2 P tab m N0 l (g+1) false ⟨t.set d (f g),ds,rd⟩ ((inC h).lay g ob) Q) (hk:Nat.beq (zG op) 3=true:=by rfl) (hw:zR t gd=true:=by rfl):
  WU2 P tab m N0 ((⟨some d,gd,op⟩,[])::l) g cl ⟨t,ds,rd⟩ (inC h) Q:=by
 rw[WU2,if_pos hk];exact⟨rfl,.inl ⟨hw,hm,ob,f,hmade,hx⟩⟩
theorem WU2.no {h:AHeap} {d j:Nat} {b want:Bool} {op:AOp} {l:List (AOper×List Nat)} {Q:AFr→AHeap→Prop} (hx:WU2 P tab m N0 l (g+1) cl ⟨t.set d undef,ds,rd⟩ (inC h) Q) (hk:Nat.beq (zG op) 3=true:=by rfl) (s:Slot t j (.bool b):=by exact Z8) (hb:(b == want)=false:=by rfl):
  WU2 P tab m N0 ((⟨some d,some (j,want),op⟩,[])::l) g cl ⟨t,ds,rd⟩ (inC h) Q:=by
 rw[WU2,if_pos hk];have s:zB t j= .bool b:=s;exact⟨rfl,.inr ⟨by simp only[zR,s,hb],hx⟩⟩
theorem zKS {j:Nat} {b want:Bool} (s:Slot t j (.bool b)) (hb:(b == want)=true):zR t (some (j,want))=true:=by
 have s:zB t j= .bool b:=s;simp only[zR,s,hb]
theorem WU2.inC {h:AHeap} {fr:AFr} {x:AOper×List Nat} {l:List (AOper×List Nat)} {Q:AFr→AHeap→Prop} (hx:WU2 P tab m N0 (x::l) g cl fr (Am.inC h) Q):WU2 P tab m N0 (x::l) g cl fr h Q:=by
 obtain⟨o,un⟩:=x;unfold WU2 at hx ⊢;exact hx
theorem zOn (h:AHeap) (g:Nat) (o:AObj) (j:Nat):((Am.inC h).lay g o).get j=if j=g then some o else h.get j:=zV _ _ _ _
theorem WU2.mkG {X:AHeap} {d:Nat} {gd:Option (Nat×Bool)} {op:AOp} {ob:AObj} {f:Nat→Value} {x:AOper×List Nat} {l:List (AOper×List Nat)} {Q:AFr→AHeap→Prop} (hm:m≤g) (hmade:yh t op=some (ob,f))
  (k:∀ X',X'.n=X.n→(∀ j,X'.get j=if j=g then some ob else X.get j)→WU2 P tab m N0 (x::l) (g+1) false ⟨t.set d (f g),ds,rd⟩ (Am.inC X') Q) (hk:Nat.beq (zG op) 3=true) (hw:zR t gd=true:=by rfl):WU2 P tab m N0 ((⟨some d,gd,op⟩,[])::x::l) g cl ⟨t,ds,rd⟩ (Am.inC X) Q:=
 WU2.mk hm hmade (WU2.inC (k _ rfl fun j=>zOn X g ob j)) hk hw
theorem WU2.mkBl {X:AHeap} {d n:Nat} {gd:Option (Nat×Bool)} {zero:List Value} {parts:List (Nat×Nat×Operand)} {vs:List (Nat×Nat×Value)} {x:AOper×List Nat} {l:List (AOper×List Nat)} {Q:AFr→AHeap→Prop} (xs:List Int) (hm:m≤g)
  (k:∀ X',X'.n=X.n→(∀ j,X'.get j=if j=g then some (.row (xs.map I) true 0) else X.get j)→WU2 P tab m N0 (x::l) (g+1) false ⟨t.set d (.slice (some ⟨g,0,none⟩) xs.length 1),ds,rd⟩ (Am.inC X') Q)
  (hp:Parts t parts vs:=by (repeat (apply Parts.cons;(exact zM)));exact Parts.nil) (hn:xs.length=n:=by rfl) (hf:ZR (zZ zero n) vs=some (xs.map I):=by rfl) (hw:zR t gd=true:=by first|rfl|exact zKS Z8 rfl):
  WU2 P tab m N0 ((⟨some d,gd,.buildSlice n 1 zero parts⟩,[])::x::l) g cl ⟨t,ds,rd⟩ (Am.inC X) Q:=by
 subst hn;have hp:zx t parts=vs:=hp;exact WU2.mkG (f:=fun g=> .slice (some ⟨g,0,none⟩) xs.length 1) hm (by simp only[yh,hp,hf,Option.map_some]) k rfl hw
theorem WU2.mkBx {X:AHeap} {d:Nat} {x:Operand} {v:Value} {cs:List Value} {o:AOper×List Nat} {l:List (AOper×List Nat)} {Q:AFr→AHeap→Prop} (hm:m≤g)
  (k:∀ X',X'.n=X.n→(∀ j,X'.get j=if j=g then some (.row cs true 0) else X.get j)→WU2 P tab m N0 (o::l) (g+1) false ⟨t.set d (.pointer (some ⟨g,0,none⟩)),ds,rd⟩ (Am.inC X') Q) (hx:Ope t x v:=by exact zv) (hv:v.cells.toList=cs:=by rfl):
  WU2 P tab m N0 ((⟨some d,none,.box x⟩,[])::o::l) g cl ⟨t,ds,rd⟩ (Am.inC X) Q:=by
 have hx:ev t x=v:=hx;subst hv;exact WU2.mkG (f:=fun g=> .pointer (some ⟨g,0,none⟩)) hm (by simp only[yh,hx]) k rfl
end
theorem zJc {h:AHeap} {q off:Nat} {row cs:List Value} (hq:h.get q=some (.row row true 0)) (hl:off+cs.length≤row.length) (h1:zN cs=true):zr h ⟨q,off,none⟩ cs=some (h.set q (.row (zg row off cs) true 0)):=by
 have h2:Nat.ble (off+cs.length) row.length=true:=Nat.ble_eq_true_of_le hl;have h3:Nat.ble 0 off=true:=Nat.ble_eq_true_of_le (Nat.zero_le _);simp only[zr,hq,h2,h3,h1,Option.isNone_none,Bool.and_self,cond_true]
section
variable {P:Program} {tab:Tab} {t:Trie Value} {ds:List Deferred} {rd:Option Nat}
variable {m N0 g:Nat} {cl:Bool} {K:AExit→AFr→AHeap→Prop} {hS X:AHeap} {q off n:Nat} {row cs:List Value} {x y:Operand} {u:Value}
section
variable {α:Type} [Inhabited α] {R:AHeap→List Value→α→Prop} {c b i:Nat} {v:Value} {xs:List α} {a:α}
end
theorem zF6 {c g off len n:Nat} (hn:n≤len):ZX c (.slice (some ⟨g,off,none⟩) len c) (some n) none none=some (.slice (some ⟨g,off+n * c,none⟩) (len - n) c):=by
 have b1:Nat.ble n len=true:=Nat.ble_eq_true_of_le hn;have b2:Nat.ble len len=true:=Nat.ble_eq_true_of_le (Nat.le_refl _);simp only[ZX,Option.getD_none,Option.getD_some,b1,b2,Option.isNone_none,Bool.and_self,cond_true,Nat.beq_refl]
theorem WO.mkS {h:AHeap} {Q:AFr→AHeap→Prop} {l:List AOper} {d c n:Nat} {zero:List Value} (hr:n≤100000) (k:∀ h',Ext h h'→h'.n=h.n+1→h'.get h.n=some (.row (zZ zero n) true 0)→WO P tab l ⟨t.set d (.slice (some ⟨h.n,0,none⟩) n c),ds,rd⟩ h' Q)
  (hx:Ope t x (I (n:Int)):=by exact zv) (hy:Ope t y (I (n:Int)):=by exact zv):WO P tab (⟨some d,none,.mkSlice c zero x y⟩::l) ⟨t,ds,rd⟩ h Q:=by
 have h1:Nat.ble n room=true:=Nat.ble_eq_true_of_le (by have:room=4294967296:=rfl;omega);have h2:Nat.ble n n=true:=Nat.ble_eq_true_of_le (Nat.le_refl _);have hx:ev t x=I (n:Int):=hx;have hy:ev t y=I (n:Int):=hy;have hn:asN (I (n:Int))=some n:=rfl;exact WO.op _ _ rfl (by simp only[aop,hx,hy,hn,h1,h2,Bool.and_self,cond_true]<;>rfl) (k _ (ZZ _ _) rfl (zY _ _))
end
section
variable {P:Program} {tab:Tab} {t:Trie Value} {ds:List Deferred} {rd:Option Nat}
variable {q off n:Nat} {row:List Value} {x y:Operand}
theorem WO.cpM {h:AHeap} {Q:AFr→AHeap→Prop} {l:List AOper} {d c k m:Nat} {w:Value} {ys:List Value} (hq:h.get q=some (.row row true 0)) (s:SlC c h w k ys) (hc:0<c) (hk:min k n=m) (hl:off+m * c≤row.length) (h1:zN ys=true)
  (hX:∀ h',h'.n=h.n→(∀ j,j≠q→h'.get j=h.get j)→h'.get q=some (.row (zg row off (ys.take (m * c))) true 0)→(Wf h→Wf h')→h'.mark=h.mark→(h.mark≤q→h'.wr=h.wr)→(∀ j∈h'.wr,j=q∨j∈h.wr)→WO P tab l ⟨t.set d (I m),ds,rd⟩ h' Q)
  (hx:Ope t x (.slice (some ⟨q,off,none⟩) n c):=by exact zv) (hy:Ope t y w:=by exact zv):WO P tab (⟨some d,none,.copy c x y⟩::l) ⟨t,ds,rd⟩ h Q:=by
 have hx:ev t x=_:=hx;have hy:ev t y=_:=hy;have hs:=Zg s;have hlen:ys.length / c=k:=by rw[s.1];exact Nat.mul_div_cancel _ hc
 have hmin:min (ys.length / c) n=m:=by rw[hlen];exact hk
 have hml:(ys.take (m * c)).length=m * c:=by
  rw[List.length_take,s.1];have:m * c≤k * c:=Nat.mul_le_mul_right _ (by omega);omega
 by_cases h0:m=0
 ·subst h0;refine WO.op (I (0:Nat)) h rfl ?_ (hX h rfl (fun _ _=>rfl) ?_ id rfl (fun _=>rfl) fun j hj=> .inr hj)
  ·simp only[aop,hx,hy,hs,hmin];rfl
  ·rw[hq];simp[zg]
 ·have hb:Nat.beq m 0=false:=by cases hb:Nat.beq m 0 with
   |false=>rfl
   |true=>exact absurd (Nat.eq_of_beq_eq_true hb) h0
  have h2:zN (ys.take (m * c))=true:=by
   unfold zN at *;rw[List.all_eq_true]at *;exact fun a ha=>h1 a (List.mem_of_mem_take ha)
  refine WO.op (I m) (h.set q (.row (zg row off (ys.take (m * c))) true 0)) rfl ?_ (hX _ rfl (fun j hj=>by rw[zu,if_neg hj]) (by rw[zu,if_pos rfl]) (fun wf j hj=> ?_) rfl (fun hm=>Yf hm) fun j hj=>yo hj)
  ·simp only[aop,hx,hy,hs,hmin,hb,cond_false,Nat.beq_refl,Option.isNone_none,Bool.and_self,cond_true,zJc hq (by rw[hml];exact hl) h2,Option.map_some]
  ·have hj:h.n≤j:=hj;by_cases e:j=q
   ·subst e;have:=wf.lt hq;omega
   ·rw[zu,if_neg e];exact wf j hj
theorem zPZ {h h0:AHeap} {v w:Value} {xs ys:List Int} (o:OwnN h0 h v xs) (s:SlI h w ys) (e0:Ext h0 h) (hne:ys≠[]) (hr:xs.length+ys.length≤4294967296):
  ∃ v' h',yY 1 v w h=some (v',h')∧Ext h0 h'∧OwnI h h' v' (xs++ys)∧Upd v h h':=by
 have hsrc:=Zg s;have hroom:room=4294967296:=rfl;obtain⟨z,zs,rfl⟩:∃ z zs,ys=z::zs:=by
  cases ys with
  |nil=>exact absurd rfl hne
  |cons z zs=>exact⟨z,zs,rfl⟩
 have hone:zN (I z::zs.map I)=true:=zBx (z::zs);have hlen:(I z::zs.map I).length / 1=(z::zs).length:=by simp
 rcases o with ⟨rfl,rfl⟩|⟨g,g1,g2,rfl,g3⟩
 ·have h1:Nat.ble (z::zs).length room=true:=Nat.ble_eq_true_of_le (by rw[hroom];simpa using hr);refine⟨.slice (some ⟨h.n,0,none⟩) (z::zs).length 1,h.push (.row ((z::zs).map I) true 0),?_,e0.push _,⟨h.n,Nat.le_refl _,by simp[AHeap.push],rfl,zY _ _⟩,⟨Nat.le_succ _,fun k hk _=> ?_⟩⟩
  ·simp only[yY,hsrc,List.map_cons,hone,hlen,h1,Bool.not_true,cond_true,cond_false];rfl
  ·rw[zQ,if_neg (by omega)]
 ·have h1:Nat.ble (xs.length+(z::zs).length) room=true:=Nat.ble_eq_true_of_le (by rw[hroom];exact hr);have h2:cut (xs.map I) 0 (xs.length * 1)=some (xs.map I):=by rw[ZD (by simp)];simp[List.take_of_length_le]
  have hn:(h.kill g).n=h.n:=rfl;have h3:Nat.ble 0 (0+xs.length * 1)=true:=Nat.ble_eq_true_of_le (Nat.zero_le _);refine⟨.slice (some ⟨h.n,0,none⟩) (xs.length+(z::zs).length) 1,(h.kill g).push (.row (xs.map I++(z::zs).map I) true (0 - 0)),?_,(e0.kill g1).push _,⟨h.n,Nat.le_refl _,by simp[AHeap.push,AHeap.kill],by simp,?_⟩,⟨Nat.le_succ _,fun k hk hv=> ?_⟩⟩
  ·simp only[yY,hsrc,List.map_cons,hone,hlen,h1,g3,h2,h3,Bool.not_true,cond_true,cond_false];rfl
  ·have:=zY (h.kill g) (.row (xs.map I++(z::zs).map I) true (0 - 0));rw[hn]at this;rw[this];simp
  ·rw[zQ,if_neg (by rw[hn];omega),yc,if_neg (fun e=>hv _ _ _ rfl e.symm)]
theorem WO.apF {h h0:AHeap} {Q:AFr→AHeap→Prop} {l:List AOper} {d:Nat} {v w:Value} {xs ys:List Int} (o:OwnN h0 h v xs) (s:SlI h w ys) (e0:Ext h0 h) (hne:ys≠[]) (hr:xs.length+ys.length≤4294967296) (k:∀ v' h',Ext h0 h'→OwnI h h' v' (xs++ys)→Upd v h h'→WO P tab l ⟨t.set d v',ds,rd⟩ h' Q)
  (hx:Ope t x v:=by exact zv) (hy:Ope t y w:=by exact zv):WO P tab (⟨some d,none,.append 1 x y⟩::l) ⟨t,ds,rd⟩ h Q:=by
 have hx:ev t x=v:=hx;have hy:ev t y=w:=hy;obtain⟨v',h',a,b,c,u⟩:=zPZ o s e0 hne hr;exact WO.op v' h' rfl (by simp only[aop,hx,hy,a]) (k v' h' b c u)
theorem WO.apRF {α:Type} {c b d1 d2:Nat} {R:AHeap→List Value→α→Prop} {h hB:AHeap} {Q:AFr→AHeap→Prop} {l:List AOper} {v w:Value} {xs:List α} {cs zero:List Value} (a:α) (Dn:Nat→Prop) (o:OwnR c R b h v xs) (e0:Ext hB h) (hb:hB.n≤b) (hbn:b≤h.n) (hc0:0<c) (hl:xs.length≤100000)
  (d:Dep R h cs a Dn) (hD:∀ k,Dn k→b≤k∧k<h.n) (hv:∀ g n k,v= .slice (some ⟨g,0,none⟩) n k→¬Dn g)
  (k:∀ v' h' lit,Ext hB h'→OwnR c R b h' v' (xs++[a])→h.n≤h'.n→(∀ k,k<h.n→(∀ n k',v≠ .slice (some ⟨k,0,none⟩) n k')→h'.get k=h.get k)→(∃ n k g,v'= .slice (some ⟨g,0,none⟩) n k∧h.n≤g)→WO P tab l ⟨(t.set d1 lit).set d2 v',ds,rd⟩ h' Q)
  (hx:Ope t x w:=by exact zv) (hw:w.cells=cs.toArray:=by rfl) (hc:cs.length=c:=by rfl) (h1:zN cs=true:=by rfl) (hz:zero.length=c:=by rfl) (hy:∀ u,Ope (t.set d1 u) y v:=by intro u;exact zv):
  WO P tab (⟨some d1,none,.buildSlice 1 c zero [(0,c,x)]⟩::⟨some d2,none,.append c y (.tmp d1)⟩::l) ⟨t,ds,rd⟩ h Q:=by
 have hx:ev t x=w:=hx;refine WO.op (.slice (some ⟨h.n,0,none⟩) 1 c) (h.push (.row cs true 0)) rfl (by
  simp only[aop,zx,List.map_cons,List.map_nil,hx,zBt hw hc hz,Option.map_some];rfl) ?_
 obtain⟨v',H',q1,q2,q3,q4,q5,q6,q7,q8,q9⟩:=zBN (H:=h.push (.row cs true 0)) (gl:=h.n) o hc hc0 h1 hl hbn d hD hv (Nat.le_succ _) (Nat.lt_succ_self _) (fun k hk=>by rw[zQ,if_neg (by omega)]) (zY _ _);have hyv:ev (t.set d1 (.slice (some ⟨h.n,0,none⟩) 1 c)) y=v:=hy _;have e1:ev (t.set d1 (.slice (some ⟨h.n,0,none⟩) 1 c)) (.tmp d1)= .slice (some ⟨h.n,0,none⟩) 1 c:=by simp only[ev,zl,if_true]
 refine WO.op v' H' rfl (by simp only[aop,hyv,e1,q1]) (k v' H' _ ?_ q2 (by rw[q3];show h.n≤h.n+1+1;omega) (fun k hk hvk=> ?_) (let ⟨n,k,g,e,hg⟩:=q9;⟨n,k,g,e,Nat.le_trans (Nat.le_succ _) hg⟩))
 ·have hvb:∀ k,k<hB.n→∀ n k',v≠ .slice (some ⟨k,0,none⟩) n k':=fun k hk n k' e=>by
   rcases o with ⟨e2,_⟩|⟨g,_,_,g1,_,e2,_⟩
   ·rw[e2]at e;cases e
   ·rw[e2]at e;cases e;omega
  refine⟨by rw[q3];show hB.n≤h.n+1+1;have:=e0.n;omega,fun k hk=> ?_,fun w=>q8 ?_,q5.trans e0.mark,fun hm=> ?_⟩
  ·have:=e0.n;rw[q4 k (by show k<h.n+1;omega) (hvb k hk),zQ,if_neg (by omega)];exact e0.get k hk
  ·intro k hk;have hk:h.n+1≤k:=hk;rw[zQ,if_neg (by omega)];exact e0.wf w k (by omega)
  ·rw[q7 (by show h.mark≤b;rw[e0.mark];omega)];exact e0.wr hm
 ·rw[q4 k (by show k<h.n+1;omega) hvk,zQ,if_neg (by omega)]
end
def blk:Value→Option Nat
 | .slice (some a) _ _=>some a.block
 | .pointer (some a)=>some a.block
 |_=>none
def OffV (v w:Value):Prop:=∀ b,blk v=some b→blk w≠some b
theorem OffV.symm {v w:Value} (o:OffV v w):OffV w v:=fun b h k=>o b k h
def UpB (v:Value) (h h':AHeap):Prop:=h.n≤h'.n∧∀ g,g<h.n→blk v≠some g→h'.get g=h.get g
theorem Upd.upB {v:Value} {h h':AHeap} (u:Upd v h h'):UpB v h h':=⟨u.1,fun g hg hv=>u.2 g hg fun a n c e he=>hv (by rw[e,←he];rfl)⟩
theorem UpdC.upB {v:Value} {h h':AHeap} (u:UpdC v h h'):UpB v h h':=⟨u.1,fun g hg hv=>u.2 g hg fun e=>hv (by rw[e];rfl)⟩
theorem zOC {v:Value} {h h':AHeap} (hn:h.n≤h'.n) (u:∀ k,k<h.n→(∀ n k',v≠ .slice (some ⟨k,0,none⟩) n k')→h'.get k=h.get k):UpB v h h':=⟨hn,fun g hg hv=>u g hg fun n k e=>hv (by rw[e];rfl)⟩
def zDr (h:AHeap) (v:Value):Prop:=∀ b,blk v=some b→h.n≤b
def zFG (h:AHeap) (v:Value):Prop:=∀ b,blk v=some b→b<h.n
theorem OffV.fresh {h:AHeap} {v w:Value} (a:zDr h v) (b:zFG h w):OffV v w:=fun k hk hw=>by have:=a k hk;have:=b k hw;omega
section
variable {hB h h':AHeap} {v w p:Value} {l:List Int} {cs:List Value}
theorem OwnN.within (o:OwnN hB h w l):zFG h w:=fun b hb=>by
 rcases o with ⟨rfl,_⟩|⟨g,_,g2,rfl,_⟩
 ·cases hb
 ·cases hb;exact g2
theorem OwnN.since' (o:OwnN hB h w l):zDr hB w:=fun b hb=>by
 rcases o with ⟨rfl,_⟩|⟨g,g1,_,rfl,_⟩
 ·cases hb
 ·cases hb;exact g1
theorem OwnC.within (o:OwnC hB h p cs):zFG h p:=fun b hb=>by obtain⟨g,_,g2,rfl,_⟩:=o;cases hb;exact g2
theorem OwnC.since' (o:OwnC hB h p cs):zDr hB p:=fun b hb=>by obtain⟨g,g1,_,rfl,_⟩:=o;cases hb;exact g1
theorem OwnN.upB (o:OwnN hB h w l) (u:UpB v h h') (d:OffV v w):OwnN hB h' w l:=by
 rcases o with o|⟨g,g1,g2,rfl,g3⟩
 ·exact .inl o
 ·exact .inr ⟨g,g1,Nat.lt_of_lt_of_le g2 u.1,rfl,(u.2 g g2 fun e=>d _ e rfl).trans g3⟩
theorem OwnC.upB (o:OwnC hB h p cs) (u:UpB v h h') (d:OffV v p):OwnC hB h' p cs:=by
 obtain⟨g,g1,g2,rfl,g3⟩:=o;exact⟨g,g1,Nat.lt_of_lt_of_le g2 u.1,rfl,(u.2 g g2 fun e=>d _ e rfl).trans g3⟩
section
variable {α:Type} {c b:Nat} {R:AHeap→List Value→α→Prop} {xs:List α}
theorem OwnR.within (o:OwnR c R b h w xs):zFG h w:=fun b hb=>by
 rcases o with ⟨rfl,_⟩|⟨g,_,_,_,g2,rfl,_⟩
 ·cases hb
 ·cases hb;exact g2
theorem OwnR.upB (hi:∀ h h' cs a,R h cs a→R h' cs a) (o:OwnR c R b h w xs) (u:UpB v h h') (d:OffV v w):OwnR c R b h' w xs:=by
 rcases o with o|⟨g,cells,D,g1,g2,rfl,g3,g4,_,_,g7⟩
 ·exact .inl o
 ·exact .inr ⟨g,cells,fun _=>False,g1,Nat.lt_of_lt_of_le g2 u.1,rfl,(u.2 g g2 fun e=>d _ e rfl).trans g3,g4,id,fun _ h=>h.elim,fun i a ha hx _ _=>hi _ _ _ _ (g7 i a ha).self⟩
end
theorem zGB {P:Program} {tab:Tab} {t:Trie Value} {m N0 n g j:Nat} {un:List Nat} {d:Option Nat} {gd:Option (Nat×Bool)} {agg:Bool} {x:Operand} {p:Value} {cs:List Value} {h0 hs h:AHeap} {l:List (AOper×List Nat)} {fr:AFr} {Q:AFr→AHeap→Prop} (o:OwnC h0 hs p cs) (hN:hs.n≤N0) (hx:WU2 P tab m N0 l g true fr (inC h) Q)
  (hr:Ope t x (yF p j):=by exact zv):uK2 P tab m N0 un t ⟨d,gd,.load agg n x⟩ (inC h) l g true Q fr (inC h):=by
 refine zD9 (fun k hk=> ?_) hx;obtain⟨q,q1,q2,rfl,q3⟩:=o;have hr:ev t x=_:=hr;unfold yF at hr;cases hw:zR t gd with
 |false=>simp only[zh,hw,cond_false]at hk;cases hk
 |true=>
  simp only[zh,hw,cond_true,hr,Option.some.injEq]at hk;omega
theorem zMN {P:Program} {tab:Tab} {t:Trie Value} {m N0 n g:Nat} {un:List Nat} {d:Option Nat} {gd:Option (Nat×Bool)} {agg:Bool} {x:Operand} {p:Value} {cs:List Value} {h0 hs h:AHeap} {l:List (AOper×List Nat)} {fr:AFr} {Q:AFr→AHeap→Prop} (o:OwnC h0 hs p cs) (hN:hs.n≤N0) (hx:WU2 P tab m N0 l g true fr (inC h) Q)
  (hr:Ope t x p:=by exact zv):uK2 P tab m N0 un t ⟨d,gd,.load agg n x⟩ (inC h) l g true Q fr (inC h):=
 zGB (j:=0) o hN hx (by rw[←o.at0];exact hr)
theorem WO.bl1 {P:Program} {tab:Tab} {t:Trie Value} {ds:List Deferred} {rd:Option Nat} {Q:AFr→AHeap→Prop} {l:List AOper} {d c:Nat} {zero cs:List Value} {x:Operand} {w:Value}
  (k:∀ h',Ext h h'→h'.n=h.n+1→SlC c h' (.slice (some ⟨h.n,0,none⟩) 1 c) 1 cs→h'.get h.n=some (.row cs true 0)→WO P tab l ⟨t.set d (.slice (some ⟨h.n,0,none⟩) 1 c),ds,rd⟩ h' Q)
  (hx:Ope t x w:=by exact zv) (hw:w.cells=cs.toArray:=by rfl) (hc:cs.length=c:=by rfl) (hz:zero.length=c:=by rfl):WO P tab (⟨some d,none,.buildSlice 1 c zero [(0,c,x)]⟩::l) ⟨t,ds,rd⟩ h Q:=by
 have hx:ev t x=w:=hx;refine WO.op (.slice (some ⟨h.n,0,none⟩) 1 c) (h.push (.row cs true 0)) rfl (by
  simp only[aop,zx,List.map_cons,List.map_nil,hx,zBt hw hc hz,Option.map_some];rfl) (k _ (ZZ _ _) rfl (SlC.own (Nat.lt_succ_self _) (zY _ _) (by rw[hc,Nat.one_mul])) (zY _ _))
end
section
variable {P:Program} {tab:Tab} {t:Trie Value} {h:AHeap} {ds:List Deferred} {rd:Option Nat} {l:List AOper} {Q:AFr→AHeap→Prop}
end
end Go.Am
