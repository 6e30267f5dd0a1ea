/- A part of the abstract machine for the model's programs and of the proof that what it yields the model's call yields (definitions, operations, runs, regions that draw their order); no statement of the seat is proved in this text. -/
import Derived.Test.YteekipjpghikkaaGreatDoorAmU
set_option linter.unusedVariables false
set_option linter.unusedSimpArgs false
namespace Go.Am
section
variable {P:Program} {tab:Tab}
def WU6 (P:Program) (tab:Tab) (m:Nat) (Bad:Nat->Prop):List (AOper×List Nat)->Nat->AFr->AHeap->(AFr->AHeap->Prop)->Prop
 |[],_,fr,h,Q=>Q fr h
 |(o,un)::l,g,fr,h,Q=>
  if Nat.beq (zF o.op) 3=true then
   un=[]/\zL fr.tm o.guard=true/\m<=g/\zZ fr.tm o=none/\∃ ob f,ye fr.tm o.op=some (ob,f)/\WU6 P tab m Bad l (g+1) (val o.dst fr (f g)) ((inC h).lay g ob) Q
  else WO P tab [o] fr (inC h) fun fr' h'=>(∀ g∈h'.wr,m<=g)/\(un=[]\/(zZ fr.tm o=none/\∀ g∈h'.wr,Bad g))/\(∀ g,zZ fr.tm o=some g->¬Bad g)/\WU6 P tab m Bad l g fr' h' Q
theorem zLu {Bad:Nat->Prop} {un:List Nat} {t:Trie Value} {o:AOper} {h':AHeap} (hk:un=[]\/(zZ t o=none/\∀ g∈h'.wr,Bad g)) (ws:List (Nat×Nat)) (bs:List (Nat×Nat)) {rs:List (Nat×Nat×Option (Nat×Nat×List Value))} (hr:∀ e∈rs,¬Bad e.2.1):
  ((match zZ t o with
   |some g=>(ws.all fun x=> !(Nat.beq g x.2&&un.contains x.1))&&bs.all fun x=> !un.contains x.1||Nat.ble (g+1) x.2
   |none=>true)&&rs.all fun x=> !(un.contains x.1&&h'.wr.contains x.2.1)||zDa h' x.2.1 x.2.2)=true:=by
 rcases hk with rfl|⟨h1,h2⟩
 ·exact zPi o ws rs bs t h'
 ·rw[h1];simp only[Qe];rw[QY];intro x hx;have:h'.wr.contains x.2.1=false:=by
   cases hc:h'.wr.contains x.2.1 with
   |false=>rfl
   |true=>exact absurd (h2 _ (List.contains_iff_mem.1 hc)) (hr x hx)
  rw[this,Qm];rfl
theorem WU6.run {m:Nat} {Bad:Nat->Prop}:∀ {ops:List (AOper×List Nat)} {g:Nat} {fr:AFr} {h:AHeap} {Q:AFr->AHeap->Prop},WU6 P tab m Bad ops g fr h Q->
  ∃ fr' h',Q fr' h'/\∀ (i:Nat) (ws:List (Nat×Nat)) (rs:List (Nat×Nat×Option (Nat×Nat×List Value))) (bs:List (Nat×Nat)),(∀ e∈ws,m<=e.2)->(∀ e∈rs,¬Bad e.2.1)->
   ∃ ws',(∀ e∈ws',m<=e.2)/\Ev fun n=>yC P (aex P tab n) ops i g ws rs bs fr h=some (fr',h',ws'):=by
 intro ops;induction ops with
 |nil=>intro g fr h Q hx;exact⟨fr,h,hx,fun i ws rs bs hw _=>⟨ws,hw,Ev.all fun n=>rfl⟩⟩
 |cons x ops ihl=>
  intro g fr h Q hx;obtain⟨o,un⟩:=x;simp only[WU6]at hx;have go:∀ {g':Nat} {fr1:AFr} {h1:AHeap},(g'=bif Nat.beq (zF o.op) 3 then g+1 else g)->(Ev fun n=>zy P (aex P tab n) g o fr (inC h)=some (fr1,h1))->(∀ x∈h1.wr,m<=x)->(un=[]\/(zZ fr.tm o=none/\∀ g∈h1.wr,Bad g))->(∀ g,zZ fr.tm o=some g->¬Bad g)->WU6 P tab m Bad ops g' fr1 h1 Q->
    ∃ fr' h',Q fr' h'/\∀ (i:Nat) (ws:List (Nat×Nat)) (rs:List (Nat×Nat×Option (Nat×Nat×List Value))) (bs:List (Nat×Nat)),(∀ e∈ws,m<=e.2)->(∀ e∈rs,¬Bad e.2.1)->
     ∃ ws',(∀ e∈ws',m<=e.2)/\Ev fun n=>yC P (aex P tab n) ((o,un)::ops) i g ws rs bs fr h=some (fr',h',ws'):=by
   intro g' fr1 h1 hg ev hw hk hb hx;obtain⟨fr',h',q,run⟩:=ihl hx;refine⟨fr',h',q,fun i ws rs bs hws hrs=> ?_⟩;obtain⟨ws',w1,w2⟩:=run (i+1) (h1.wr.map (fun g=>(i,g))++ws) (match zZ fr.tm o with
     |some g=>(i,g,Yr fr.tm h o.op)::rs
     |none=>rs) ((i,h.n)::bs) (fun e he=>by
      rcases Qf.1 he with he|he
      ·obtain⟨y,hy,rfl⟩:=Q0.1 he;exact hw y hy
      ·exact hws e he) (fun e he=>by
      cases hr:zZ fr.tm o with
      |none=>rw[hr]at he;exact hrs e he
      |some k=>
       rw[hr]at he;rcases Qj.1 he with rfl|he
       ·exact hb k hr
       ·exact hrs e he)
   refine⟨ws',w1,(ev.and w2).mono fun n ⟨e1,e2⟩=> ?_⟩;simp only[yC];have e1':zy P (aex P tab n) g o fr {h with mark:=h.n,wr:=[]}=some (fr1,h1):=e1;rw[e1'];have hok:=zLu hk ws bs hrs;exact(congrArg (fun b:Bool=>bif b then yC P (aex P tab n) ops (i+1) (bif Nat.beq (zF o.op) 3 then g+1 else g) (h1.wr.map (fun g=>(i,g))++ws) (match zZ fr.tm o with
     |some g=>(i,g,Yr fr.tm h o.op)::rs
     |none=>rs) ((i,h.n)::bs) fr1 h1 else none) hok).trans (by rw[cond_true,<-hg];exact e2)
  by_cases hk:Nat.beq (zF o.op) 3=true
  ·rw[QI hk]at hx;obtain⟨rfl,hw,hm,hr,ob,f,hmade,hx⟩:=hx;refine go (g':=g+1) (by rw[hk];rfl) (Ev.all fun n=> ?_) (h1:=(inC h).lay g ob) (fun x hx=> ?_) (.inl rfl) (fun k hk2=>by rw[hr]at hk2;cases hk2) hx
   ·unfold zy;simp only[hk,hw,hmade,cond_true]
   ·rcases yv hx with rfl|hx
    ·exact hm
    ·cases hx
  ·rw[QD hk]at hx;have hk':Nat.beq (zF o.op) 3=false:=by cases hb:Nat.beq (zF o.op) 3 with
    |false=>rfl
    |true=>exact absurd hb hk
   unfold WO at hx;obtain⟨fr1,h1,⟨q1,q2,q3,q4⟩,ev⟩:=hx;refine go (g':=g) (by rw[hk'];rfl) (ev.mono fun n e=> ?_) q1 q2 q3 q4;unfold zy;simp only[hk',QR];simp only[yT]at e;cases ha:z8 P (aex P tab n) o fr (inC h)with
   |none=>rw[ha]at e;cases e
   |some p=>rw[ha]at e;exact e
theorem WX.regionU6 {ops:List (AOper×List Nat)} {fr:AFr} {h:AHeap} {K:AExit->AFr->AHeap->Prop} (Bad:Nat->Prop) (k:Nat) (hk:zGp ops=k) (hne:ops.isEmpty=false)
  (hx:WU6 P tab h.mark Bad ops h.n fr (inC (zC k h)) (zB1 K h)):WX P tab (.regionC ops) fr h K:=by
 subst hk;have hx':WU6 P tab h.mark Bad ops h.n fr (zC (zGp ops) h) (zB1 K h):=by
  cases ops with
  |nil=>cases hne
  |cons x ops=>exact hx
 obtain⟨fr',h',q,run⟩:=WU6.run (h:=zC (zGp ops) h) hx';obtain⟨ws',w1,w2⟩:=run 0 [] [] [] (fun e he=>by cases he) (fun e he=>by cases he);unfold WX;refine⟨.normal,fr',_,q,Ev.up (w2.mono fun n e=> ?_)⟩;rw[zi];simp only[zb,YP];have e':yC P (aex P tab n) ops 0 h.n [] [] [] fr {h with n:=h.n+(ops.filter fun x=>Nat.beq (zF x.1.op) 3).length}=some (fr',h',ws'):=e;rw[e'];have:((ws'.map (·.2)).filter fun g=> !Nat.ble h.mark g)=[]:=by
  rw[List.filter_eq_nil_iff];intro g hg;obtain⟨y,hy,rfl⟩:=Q0.1 hg;have:Nat.ble h.mark y.2=true:=QH (w1 y hy);simp[this]
 simp[this,zc]
end
section
variable {P:Program} {tab:Tab} {m:Nat} {Bad:Nat->Prop} {l:List (AOper×List Nat)} {o:AOper} {un:List Nat} {g:Nat} {fr:AFr} {h h0 h':AHeap} {Q:AFr->AHeap->Prop} {K:AExit->AFr->AHeap->Prop} {t:Trie Value}
def uK6 (P:Program) (tab:Tab) (m:Nat) (Bad:Nat->Prop) (un:List Nat) (t:Trie Value) (o:AOper) (l:List (AOper×List Nat)) (g:Nat) (Q:AFr->AHeap->Prop):AFr->AHeap->Prop:=
 fun fr' h'=>(∀ g∈h'.wr,m<=g)/\(un=[]\/(zZ t o=none/\∀ g∈h'.wr,Bad g))/\(∀ g,zZ t o=some g->¬Bad g)/\WU6 P tab m Bad l g fr' h' Q
theorem WU6.q (hk:Nat.beq (zF o.op) 3=false) (hx:WO P tab [o] fr (inC h) (uK6 P tab m Bad un fr.tm o l g Q)):WU6 P tab m Bad ((o,un)::l) g fr (inC h) Q:=by
 simp only[WU6];rw[QD (by rw[hk];exact Bool.noConfusion)];exact hx
theorem zU8 (hr:zZ t o=none) (hx:WU6 P tab m Bad l g fr (inC h) Q):uK6 P tab m Bad [] t o l g Q fr (inC h):=
 ⟨fun g hg=>(by cases hg),.inl rfl,fun g hg=>(by rw[hr]at hg;cases hg),hx⟩
theorem zPD {d:Option Nat} {agg:Bool} {n k:Nat} {x:Operand} {a:Addr} (hr:Ope t x (yH (.pointer (some a)) k)) (hb:¬Bad a.block) (hx:WU6 P tab m Bad l g fr (inC h) Q):uK6 P tab m Bad [] t ⟨d,none,.load agg n x⟩ l g Q fr (inC h):=by
 refine⟨fun g hg=>(by cases hg),.inl rfl,fun g hg=> ?_,hx⟩;unfold Ope yH at hr;simp only[zZ,zL,cond_true,hr,QA]at hg;rw[<-hg];exact hb
theorem WU6.mk {d:Nat} {op:AOp} {ob:AObj} {f:Nat->Value} (hk:Nat.beq (zF op) 3=true) (hm:m<=g) (hmade:ye t op=some (ob,f)) {ds:List Deferred} {rd:Option Nat} (hx:WU6 P tab m Bad l (g+1) ⟨t.set d (f g),ds,rd⟩ ((inC h).lay g ob) Q):WU6 P tab m Bad ((⟨some d,none,op⟩,[])::l) g ⟨t,ds,rd⟩ (inC h) Q:=by
 simp only[WU6];rw[QI hk];refine⟨by trivial,rfl,hm,?_,ob,f,hmade,hx⟩;cases op<;>first|rfl|cases hk
end
structure AR (hB h:AHeap) (p:Value) (cells:List Value) (n:Nat) (A:Nat->List Int):Prop where
 own:OwnC hB h p cells
 len:cells.length=n
 all:∀ j,j<n->OwnN hB h (cells.getD j undef) (A j)
 apart:∀ i j g a b c d,i<n->j<n->i≠j->cells.getD i undef= .slice (some ⟨g,0,none⟩) a b->cells.getD j undef= .slice (some ⟨g,0,none⟩) c d->False
theorem AR.ext {hB h h':AHeap} {p:Value} {cells:List Value} {n:Nat} {A:Nat->List Int} (r:AR hB h p cells n A) (e:Ext h h'):AR hB h' p cells n A:=
 ⟨r.own.ext e,r.len,fun j hj=>(r.all j hj).ext e,r.apart⟩
theorem AR.off {hB h:AHeap} {p:Value} {cells:List Value} {n:Nat} {A:Nat->List Int} (r:AR hB h p cells n A) {j:Nat} (hj:j<n) {g gp a b:Nat} (hp:p= .pointer (some ⟨gp,0,none⟩)) (hv:cells.getD j undef= .slice (some ⟨g,0,none⟩) a b):g≠gp:=by
 intro e;subst e;obtain⟨q,_,_,hq,hg⟩:=r.own;rw[hp]at hq;cases hq;rcases r.all j hj with ⟨h1,_⟩|⟨q2,_,_,h2,h3⟩
 ·rw[h1]at hv;cases hv
 ·rw[h2]at hv;cases hv;rw[hg]at h3;have he:cells=(A j).map I:=by simpa using h3
  have:=congrArg (fun l=>l.getD j undef) he;simp only[h2]at this;have hlen:j<((A j).map I).length:=by rw[<-he,r.len];exact hj
  rw[QE,QB hlen]at this;simp at this
section
variable {P:Program} {tab:Tab} {t:Trie Value} {ds:List Deferred} {rd:Option Nat}
theorem zFl {l:List Value} {i j:Nat} {v d:Value} (hi:i<l.length):(l.set i v).getD j d=if j=i then v else l.getD j d:=by
 simp only[QE,List.getElem?_set];by_cases h:i=j
 ·subst h;simp[hi]
 ·rw[QD h,QD (fun e=>h e.symm)]
theorem zGV {l:List Value} {i:Nat} {v:Value} (hi:i<l.length):zX l i [v]=l.set i v:=by
 unfold zX;rw[Qa,List.set_eq_take_append_cons_drop,QI hi];simp
theorem zOc {cells:List Value} {i:Nat} (hi:i<cells.length):(cut cells i 1).bind (zG false)=some (cells.getD i undef):=by
 have h1:cells.drop i=cells[i]::cells.drop (i+1):=Qx hi;have h2:cells.getD i undef=cells[i]:=by simp[List.getD,QB hi]
 have hc:cut cells i 1=some [cells[i]]:=(yo (by omega)).trans (by rw[h1];rfl);rw[hc,h2];rfl
theorem zGx (a n k):(Value.slice a n k).cells=#[.slice a n k]:=rfl
theorem WU6.app {d1 d2 d3 s i n:Nat} {x y z:Operand} {un:List Nat} {hB h:AHeap} {p v:Value} {cells:List Value} {A:Nat->List Int} {k:Int} {K:AExit->AFr->AHeap->Prop}
  (r:AR hB h p cells n A) (e0:Ext hB h) (hm:h.mark<=hB.n) (hi:i<n) (hv:cells.getD i undef=v) (hlen:(A i).length<=1000)
  (hy:Ope t y (I k)) (hx:Ope (t.set d1 (.slice (some ⟨h.n,0,none⟩) 1 1)) x v) (h21:Nat.beq d1 d2=false) (hs:∀ w,Ope ((t.set d1 (.slice (some ⟨h.n,0,none⟩) 1 1)).set d2 w) (.tmp s) p) (hz:∀ w,Ope ((t.set d1 (.slice (some ⟨h.n,0,none⟩) 1 1)).set d2 w) z (I (i:Int))) (h32:Nat.beq d2 d3=false)
  (kk:∀ h1 w t',(∀ j,Nat.beq j d1=false->Nat.beq j d2=false->Nat.beq j d3=false->zB t' j=zB t j)->Ext hB h1->AR hB h1 p (cells.set i w) n (fun j=>if j=i then A i++[k] else A j)->(∀ g,g<h.n->p≠ .pointer (some ⟨g,0,none⟩)->(∀ a b,v≠ .slice (some ⟨g,0,none⟩) a b)->h1.get g=h.get g)->h.n<=h1.n->K .normal ⟨t',ds,rd⟩ h1):
  WU6 P tab h.mark (fun g=>∃ a b,v= .slice (some ⟨g,0,none⟩) a b) [(⟨some d1,none,.buildSlice 1 1 [I 0] [(0,1,y)]⟩,[]),(⟨some d2,none,.append 1 x (.tmp d1)⟩,un),(⟨some d3,none,.idxArr n 1 (.tmp s) z⟩,[]),(⟨none,none,.store 1 (.tmp d3) (.tmp d2)⟩,[])] h.n ⟨t,ds,rd⟩ (inC (zC 1 h)) (zB1 K h):=by
 have hon:=r.all i hi;rw[hv]at hon;obtain⟨gp,gp1,gp2,hp,gp3⟩:=r.own;have hmade:ye t (.buildSlice 1 1 [I 0] [(0,1,y)])=some (.row [I k] true 0,fun g=> .slice (some ⟨g,0,none⟩) 1 1):=by
  have hy:ev t y=I k:=hy;simp only[ye,zl,Qh,G4,hy];rfl
 refine WU6.mk rfl (by have:=e0.n;omega) hmade ?_;generalize hH1:(inC (zC 1 h)).lay h.n (.row [I k] true 0)=H1;have n1:H1.n=h.n+1:=by rw[<-hH1];rfl
 have get1:∀ c,H1.get c=if c=h.n then some (.row [I k] true 0) else h.get c:=fun c=>by rw[<-hH1];exact za _ _ _ _
 have sl:SlI (inC H1) (.slice (some ⟨h.n,0,none⟩) 1 1) [k]:=⟨rfl,.inr ⟨h.n,0,[I k],rfl,ZZ (own:=true) (lo:=0) (by have:=get1 h.n;rw[QI rfl]at this;exact this),rfl,by show h.n<H1.n;omega⟩⟩;have hsrc:=ZT sl;obtain⟨H2,ha,n2,get2,keep2,wr2,wf2⟩:∃ H2,yI 1 v (.slice (some ⟨h.n,0,none⟩) 1 1) (inC H1)=some (.slice (some ⟨h.n+1,0,none⟩) (A i++[k]).length 1,H2)/\H2.n=h.n+2/\H2.get (h.n+1)=some (.row ((A i++[k]).map I) true 0)/\
   (∀ c,c≠h.n+1->(∀ a b,v≠ .slice (some ⟨c,0,none⟩) a b)->H2.get c=H1.get c)/\(∀ c∈H2.wr,∃ a b,v= .slice (some ⟨c,0,none⟩) a b)/\(∀ c,h.n+2<=c->H1.get c=none->H2.get c=none):=by
  have hone:zN [I k]=true:=rfl;have hn1:(inC H1).n=h.n+1:=n1;rcases hon with ⟨rfl,hA⟩|⟨q,q1,q2,rfl,q3⟩
  ·refine⟨(inC H1).push (.row [I k] true 0),?_,?_,?_,fun c hc _=> ?_,fun c hc=>(by cases hc),fun c hc h0=> ?_⟩
   ·have:Nat.ble 1 room=true:=rfl;simp only[yI,hsrc,Qh,G4,hone,QU,QR,Qa,Nat.div_one,this,cond_true,hA,GT];rw[<-hn1];rfl
   ·show (inC H1).n+1=_;omega
   ·rw[hA,<-hn1,zO,QI rfl];rfl
   ·rw[zO,QD (by omega)];rfl
   ·rw[zO,QD (by omega)];exact h0
  ·have hq:(inC H1).get q=some (.row ((A i).map I) true 0):=by
    have:=get1 q;rw[QD (by omega)]at this;exact this.trans q3
   refine⟨((inC H1).kill q).push (.row ((A i).map I++[I k]) true (0 - 0)),?_,?_,?_,fun c hc hv=> ?_,fun c hc=> ?_,fun c hc h0=> ?_⟩
   ·have h1:Nat.ble ((A i).length+1) room=true:=QH (by have:room=4294967296:=rfl;omega);have h2:cut ((A i).map I) 0 ((A i).length * 1)=some ((A i).map I):=by rw[yo (by simp)];simp[Q5]
    have h3:Nat.ble 0 (0+(A i).length * 1)=true:=QH (QV _);simp only[yI,hsrc,Qh,G4,hone,QU,QR,Qa,Nat.div_one,h1,h2,h3,hq,cond_true,hn1,QX];rfl
   ·show (inC H1).n+1=_;omega
   ·have e:((inC H1).kill q).n=h.n+1:=n1;rw[<-e,zO,QI rfl];simp
   ·rw[zO,QD (by show c≠(inC H1).n;omega),yY,QD (fun e=>hv _ _ (by rw[e]))];rfl
   ·have hc2:c∈(inC H1).log q:=hc;rcases yv hc2 with rfl|h
    ·exact⟨_,_,rfl⟩
    ·cases h
   ·rw[zO,QD (by show c≠(inC H1).n;omega),yY];split
    ·rfl
    ·exact h0
 have hbad:∀ c,(∃ a b,v= .slice (some ⟨c,0,none⟩) a b)->hB.n<=c/\c<h.n/\c≠gp:=by
  rintro c ⟨a,b,e⟩;have hne:=r.off hi hp (hv.trans e);rcases hon with ⟨h1,_⟩|⟨q,q1,q2,h1,_⟩
  ·rw[e]at h1;cases h1
  ·rw[e]at h1;cases h1;exact⟨q1,q2,hne⟩
 have hgp:∀ a b,v≠ .slice (some ⟨gp,0,none⟩) a b:=fun a b e=>(hbad gp ⟨a,b,e⟩).2.2 rfl;rw[WU6,QD (show ¬Nat.beq (zF (AOp.append 1 x (.tmp d1))) 3=true from Bool.noConfusion)];have hx:ev (t.set d1 (.slice (some ⟨h.n,0,none⟩) 1 1)) x=v:=hx;have e1:ev (t.set d1 (.slice (some ⟨h.n,0,none⟩) 1 1)) (.tmp d1)= .slice (some ⟨h.n,0,none⟩) 1 1:=by simp only[ev,z0,Qv]
 refine WO.op (.slice (some ⟨h.n+1,0,none⟩) (A i++[k]).length 1) H2 rfl (by simp only[aop,hx,e1,ha]) ?_;refine WO.nil ⟨fun c hc=> ?_,.inr ⟨rfl,wr2⟩,fun c hc=>(by cases hc),?_⟩
 ·have:=(hbad c (wr2 c hc)).1;omega
 rw[WU6,QD (show ¬Nat.beq (zF (AOp.idxArr n 1 (.tmp s) z)) 3=true from Bool.noConfusion)];have own2:OwnC hB (inC H2) p cells:=by
  refine⟨gp,gp1,by show gp<H2.n;omega,hp,?_⟩;show H2.get gp=_;rw[keep2 gp (by omega) hgp,get1,QD (by omega)];exact gp3
 have hs2:=hs (.slice (some ⟨h.n+1,0,none⟩) (A i++[k]).length 1);have hz2:=hz (.slice (some ⟨h.n+1,0,none⟩) (A i++[k]).length 1);have hidx:=OwnC.idxArr0 (P:=P) (ih:=Ex.bot) (c:=1) (n:=n) (i:=i) hs2 (by have hz2:ev _ z=I (i:Int):=hz2;rw[hz2];rfl) own2 hi;rw[G9]at hidx;refine WO.op _ (inC H2) rfl hidx ?_;refine WO.nil ⟨fun c hc=>(by cases hc),?_,fun c hc=>(by cases hc),?_⟩
 ·exact .inr ⟨rfl,fun c hc=>(by cases hc)⟩
 rw[WU6,QD (show ¬Nat.beq (zF (AOp.store 1 (.tmp d3) (.tmp d2))) 3=true from Bool.noConfusion)];have hst:zY (inC (inC H2)) ⟨gp,i,none⟩ [.slice (some ⟨h.n+1,0,none⟩) (A i++[k]).length 1]=some ((inC (inC H2)).set gp (.row (cells.set i (.slice (some ⟨h.n+1,0,none⟩) (A i++[k]).length 1)) true 0)):=by
  obtain⟨q,_,_,hq,hg⟩:=own2;rw[hp]at hq;cases hq;have hg':(inC (inC H2)).get gp=some (.row cells true 0):=hg;have h1:Nat.ble (i+1) cells.length=true:=QH (by rw[r.len];exact hi);have h0:Nat.ble 0 i=true:=QH (QV _);have h2:zN [.slice (some ⟨h.n+1,0,none⟩) (A i++[k]).length 1]=true:=rfl;simp only[zY,hg',Qa,h1,h0,h2,Qu,zGV (show i<cells.length by rw[r.len];exact hi)];rfl
 have hd32:¬d2=d3:=fun e=>by subst e;simp at h32
 refine WO.op0 undef ((inC (inC H2)).set gp (.row (cells.set i (.slice (some ⟨h.n+1,0,none⟩) (A i++[k]).length 1)) true 0)) rfl (by
  have a1:∀ tt:Trie Value,ev (tt.set d3 (yH p i)) (.tmp d3)= .pointer (some ⟨gp,i,none⟩):=fun tt=>by
   simp only[ev,z0,Qv,hp,yH,Q4]
  have a2:∀ w,ev (((t.set d1 (.slice (some ⟨h.n,0,none⟩) 1 1)).set d2 w).set d3 (yH p i)) (.tmp d2)=w:=fun w=>by
   simp only[ev,z0,QD hd32,Qv]
  simp only[val,aop,a1,a2,zGx,G3,Qa,Ge,hst,QK,cond_true]) ?_
 refine WO.nil ⟨fun c hc=> ?_,.inl rfl,fun c hc=>(by cases hc),?_⟩
 ·have hc2:c∈(inC (inC H2)).log gp:=hc;rcases yv hc2 with rfl|h
  ·omega
  ·cases h
 generalize hH:zc h ((inC (inC H2)).set gp (.row (cells.set i (.slice (some ⟨h.n+1,0,none⟩) (A i++[k]).length 1)) true 0))=H;have nH:H.n=h.n+2:=by rw[<-hH];exact n2
 have getH:∀ c,H.get c=if c=gp then some (.row (cells.set i (.slice (some ⟨h.n+1,0,none⟩) (A i++[k]).length 1)) true 0) else H2.get c:=fun c=>by rw[<-hH];exact za _ _ _ _
 have keepH:∀ c,c<h.n->c≠gp->(∀ a b,v≠ .slice (some ⟨c,0,none⟩) a b)->H.get c=h.get c:=fun c h1 h2 h3=>by
  rw[getH,QD h2,keep2 c (by omega) h3,get1,QD (by omega)]
 have lowH:∀ c,c<hB.n->H.get c=h.get c:=fun c hc=>keepH c (by have:=e0.n;omega) (by omega) (fun a b e=>by have:=(hbad c ⟨a,b,e⟩).1;omega);show K .normal _ _;rw[hH];refine kk H (.slice (some ⟨h.n+1,0,none⟩) (A i++[k]).length 1) _ (fun j a1 a2 a3=> ?_) ?_ ?_ (fun c h1 h2 h3=>keepH c h1 (fun e=>h2 (by rw[hp,e])) h3) (by omega)
 ·have b1:¬j=d1:=fun e=>by subst e;simp at a1
  have b2:¬j=d2:=fun e=>by subst e;simp at a2
  have b3:¬j=d3:=fun e=>by subst e;simp at a3
  simp only[val,z0,QD b1,QD b2,QD b3]
 ·refine⟨by rw[nH];have:=e0.n;omega,fun c hc=>(lowH c hc).trans (e0.get c hc),fun w c hc=> ?_,?_,fun hmk=> ?_⟩
  ·rw[nH]at hc;rw[getH,QD (by omega)];exact wf2 c hc (by rw[get1,QD (by omega)];exact e0.wf w c (by omega))
  ·rw[<-hH];exact e0.mark
  ·rw[<-hH];exact e0.wr hmk
 ·refine⟨⟨gp,gp1,by omega,hp,by rw[getH,QI rfl]⟩,by rw[GJ];exact r.len,fun j hj=> ?_,fun j1 j2 g a b c d hj1 hj2 hne e1 e2=> ?_⟩
  ·rw[zFl (by rw[r.len];exact hi)];by_cases e:j=i
   ·rw[QI e];simp only[QI e];exact .inr ⟨h.n+1,by have:=e0.n;omega,by omega,rfl,by rw[getH,QD (by omega)];exact get2⟩
   ·rw[QD e];simp only[QD e];rcases r.all j hj with h1|⟨q,q1,q2,h1,q3⟩
    ·exact .inl h1
    ·refine .inr ⟨q,q1,by omega,h1,?_⟩;rw[keepH q q2 (r.off hj hp h1) (fun a b e2=>r.apart j i q _ _ a b hj hi e h1 (hv.trans e2))];exact q3
  ·rw[zFl (by rw[r.len];exact hi)]at e1 e2;have old:∀ j a b,j<n->cells.getD j undef= .slice (some ⟨g,0,none⟩) a b->g<h.n:=fun j a b hj e=>by
    rcases r.all j hj with ⟨h1,_⟩|⟨q,_,q2,h1,_⟩
    ·rw[e]at h1;cases h1
    ·rw[e]at h1;cases h1;exact q2
   by_cases f1:j1=i
   ·rw[QI f1]at e1;cases e1;by_cases f2:j2=i
    ·exact hne (f1.trans f2.symm)
    ·rw[QD f2]at e2;have:=old j2 _ _ hj2 e2;omega
   ·rw[QD f1]at e1;by_cases f2:j2=i
    ·rw[QI f2]at e2;cases e2;have:=old j1 _ _ hj1 e1;omega
    ·rw[QD f2]at e2;exact r.apart j1 j2 g a b c d hj1 hj2 hne e1 e2
theorem AR.one {hB h:AHeap} {p:Value} {cells:List Value} {n:Nat} {A:Nat->List Int} (r:AR hB h p cells n A):zN cells=true:=by
 unfold zN;rw[QY];intro x hx;obtain⟨j,hj,rfl⟩:=JS.1 hx;have e:cells.getD j undef=cells[j]:=by simp[List.getD,QB hj]
 have:=r.all j (by rw[<-r.len];exact hj);rw[e]at this;rcases this with ⟨h,_⟩|⟨_,_,_,h,_⟩<;>rw[h]
theorem AR.updC {hB h h':AHeap} {p:Value} {cells:List Value} {n:Nat} {A:Nat->List Int} (r:AR hB h p cells n A) (o:OwnC hB h' p cells) (u:UpdC p h h'):AR hB h' p cells n A:=by
 refine⟨o,r.len,fun j hj=> ?_,r.apart⟩;rcases r.all j hj with h1|⟨q,q1,q2,h1,q3⟩
 ·exact .inl h1
 ·refine .inr ⟨q,q1,QG q2 u.1,h1,(u.2 q q2 fun e=> ?_).trans q3⟩;exact r.off hj e h1 rfl
theorem zKK {cells:List Value} {n:Nat} (hn:cells.length=n):(cut cells 0 n).bind (zG true)=some (.agg cells.toArray):=by
 subst hn;rw[yo (by omega)];simp[Q5,zG]
theorem WO.ldV {d i:Nat} {x:Operand} {p:Value} {cells:List Value} {h0 h:AHeap} {l:List AOper} {Q:AFr->AHeap->Prop} (o:OwnC h0 h p cells) (hi:i<cells.length) (k:WO P tab l ⟨t.set d (cells.getD i undef),ds,rd⟩ h Q) (hx:Ope t x (yH p i):=by exact zT):WO P tab (⟨some d,none,.load false 1 x⟩::l) ⟨t,ds,rd⟩ h Q:=
 WO.o (OwnC.load hx o (zOc hi)) k
theorem WO.ldAll {d n:Nat} {x:Operand} {p:Value} {cells:List Value} {h0 h:AHeap} {l:List AOper} {Q:AFr->AHeap->Prop} (o:OwnC h0 h p cells) (hn:cells.length=n) (k:WO P tab l ⟨t.set d (.agg cells.toArray),ds,rd⟩ h Q) (hx:Ope t x p:=by exact zT):WO P tab (⟨some d,none,.load true n x⟩::l) ⟨t,ds,rd⟩ h Q:=
 WO.o (OwnC.load0 hx o (zKK hn)) k
end
section
variable {P:Program} {tab:Tab} {ds:List Deferred} {rd:Option Nat} {h:AHeap} {l:List AOper} {t:Trie Value}
theorem goV {G' G:Prop} (k:G') (r:Wrap G'->G:=by
  intro hgo;first|with_reducible show WU6 _ _ _ _ (_::_) _ _ _ _|refine go ?_
  repeat (first|((apply WU6.q;rfl);refine go ?_)|refine zU8 rfl ?_|(apply zPD;(exact zJ);(assumption)))
  first|with_reducible show WU6 _ _ _ _ (_::_) _ _ _ _|refine go ?_
  exact hgo.out):G:=r ⟨k⟩
end
section
variable {P:Program} {tab:Tab} {t:Trie Value} {ds:List Deferred} {rd:Option Nat}
theorem zDy {h0 h:AHeap} {p:Value} {xs:List Int} {j:Nat} {a:Int} (o:OwnC h0 h p (xs.map I)) (hj:j<xs.length):∃ g,h0.n<=g/\g<h.n/\p= .pointer (some ⟨g,0,none⟩)/\zY h ⟨g,j,none⟩ [I a]=some (h.set g (.row ((xs.set j a).map I) true 0)):=by
 obtain⟨g,g1,g2,hp,g3⟩:=o;refine⟨g,g1,g2,hp,?_⟩;have h1:Nat.ble (j+1) (xs.map I).length=true:=QH (by simp;omega);have h0:Nat.ble 0 j=true:=QH (QV _);have h2:zN [I a]=true:=rfl;simp only[zY,g3,Qa,h1,h0,h2,Qu,zAY _ _ _ hj];rfl
theorem WO.stI1 {x y:Operand} {p:Value} {xs:List Int} {j:Nat} {a:Int} {h0 h:AHeap} {l:List AOper} {Q:AFr->AHeap->Prop} (o:OwnC h0 h p (xs.map I)) (e0:Ext h0 h) (hj:j<xs.length)
  (k:∀ h',Ext h0 h'->OwnC h0 h' p ((xs.set j a).map I)->UpdC p h h'->WO P tab l ⟨t,ds,rd⟩ h' Q) (hx:Ope t x (yH p j):=by exact zT) (hy:Ope t y (I a):=by exact zT):WO P tab (⟨none,none,.store 1 x y⟩::l) ⟨t,ds,rd⟩ h Q:=by
 refine WO.storeC hx hy (v:=I a) (cs:=[I a]) rfl rfl rfl o e0 (by simp;omega) fun h' a1 a2 a3=>k h' a1 ?_ a3;rw[zAY _ _ _ hj]at a2;exact a2
theorem WU2.st1 {N0 g:Nat} {cl:Bool} {x y:Operand} {p:Value} {xs:List Int} {j:Nat} {a:Int} {h0 X:AHeap} {m:Nat} {w:AOper×List Nat} {l:List (AOper×List Nat)} {Q:AFr->AHeap->Prop} (o:OwnC h0 X p (xs.map I)) (hm:m<=h0.n) (hj:j<xs.length)
  (k:∀ X',X'.n=X.n->OwnC h0 X' p ((xs.set j a).map I)->UpdC p X X'->(Wf X->Wf X')->WU2 P tab m N0 (w::l) g false ⟨t,ds,rd⟩ (inC X') Q) (hx:Ope t x (yH p j):=by exact zT) (hy:Ope t y (I a):=by exact zT):
  WU2 P tab m N0 ((⟨none,none,.store 1 x y⟩,[])::w::l) g cl ⟨t,ds,rd⟩ (inC X) Q:=by
 obtain⟨q,q1,q2,hp,hst⟩:=zDy (a:=a) o hj;rw[WU2,QD (show ¬Nat.beq (zF (AOp.store 1 x y)) 3=true from Bool.noConfusion)];have hst':zY (inC (inC X)) ⟨q,j,none⟩ [I a]=some ((inC (inC X)).set q (.row ((xs.set j a).map I) true 0)):=by
  have:OwnC h0 (inC (inC X)) p (xs.map I):=o;obtain⟨q',_,_,hp',h⟩:=zDy (a:=a) this hj;rw[hp]at hp';cases hp';exact h
 have hx:ev t x=yH p j:=hx;have hy:ev t y=I a:=hy;have hc:(I a).cells=#[I a]:=rfl;refine WO.op0 undef ((inC (inC X)).set q (.row ((xs.set j a).map I) true 0)) rfl (by
  simp only[aop,hx,hp,yH,Q4,hy,hc,hst',QK];rfl) ?_
 have hlog:(inC (inC X)).log q=[q]:=by
  have:Nat.ble X.n q=false:=by
   cases hb:Nat.ble X.n q with
   |false=>rfl
   |true=>have:=QM hb;omega
  show (bif Nat.ble X.n q then [] else q::[])=_;rw[this];rfl
 have hwr:((inC (inC X)).set q (.row ((xs.set j a).map I) true 0)).wr=[q]:=hlog;refine WO.nil ⟨⟨fun c hc=> ?_,QF _,.inl rfl⟩,?_⟩
 ·rw[hwr]at hc;rw[QQ]at hc;subst hc;omega
 ·rw[hwr,show (cl&&[q].isEmpty)=false by cases cl<;>rfl];have:=k ((inC (inC X)).set q (.row ((xs.set j a).map I) true 0)) rfl ⟨q,q1,q2,hp,by rw[zR,QI rfl]⟩ ⟨QF _,fun c _ hc=>by rw[zR,QD (fun e=>hc (by rw[hp,e]))];rfl⟩ (fun wf c hc=>by have hc:X.n<=c:=hc;rw[zR,QD (by omega)];exact wf c hc);obtain⟨o2,un2⟩:=w;unfold WU2 at this |-;exact this
theorem WU2.stE {N0 g:Nat} {cl:Bool} {x y:Operand} {p:Value} {xs:List Int} {j:Nat} {a:Int} {h0 hS X:AHeap} {K:AExit->AFr->AHeap->Prop} (o:OwnC h0 X p (xs.map I)) (e0:Ext h0 hS) (hm:hS.mark<=h0.n) (hn:X.n=hS.n) (u:UpdC p hS X) (wf:Wf hS->Wf X) (hj:j<xs.length)
  (k:∀ h1,Ext h0 h1->OwnC h0 h1 p ((xs.set j a).map I)->UpdC p hS h1->K .normal ⟨t,ds,rd⟩ h1) (hx:Ope t x (yH p j):=by exact zT) (hy:Ope t y (I a):=by exact zT):
  WU2 P tab hS.mark N0 [(⟨none,none,.store 1 x y⟩,[])] g cl ⟨t,ds,rd⟩ (inC X) (zB1 K hS):=by
 obtain⟨q,q1,q2,hp,_⟩:=zDy (a:=a) o hj;rw[WU2,QD (show ¬Nat.beq (zF (AOp.store 1 x y)) 3=true from Bool.noConfusion)];have hst':zY (inC (inC X)) ⟨q,j,none⟩ [I a]=some ((inC (inC X)).set q (.row ((xs.set j a).map I) true 0)):=by
  have:OwnC h0 (inC (inC X)) p (xs.map I):=o;obtain⟨q',_,_,hp',h⟩:=zDy (a:=a) this hj;rw[hp]at hp';cases hp';exact h
 have hx:ev t x=yH p j:=hx;have hy:ev t y=I a:=hy;have hc:(I a).cells=#[I a]:=rfl;refine WO.op0 undef ((inC (inC X)).set q (.row ((xs.set j a).map I) true 0)) rfl (by
  simp only[aop,hx,hp,yH,Q4,hy,hc,hst',QK];rfl) ?_
 refine WO.nil ⟨⟨fun c hc=> ?_,QF _,.inl rfl⟩,?_⟩
 ·have hc2:c∈(inC (inC X)).log q:=hc;rcases yv hc2 with rfl|h
  ·omega
  ·cases h
 have get2:∀ c,(zc hS ((inC (inC X)).set q (.row ((xs.set j a).map I) true 0))).get c=if c=q then some (.row ((xs.set j a).map I) true 0) else X.get c:=fun c=>za _ _ _ _;refine k (zc hS ((inC (inC X)).set q (.row ((xs.set j a).map I) true 0))) ?_ ⟨q,q1,q2,hp,by rw[get2,QI rfl]⟩ ⟨by show hS.n<=X.n;omega,fun c hc hv=>by rw[get2,QD (fun e=>hv (by rw[hp,e]))];exact u.2 c hc hv⟩;refine⟨by show h0.n<=X.n;rw[hn];exact e0.n,fun c hc=> ?_,fun w c hc=> ?_,e0.mark,fun hmk=>e0.wr hmk⟩
 ·rw[get2,QD (by omega)];exact(u.2 c (by have:=e0.n;omega) (fun e=>by rw[hp]at e;cases e;omega)).trans (e0.get c hc)
 ·have hc:X.n<=c:=hc;rw[get2,QD (by omega)];exact wf (e0.wf w) c hc
theorem zMm {xs:List Int} {j n:Nat} (h:j+n<=xs.length):(cut (xs.map I) j n).bind (zG true)=some (.agg (((xs.drop j).take n).map I).toArray):=by
 rw[yo (by simp;omega)];simp[zG]
theorem WO.ldMany {d j n:Nat} {x:Operand} {p:Value} {xs:List Int} {h0 h:AHeap} {l:List AOper} {Q:AFr->AHeap->Prop} (o:OwnC h0 h p (xs.map I)) (hn:j+n<=xs.length) (k:WO P tab l ⟨t.set d (.agg (((xs.drop j).take n).map I).toArray),ds,rd⟩ h Q) (hx:Ope t x (yH p j):=by exact zT):WO P tab (⟨some d,none,.load true n x⟩::l) ⟨t,ds,rd⟩ h Q:=
 WO.o (OwnC.load hx o (zMm hn)) k
theorem zOi {e:TypeId} {kk:IntKind} {d:Nat} (he:P.underlying e=some (.int kk)) (ha:zP P (isAgg e)=some false) {xs ys:List Int} (hl:xs.length=ys.length):∀ (m i:Nat),i+m=xs.length->
  zP P (do
   let s <-(forIn (List.range' i m) (none,()) fun f (__s:Option Bool×Unit)=>do
           let __do_lift <-part e (xs.map I).toArray (f * 1)
           let __do_lift_1 <-part e (ys.map I).toArray (f * 1)
           let __do_lift <-Op.equalIn (d+1) e __do_lift __do_lift_1
           if (!__do_lift)=true then pure (ForInStep.done (some false,()))
            else pure (ForInStep.yield (none,())):Sem (Option Bool×Unit))
   match s.fst with
        |some r=>pure r
        |none=>pure true)=some (decide (xs.drop i=ys.drop i)):=by
 intro m;induction m with
 |zero=>
  intro i hi;have h1:xs.drop i=[]:=JK (by omega);have h2:ys.drop i=[]:=JK (by omega);rw[h1,h2];rfl
 |succ m ih=>
  intro i hi;have hx:i<xs.length:=by omega
  have hy:i<ys.length:=by omega
  have px:zP P (part e (xs.map I).toArray (i * 1))=some (I xs[i]):=zCW (by rw[ha]) (by simp[hx]);have py:zP P (part e (ys.map I).toArray (i * 1))=some (I ys[i]):=zCW (by rw[ha]) (by simp[hy]);have heq:zP P (Op.equalIn (d+1) e (I xs[i]) (I ys[i]))=some (decide (xs[i]=ys[i])):=by
   rw[Op.equalIn,zI,yV he];simp only[QP,Qv,zGv];congr 1
  rw[List.range'_succ,List.forIn_cons];simp only[bind_assoc,zI,px,py,QP,heq];have e1:(xs.drop i=ys.drop i)↔(xs[i]=ys[i]/\xs.drop (i+1)=ys.drop (i+1)):=by rw[Qx hx,Qx hy,List.cons.injEq]
  by_cases h:xs[i]=ys[i]
  ·have:=ih (i+1) (by omega);rw[QZ h,show decide (xs.drop i=ys.drop i)=decide (xs.drop (i+1)=ys.drop (i+1)) from decide_eq_decide.2 (e1.trans ⟨fun h=>h.2,fun k=>⟨h,k⟩⟩),<-this,zI];rfl
  ·rw[QT h,show decide (xs.drop i=ys.drop i)=false from QT fun k=>h (e1.1 k).1];rfl
theorem zS1 {t e:TypeId} {kk:IntKind} {n:Nat} {xs ys:List Int} {x y:Operand} (ht:P.underlying t=some (.array n e)) (he:P.underlying e=some (.int kk)) (ha:zP P (isAgg e)=some false) (hs:zP P (sizeOf e)=some 1) (hg:P.eqGuardType P.depth t=false) (hx:xs.length=n) (hy:ys.length=n):
  zP P (do eqGuard .eql t x y (.agg (xs.map I).toArray) (.agg (ys.map I).toArray);binOp .eql t (.agg (xs.map I).toArray) (.agg (ys.map I).toArray))=some (.bool (decide (xs=ys))):=by
 have h1:zP P (eqGuard .eql t x y (.agg (xs.map I).toArray) (.agg (ys.map I).toArray))=some ():=by
  unfold eqGuard;simp only[QU,Qk,Gp];rw[zI,yG];simp only[QP];rw[zI,yG];simp only[QP,hg,Qd,Qv];rfl
 rw[zI,h1];simp only[QP];unfold binOp;simp only[];rw[zI];have h2:zP P (Op.equal t (.agg (xs.map I).toArray) (.agg (ys.map I).toArray))=some (decide (xs=ys)):=by
  unfold Op.equal Op.maxDepth;rw[show (10000:Nat)=9999+1 from rfl,Op.equalIn,zI,yV ht];simp only[QP];rw[zI,hs];simp only[QP];have:=zOi (P:=P) (d:=9998) he ha (xs:=xs) (ys:=ys) (by omega) n 0 (by omega);rw[Q6,Q6]at this;rw[<-this,zI,zI];first|rw[Std.Legacy.Range.forIn_eq_forIn_range']|rw[Std.Range.forIn_eq_forIn_range']
  have hsz:(Std.Legacy.Range.size [:n])=n:=by simp[Std.Legacy.Range.size]
  rw[hsz];congr 1;funext a;obtain⟨a,_⟩:=a;cases a<;>rfl
 rw[h2];rfl
noncomputable def zSs (P:Program) (t:TypeId) (n:Nat):Bool:=
 (match P.underlying t with
 |some (.array m e)=>Nat.beq m n&&(match P.underlying e with|some (.int _)=>true|_=>false)&&(match zP P (isAgg e)with|some false=>true|_=>false)&&(match zP P (sizeOf e)with|some 1=>true|_=>false)
 |_=>false)&& !P.eqGuardType P.depth t
theorem zQ0 {t:TypeId} {n:Nat} {xs ys:List Int} {x y:Operand} (h:zSs P t n=true) (hx:xs.length=n) (hy:ys.length=n):
  zP P (do eqGuard .eql t x y (.agg (xs.map I).toArray) (.agg (ys.map I).toArray);binOp .eql t (.agg (xs.map I).toArray) (.agg (ys.map I).toArray))=some (.bool (decide (xs=ys))):=by
 unfold zSs at h;rw[QJ]at h;obtain⟨h,hg⟩:=h;have hg:P.eqGuardType P.depth t=false:=by cases hh:P.eqGuardType P.depth t with|false=>rfl|true=>rw[hh]at hg;cases hg
 split at h
 ·rename_i m e ht;simp only[QJ]at h;obtain⟨⟨⟨h1,h2⟩,h3⟩,h4⟩:=h;have hm:=QL h1;subst hm;split at h2
  ·rename_i kk he;refine zS1 ht he ?_ ?_ hg hx hy
   ·split at h3
    ·assumption
    ·cases h3
   ·split at h4
    ·assumption
    ·cases h4
  ·cases h2
 ·cases h
def zK6 (K:AExit->AFr->AHeap->Prop):AExit->AFr->AHeap->Prop
 | .normal,fr,h=>K .normal fr h
 | .exit i,fr,h=>K (.exit i) fr h
 | .goto _,_,_=>False
 | .ret,fr,h=>K .ret fr h
theorem zH4 {K fr h} (hx:K .ret fr h):zK6 K .ret fr h:=hx
theorem WX.scope0 {b fr h K} (hx:WX P tab b fr h (zK6 K)):WX P tab (.scope b) fr h K:=by
 unfold WX at hx |-;obtain⟨e,fr',h',k,ev⟩:=hx;have run:∀ n,(aex P tab n).exec b fr h=some (e,fr',h')->(∀ l,e≠ .goto l)->Zf (aex P tab n) zGB b b fr h=some (e,fr',h'):=fun n h1 h2=>by
  show Zf (aex P tab n) (4294967295+1) b b fr h=_;rw[Zf,h1];cases e with
  |goto l=>exact absurd rfl (h2 l)
  |_=>rfl
 cases e with
 |goto l=>exact k.elim
 |normal=>exact⟨_,_,_,k,Ev.up (ev.mono fun n e=>by rw[zi];simp only[zb];exact run n e (fun l h=>by cases h))⟩
 |exit i=>exact⟨_,_,_,k,Ev.up (ev.mono fun n e=>by rw[zi];simp only[zb];exact run n e (fun l h=>by cases h))⟩
 |ret=>exact⟨_,_,_,k,Ev.up (ev.mono fun n e=>by rw[zi];simp only[zb];exact run n e (fun l h=>by cases h))⟩
end
def Dep {α:Type} (R:AHeap->List Value->α->Prop) (h:AHeap) (cs:List Value) (a:α) (D:Nat->Prop):Prop:=
 ∀ hx:AHeap,(∀ k o,D k->h.get k=some o->hx.get k=some o)->h.n<=hx.n->R hx cs a
def OwnR {α:Type} (c:Nat) (R:AHeap->List Value->α->Prop) (b:Nat) (h:AHeap) (v:Value) (xs:List α):Prop:=
 (v= .slice none 0 0/\xs=[])\/∃ g cells D,b<=g/\g<h.n/\v= .slice (some ⟨g,0,none⟩) xs.length c/\h.get g=some (.row cells true 0)/\cells.length=xs.length * c/\¬D g/\(∀ k,D k->b<=k/\k<h.n)/\
  ∀ (i:Nat) (a:α),xs[i]?=some a->Dep R h ((cells.drop (i * c)).take c) a D
section
variable {α:Type} {c b:Nat} {R:AHeap->List Value->α->Prop} {h h':AHeap} {v:Value} {xs:List α}
theorem Dep.self {cs:List Value} {a:α} {D:Nat->Prop} (d:Dep R h cs a D):R h cs a:=d h (fun _ _ _ e=>e) (QF _)
theorem Dep.mono {cs:List Value} {a:α} {D E:Nat->Prop} (d:Dep R h cs a D) (hE:∀ k,D k->E k) (hk:∀ k o,D k->h.get k=some o->h'.get k=some o) (hn:h.n<=h'.n):Dep R h' cs a E:=
 fun hx h1 h2=>d hx (fun k o hd e=>h1 k o (hE k hd) (hk k o hd e)) (QW hn h2)
theorem OwnR.nil:OwnR c R b h (.slice none 0 0) ([]:List α):= .inl ⟨rfl,rfl⟩
theorem OwnR.upd (o:OwnR c R b h v xs) (hk:∀ k,b<=k->k<h.n->h'.get k=h.get k) (hn:h.n<=h'.n):OwnR c R b h' v xs:=by
 rcases o with o|⟨g,cells,D,g1,g2,g3,g4,g5,g6,g7,g8⟩
 ·exact .inl o
 ·exact .inr ⟨g,cells,D,g1,QG g2 hn,g3,(hk g g1 g2).trans g4,g5,g6,fun k hd=>⟨(g7 k hd).1,QG (g7 k hd).2 hn⟩,fun i a ha=>(g8 i a ha).mono (fun _ h=>h) (fun k o hd e=>(hk k (g7 k hd).1 (g7 k hd).2).trans e) hn⟩
theorem OwnR.ext (o:OwnR c R b h v xs) (e:Ext h h'):OwnR c R b h' v xs:=o.upd (fun k _ hk=>e.get k hk) e.n
theorem OwnR.dep (o:OwnR c R b h v xs) {hx:AHeap} (hk:∀ k o,b<=k->k<h.n->h.get k=some o->hx.get k=some o) (hn:h.n<=hx.n):SlR c R hx v xs:=by
 rcases o with ⟨rfl,rfl⟩|⟨g,cells,D,g1,g2,rfl,g4,g5,g6,g7,g8⟩
 ·exact SlR.nil
 ·refine⟨cells,⟨g5,.inr ⟨g,0,cells,rfl,ZZ (hk g _ g1 g2 g4),?_,QG g2 hn⟩⟩,fun i a ha=>g8 i a ha hx (fun k o hd e=>hk k o (g7 k hd).1 (g7 k hd).2 e) hn⟩;rw[yo (by omega)];simp[<-g5]
theorem OwnR.sl (o:OwnR c R b h v xs):SlR c R h v xs:=o.dep (fun _ _ _ _ e=>e) (QF _)
theorem zOv {cells cs:List Value} {n i:Nat} (hl:cells.length=n * c) (hc:cs.length=c) (hi:i<n):(((cells++cs).drop (i * c)).take c)=(cells.drop (i * c)).take c:=by
 have h1:i * c+c<=n * c:=by rw[<-Gj];exact Qz _ hi
 rw[List.drop_append,List.take_append_of_le_length];rw[GO];omega
theorem zMs {cells cs:List Value} {n:Nat} (hl:cells.length=n * c) (hc:cs.length=c):(((cells++cs).drop (n * c)).take c)=cs:=by
 rw[List.drop_append,JK (by omega),GT,hl,Nat.sub_self,Q6,Q5 (by omega)]
theorem OwnR.snoc (o:OwnR c R b h v xs) {cs:List Value} {a:α} {Dn:Nat->Prop} {g':Nat} {olds:List Value} (hc:cs.length=c) (d:Dep R h cs a Dn) (hD:∀ k,Dn k->b<=k/\k<h.n) (hv:∀ g n k,v= .slice (some ⟨g,0,none⟩) n k->¬Dn g)
  (hold:∀ g n k,v= .slice (some ⟨g,0,none⟩) n k->h.get g=some (.row olds true 0)) (hnil:v= .slice none 0 0->olds=[])
  (hg:h.n<=g') (hb:b<=g') (hg2:g'<h'.n) (hget:h'.get g'=some (.row (olds++cs) true 0)) (keep:∀ k,b<=k->k<h.n->(∀ n k',v≠ .slice (some ⟨k,0,none⟩) n k')->h'.get k=h.get k):
  OwnR c R b h' (.slice (some ⟨g',0,none⟩) (xs++[a]).length c) (xs++[a]):=by
 rcases o with ⟨rfl,rfl⟩|⟨g,cells,D,g1,g2,rfl,g4,g5,g6,g7,g8⟩
 ·have:=hnil rfl;subst this;refine .inr ⟨g',cs,Dn,hb,hg2,rfl,by simpa using hget,by simp[hc],fun hd=>by have:=(hD _ hd).2;omega,fun k hd=>⟨(hD k hd).1,by have:=(hD k hd).2;omega⟩,fun i x hx=> ?_⟩;have hi:i=0:=by
   have:=(QO.1 hx).1;simp at this;omega
  subst hi;simp at hx;subst hx;rw[Nat.zero_mul,Q6,Q5 (by omega)];exact d.mono (fun _ h=>h) (fun k o hd e=>(keep k (hD k hd).1 (hD k hd).2 (fun _ _ e=>by cases e)).trans e) (by omega)
 ·have:=hold g _ _ rfl;rw[g4]at this;cases this;refine .inr ⟨g',olds++cs,fun k=>D k\/Dn k,hb,hg2,rfl,hget,by rw[QX,QX,Qa,Gj,g5,hc],fun hd=> ?_,fun k hd=> ?_,fun i x hx=> ?_⟩
  ·rcases hd with hd|hd
   ·have:=(g7 _ hd).2;omega
   ·have:=(hD _ hd).2;omega
  ·rcases hd with hd|hd
   ·exact⟨(g7 k hd).1,by have:=(g7 k hd).2;omega⟩
   ·exact⟨(hD k hd).1,by have:=(hD k hd).2;omega⟩
  ·by_cases hi:i<xs.length
   ·rw[Qo hi]at hx;rw[zOv g5 hc hi];refine(g8 i x hx).mono (fun k h=> .inl h) (fun k o hd e=>(keep k (g7 k hd).1 (g7 k hd).2 (fun n k' e2=> ?_)).trans e) (by omega);cases e2;exact g6 hd
   ·rw[Q3 (by omega)]at hx;have hi2:i=xs.length:=by
     have:=(QO.1 hx).1;simp at this;omega
    subst hi2;simp at hx;subst hx;rw[zMs g5 hc];refine d.mono (fun k h=> .inr h) (fun k o hd e=>(keep k (hD k hd).1 (hD k hd).2 (fun n k' e2=> ?_)).trans e) (by omega);exact hv k n k' e2 hd
end
section
variable {P:Program} {tab:Tab} {t:Trie Value} {h:AHeap} {ds:List Deferred} {rd:Option Nat} {l:List AOper} {Q:AFr->AHeap->Prop}
theorem zEs {zero cs:List Value} {v:Value} {c:Nat} (hv:v.cells=cs.toArray) (hc:cs.length=c) (hz:zero.length=c):yx (zV zero 1) [(0,c,v)]=some cs:=by
 have h1:zV zero 1=zero:=by simp[zV]
 have h2:Nat.beq v.cells.size c=true:=by rw[hv];simp[hc]
 have h3:Nat.ble (0+c) zero.length=true:=QH (by omega);rw[h1];simp only[yx,h2,h3,Qu,cond_true,hv];congr 1;simp[zX,hc,hz]
theorem zEn {α:Type} {c b gl:Nat} {R:AHeap->List Value->α->Prop} {h H:AHeap} {v:Value} {xs:List α} {cs:List Value} {a:α} {Dn:Nat->Prop} (o:OwnR c R b h v xs) (hc:cs.length=c) (hc0:0<c) (h1:zN cs=true) (hl:xs.length<=100000) (hbn:b<=h.n)
  (d:Dep R h cs a Dn) (hD:∀ k,Dn k->b<=k/\k<h.n) (hv:∀ g n k,v= .slice (some ⟨g,0,none⟩) n k->¬Dn g) (hH:h.n<=H.n) (hgl:gl<H.n) (hkeep:∀ k,k<h.n->H.get k=h.get k) (hlit:H.get gl=some (.row cs true 0)):
  ∃ v' H',yI c v (.slice (some ⟨gl,0,none⟩) 1 c) H=some (v',H')/\OwnR c R b H' v' (xs++[a])/\H'.n=H.n+1/\(∀ k,k<H.n->(∀ n k',v≠ .slice (some ⟨k,0,none⟩) n k')->H'.get k=H.get k)/\H'.mark=H.mark/\(∀ k∈H'.wr,k∈H.wr\/b<=k)/\
   (H.mark<=b->H'.wr=H.wr)/\(Wf H->Wf H')/\(∃ n k g,v'= .slice (some ⟨g,0,none⟩) n k/\H.n<=g):=by
 obtain⟨y,ys,rfl⟩:∃ y ys,cs=y::ys:=by
  cases cs with
  |nil=>simp at hc;omega
  |cons y ys=>exact⟨y,ys,rfl⟩
 have hsrc:yc c H (.slice (some ⟨gl,0,none⟩) 1 c)=some (y::ys):=by
  have e1:zk H gl=some (y::ys):=ZZ hlit;have e2:cut (y::ys) 0 (1 * c)=some (y::ys):=by rw[yo (by omega)];simp[<-hc]
  have e3:Nat.beq 1 0=false:=rfl;rw[Nat.one_mul]at e2;simp only[yc,e1,e3,Nat.one_mul,e2,Ge,Qs,Qu,cond_true,QR]
 have hdiv:(y::ys).length / c=1:=by rw[hc];exact Nat.div_self hc0
 have hroom:room=4294967296:=rfl;rcases id o with ⟨rfl,rfl⟩|⟨g,cells,D,g1,g2,rfl,g4,g5,g6,g7,g8⟩
 ·have hb1:Nat.ble 1 room=true:=rfl;refine⟨.slice (some ⟨H.n,0,none⟩) 1 c,H.push (.row (y::ys) true 0),?_,?_,rfl,fun k hk _=> ?_,rfl,fun k hk=> .inl hk,fun _=>rfl,fun w k hk=> ?_,⟨_,_,_,rfl,QF _⟩⟩
  ·simp only[yI,hsrc,h1,QU,QR,hdiv,hb1,cond_true];rfl
  ·have:=o.snoc (h':=H.push (.row (y::ys) true 0)) (g':=H.n) (olds:=[]) hc d hD hv (fun g n k e=>by cases e) (fun _=>rfl) hH (QW hbn hH) (JP _) (zS _ _) (fun k _ hk _=>by rw[zO,QD (by omega)];exact hkeep k hk);exact this
  ·rw[zO,QD (by omega)]
  ·have hk:H.n+1<=k:=hk;rw[zO,QD (by omega)];exact w k (by omega)
 ·have hb1:Nat.ble (xs.length+1) room=true:=QH (by omega);have hq:H.get g=some (.row cells true 0):=(hkeep g g2).trans g4;have h2:cut cells 0 (xs.length * c)=some cells:=by rw[yo (by omega)];simp[<-g5]
  have h3:Nat.ble 0 (0+xs.length * c)=true:=QH (QV _);have hcc:Nat.beq c 0=false:=by cases hz:Nat.beq c 0 with
   |false=>rfl
   |true=>have:=QL hz;omega
  have hKn:(H.kill g).n=H.n:=rfl;refine⟨.slice (some ⟨H.n,0,none⟩) (xs.length+1) c,(H.kill g).push (.row (cells++y::ys) true (0 - 0)),?_,?_,rfl,fun k hk hvk=> ?_,rfl,fun k hk=> ?_,fun hm=> ?_,fun w k hk=> ?_,⟨_,_,_,rfl,QF _⟩⟩
  ·simp only[yI,hsrc,h1,QU,QR,hdiv,hb1,hcc,Ge,hq,h2,h3,cond_true,Qs,Qu]
  ·have:=o.snoc (h':=(H.kill g).push (.row (cells++y::ys) true (0 - 0))) (g':=H.n) (olds:=cells) hc d hD hv (fun g n k e=>by cases e;exact g4) (fun e=>by cases e) hH (QW hbn hH) (JP _) (zS (H.kill g) _) (fun k _ hk hvk=>by
    rw[zO,QD (by rw[hKn];omega),yY,QD (fun e=>hvk _ _ (by rw[e]))];exact hkeep k hk)
   rw[QX,Qa]at this;exact this
  ·rw[zO,QD (by rw[hKn];omega),yY,QD (fun e=>hvk _ _ (by rw[e]))]
  ·have hk2:k∈H.log g:=hk;rcases yv hk2 with rfl|h
   ·exact .inr g1
   ·exact .inl h
  ·show H.log g=H.wr;exact Y2 (by omega)
  ·have hk:H.n+1<=k:=hk;rw[zO,QD (by rw[hKn];omega),yY];split
   ·rfl
   ·exact w k (by omega)
end
section
variable {P:Program} {tab:Tab} {m:Nat} {Bad:Nat->Prop} {l:List (AOper×List Nat)} {o:AOper} {un:List Nat} {g:Nat} {fr:AFr} {h h0 h':AHeap} {Q:AFr->AHeap->Prop} {K:AExit->AFr->AHeap->Prop} {t:Trie Value} {ds:List Deferred} {rd:Option Nat}
theorem zT1 {N0 j n:Nat} {d:Option Nat} {agg:Bool} {x:Operand} {v:Value} {un:List Nat} (hv:∃ a n k,v= .slice (some a) n k/\a.block<N0) (hx:WU2 P tab m N0 l g true fr (inC h) Q) (hr:Ope t x (zw v j):=by exact zT):
  uK2 P tab m N0 un t ⟨d,none,.load agg n x⟩ (inC h) l g true Q fr (inC h):=by
 obtain⟨a,n',k',rfl,hb⟩:=hv;refine zCK (fun k hk=> ?_) hx;unfold Ope zw at hr;simp only[zZ,zL,cond_true,hr,QA]at hk;omega
theorem zBU {α:Type} {c i:Nat} {R:AHeap->List Value->α->Prop} {v:Value} {xs:List α} (s:SlR c R h v xs) (hi:i<xs.length):∃ a n k,v= .slice (some a) n k/\a.block<h.n:=by
 obtain⟨cells,⟨h1,⟨h2,_⟩|⟨g,off,row,rfl,_,_,hg⟩⟩,_⟩:=s
 ·omega
 ·exact⟨_,_,_,rfl,hg⟩
theorem zFt {c i n:Nat} {h:AHeap} {v:Value} {cells:List Value} (a:SlC c h v n cells) (hi:i<n):Piece h v (i * c) ((cells.drop (i * c)).take c):=by
 have hlen:cells.length=n * c:=a.1;have hle:i * c+c<=cells.length:=by
  rw[hlen,<-Gj];exact Qz _ hi
 intro P ih t x agg k off r hx hn hr;cases hc:cut ((cells.drop (i * c)).take c) off k with
 |none=>rw[hc]at hr;cases hr
 |some m=>
  rw[hc]at hr;have h1:cut cells (i * c) c=Option.some ((cells.drop (i * c)).take c):=yo hle;exact zEz a hx (zEf h1 hc) hn hr
theorem yB {α:Type} [Inhabited α] {c:Nat} {R:AHeap->List Value->α->Prop} {h:AHeap} {v:Value} {T:List α} {i:Nat} (s:SlR c R h v T) (hi:i<T.length):∃ cs,R h cs (T.getD i default)/\(∀ h',Ext h h'->Piece h' v (i * c) cs/\Piece (inC h') v (i * c) cs)/\zMY v:=by
 have hs:=s.some hi;obtain⟨cells,a,b⟩:=s;refine⟨_,by simpa [List.getD,QB hi]using b i T[i] (QB hi),fun h' e=> ?_,hs⟩;have a':=a.ext e;exact⟨zFt a' hi,zFt (h:=inC h') a' hi⟩
end
section
variable {P:Program} {tab:Tab} {t:Trie Value} {h:AHeap} {ds:List Deferred} {rd:Option Nat} {l:List AOper} {Q:AFr->AHeap->Prop}
theorem WO.apRw {α:Type} {c b d1 d2:Nat} {R:AHeap->List Value->α->Prop} {hB:AHeap} {v w:Value} {xs:List α} {cs zero:List Value} (a:α) (Dn:Nat->Prop) {x y:Operand} (o:OwnR c R b h v xs) (e0:Ext hB h) (hb:hB.n<=b) (hbn:b<=h.n) (hc0:0<c) (hl:xs.length<=100000)
  (d:Dep R h cs a Dn) (hD:∀ k,Dn k->b<=k/\k<h.n) (hv:∀ g n k,v= .slice (some ⟨g,0,none⟩) n k->¬Dn g)
  (k:∀ v' h' lit,Ext hB h'->OwnR c R b h' v' (xs++[a])->h.n<=h'.n->(∀ k,k<h.n->(∀ n k',v≠ .slice (some ⟨k,0,none⟩) n k')->h'.get k=h.get k)->(∀ k∈h'.wr,k∈h.wr\/b<=k)->WO P tab l ⟨(t.set d1 lit).set d2 v',ds,rd⟩ h' Q)
  (hx:Ope t x w:=by exact zT) (hw:w.cells=cs.toArray:=by rfl) (hc:cs.length=c:=by rfl) (h1:zN cs=true:=by rfl) (hz:zero.length=c:=by rfl) (hy:∀ u,Ope (t.set d1 u) y v:=by intro u;exact zT):
  WO P tab (⟨some d1,none,.buildSlice 1 c zero [(0,c,x)]⟩::⟨some d2,none,.append c y (.tmp d1)⟩::l) ⟨t,ds,rd⟩ h Q:=by
 have hx:ev t x=w:=hx;refine WO.op (.slice (some ⟨h.n,0,none⟩) 1 c) (h.push (.row cs true 0)) rfl (by
  simp only[aop,zl,Qh,G4,hx,zEs hw hc hz,QK];rfl) ?_
 obtain⟨v',H',q1,q2,q3,q4,q5,q6,q7,q8,q9⟩:=zEn (H:=h.push (.row cs true 0)) (gl:=h.n) o hc hc0 h1 hl hbn d hD hv (GV _) (JP _) (fun k hk=>by rw[zO,QD (by omega)]) (zS _ _);have hyv:ev (t.set d1 (.slice (some ⟨h.n,0,none⟩) 1 c)) y=v:=hy _;have e1:ev (t.set d1 (.slice (some ⟨h.n,0,none⟩) 1 c)) (.tmp d1)= .slice (some ⟨h.n,0,none⟩) 1 c:=by simp only[ev,z0,Qv]
 refine WO.op v' H' rfl (by simp only[aop,hyv,e1,q1]) (k v' H' _ ?_ q2 (by rw[q3];show h.n<=h.n+1+1;omega) (fun k hk hvk=> ?_) q6)
 ·have hvb:∀ k,k<hB.n->∀ n k',v≠ .slice (some ⟨k,0,none⟩) n k':=fun k hk n k' e=>by
   rcases o with ⟨e2,_⟩|⟨g,_,_,g1,_,e2,_⟩
   ·rw[e2]at e;cases e
   ·rw[e2]at e;cases e;omega
  refine⟨by rw[q3];show hB.n<=h.n+1+1;have:=e0.n;omega,fun k hk=> ?_,fun w=>q8 ?_,q5.trans e0.mark,fun hm=> ?_⟩
  ·have:=e0.n;rw[q4 k (by show k<h.n+1;omega) (hvb k hk),zO,QD (by omega)];exact e0.get k hk
  ·intro k hk;have hk:h.n+1<=k:=hk;rw[zO,QD (by omega)];exact e0.wf w k (by omega)
  ·rw[q7 (by show h.mark<=b;rw[e0.mark];omega)];exact e0.wr hm
 ·rw[q4 k (by show k<h.n+1;omega) hvk,zO,QD (by omega)]
theorem WO.stC0w {x y:Operand} {p v:Value} {cells cs:List Value} {n:Nat} {h0:AHeap} (o:OwnC h0 h p cells) (e0:Ext h0 h) (k:∀ h',Ext h0 h'->OwnC h0 h' p cs->UpdC p h h'->(∀ k∈h'.wr,k∈h.wr\/h0.n<=k)->WO P tab l ⟨t,ds,rd⟩ h' Q)
  (hx:Ope t x p:=by exact zT) (hy:Ope t y v:=by exact zT) (hv:v.cells=cs.toArray:=by rfl) (hn:cs.length=n:=by rfl) (hl:cells.length=n:=by rfl) (h1:zN cs=true:=by rfl):WO P tab (⟨none,none,.store n x y⟩::l) ⟨t,ds,rd⟩ h Q:=by
 obtain⟨g,g1,g2,rfl,g3⟩:=o;have hx:ev t x= .pointer (some ⟨g,0,none⟩):=hx;have hy:ev t y=v:=hy;have e:zX cells 0 cs=cs:=by simp[zX,hn,hl]
 have hst:zY h ⟨g,0,none⟩ cs=some (h.set g (.row cs true 0)):=by
  have h2:Nat.ble (0+cs.length) cells.length=true:=QH (by omega);have h0:Nat.ble 0 0=true:=rfl;simp only[zY,g3,h2,h0,h1,Qu,e];rfl
 have hnn:Nat.beq cs.length n=true:=by rw[hn];exact Ge _
 refine WO.op0 undef (h.set g (.row cs true 0)) rfl ?_ (k _ (e0.set g1 g2 _) ⟨g,g1,g2,rfl,by rw[zR,QI rfl]⟩ ⟨QF _,fun k _ hk=> ?_⟩ fun k hk=> ?_)
 ·simp only[aop,hx,hy,hv,G3,hnn,hst,QK,cond_true]
 ·rw[zR,QD (fun e=>hk (by rw[e]))]
 ·have hk:k∈h.log g:=hk;rcases yv hk with rfl|h
  ·exact .inr g1
  ·exact .inl h
theorem WO.apNw {d:Nat} {x y:Operand} {v w:Value} {xs ys:List Int} {h0:AHeap} (o:OwnN h0 h v xs) (s:SlI h w ys) (e0:Ext h0 h) (hne:ys≠[]) (hr:xs.length+ys.length<=4294967296)
  (k:∀ v' h',Ext h0 h'->OwnN h0 h' v' (xs++ys)->Upd v h h'->(∀ k∈h'.wr,k∈h.wr\/h0.n<=k)->(∀ g n c,v'= .slice (some ⟨g,0,none⟩) n c->h.n<=g)->WO P tab l ⟨t.set d v',ds,rd⟩ h' Q)
  (hx:Ope t x v:=by exact zT) (hy:Ope t y w:=by exact zT):WO P tab (⟨some d,none,.append 1 x y⟩::l) ⟨t,ds,rd⟩ h Q:=by
 have hx:ev t x=v:=hx;have hy:ev t y=w:=hy;have hsrc:=ZT s;have hroom:room=4294967296:=rfl;obtain⟨z,zs,rfl⟩:∃ z zs,ys=z::zs:=by
  cases ys with
  |nil=>exact absurd rfl hne
  |cons z zs=>exact⟨z,zs,rfl⟩
 have hone:zN (I z::zs.map I)=true:=zA2 (z::zs);have hlen:(I z::zs.map I).length / 1=(z::zs).length:=by simp
 rcases o with ⟨rfl,rfl⟩|⟨g,g1,g2,rfl,g3⟩
 ·have h1:Nat.ble (z::zs).length room=true:=QH (by rw[hroom];simpa using hr);refine WO.op (.slice (some ⟨h.n,0,none⟩) (z::zs).length 1) (h.push (.row ((z::zs).map I) true 0)) rfl ?_ (k _ _ (e0.push _) (.inr ⟨h.n,e0.n,by simp[AHeap.push],rfl,zS _ _⟩) ⟨GV _,fun k hk _=> ?_⟩ (fun k hk=> .inl hk) fun g n c e=>by cases e;exact QF _)
  ·simp only[aop,hx,hy,yI,hsrc,Qh,hone,hlen,h1,QU,cond_true,QR];rfl
  ·rw[zO,QD (by omega)]
 ·have h1:Nat.ble (xs.length+(z::zs).length) room=true:=QH (by rw[hroom];exact hr);have h2:cut (xs.map I) 0 (xs.length * 1)=some (xs.map I):=by rw[yo (by simp)];simp[Q5]
  have hn:(h.kill g).n=h.n:=rfl;have h3:Nat.ble 0 (0+xs.length * 1)=true:=QH (QV _);refine WO.op (.slice (some ⟨h.n,0,none⟩) (xs.length+(z::zs).length) 1) ((h.kill g).push (.row (xs.map I++(z::zs).map I) true (0 - 0))) rfl ?_
   (k _ _ ((e0.kill g1).push _) (.inr ⟨h.n,e0.n,by simp[AHeap.push,AHeap.kill],by simp,?_⟩) ⟨GV _,fun k hk hv=> ?_⟩ (fun k hk=> ?_) fun g n c e=>by cases e;exact QF _)
  ·simp only[aop,hx,hy,yI,hsrc,Qh,hone,hlen,h1,g3,h2,h3,QU,cond_true,QR];rfl
  ·have:=zS (h.kill g) (.row (xs.map I++(z::zs).map I) true (0 - 0));rw[hn]at this;rw[this];simp
  ·rw[zO,QD (by rw[hn];omega),yY,QD (fun e=>hv _ _ _ rfl e.symm)]
  ·have hk:k∈h.log g:=hk;rcases yv hk with rfl|h
   ·exact .inr g1
   ·exact .inl h
end
section
variable {P:Program} {tab:Tab} {m N0:Nat} {l:List (AOper×List Nat)} {o:AOper} {g:Nat} {cl:Bool} {fr:AFr} {h h0 h':AHeap} {Q:AFr->AHeap->Prop} {K:AExit->AFr->AHeap->Prop} {x:AOper×List Nat} {t:Trie Value}
theorem zIY (hw:∀ k∈h'.wr,m<=k) (hn:h.n<=h'.n) (hx:K .normal fr (zc h0 h')):uK2 P tab m N0 [] t o (inC h) [] g cl (zB1 K h0) fr h':=⟨⟨hw,hn,.inl rfl⟩,hx⟩
theorem zPr (hw:∀ k∈h'.wr,m<=k) (hn:h.n<=h'.n) (hx:∀ cl',WU2 P tab m N0 (x::l) g cl' fr (inC h') Q):uK2 P tab m N0 [] t o (inC h) (x::l) g cl Q fr h':=⟨⟨hw,hn,.inl rfl⟩,by
 have:=hx (cl&&h'.wr.isEmpty);obtain⟨y,un⟩:=x;unfold WU2 at this |-;exact this⟩
theorem zKm {j n:Nat} {d:Option Nat} {gd:Option (Nat×Bool)} {agg:Bool} {x:Operand} {v:Value} {un:List Nat} (hv:∃ a n k,v= .slice (some a) n k/\a.block<N0) (hx:WU2 P tab m N0 l g true fr (inC h) Q) (hr:Ope t x (zw v j):=by exact zT):
  uK2 P tab m N0 un t ⟨d,gd,.load agg n x⟩ (inC h) l g true Q fr (inC h):=by
 obtain⟨a,n',k',rfl,hb⟩:=hv;refine zCK (fun k hk=> ?_) hx;unfold Ope zw at hr;cases hw:zL t gd with
 |false=>simp only[zZ,hw,QR]at hk;cases hk
 |true=>
  simp only[zZ,hw,cond_true,hr,QA]at hk;omega
theorem zS3 {j n:Nat} {b:Bool} {d:Option Nat} {agg:Bool} {x:Operand} {un:List Nat} (hx:WU2 P tab m N0 l g true fr (inC h) Q) (s:Slot t j (.bool b):=by exact Z1) (hb:b=false:=by exact zFN):
  uK2 P tab m N0 un t ⟨d,some (j,true),.load agg n x⟩ (inC h) l g true Q fr (inC h):=by
 refine zCK (fun k hk=> ?_) hx;unfold Slot at s;subst hb;have hw:zL t (some (j,true))=false:=by simp only[zL,s];rfl
 simp only[zZ,hw,QR]at hk;cases hk
theorem zT8 {j n:Nat} {b:Bool} {d:Option Nat} {agg:Bool} {x:Operand} {un:List Nat} (hx:WU2 P tab m N0 l g true fr (inC h) Q) (s:Slot t j (.bool b):=by exact Z1) (hb:b=true:=by exact zFN):
  uK2 P tab m N0 un t ⟨d,some (j,false),.load agg n x⟩ (inC h) l g true Q fr (inC h):=by
 refine zCK (fun k hk=> ?_) hx;unfold Slot at s;subst hb;have hw:zL t (some (j,false))=false:=by simp only[zL,s];rfl
 simp only[zZ,hw,QR]at hk;cases hk
theorem zTt {j n:Nat} {want:Bool} {d:Option Nat} {agg:Bool} {x:Operand} {un:List Nat} (hx:WU2 P tab m N0 l g true fr (inC h) Q) (s:Slot t j undef:=by exact Z1):
  uK2 P tab m N0 un t ⟨d,some (j,want),.load agg n x⟩ (inC h) l g true Q fr (inC h):=by
 refine zCK (fun k hk=> ?_) hx;unfold Slot at s;have hw:zL t (some (j,want))=false:=by simp only[zL,s];rfl
 simp only[zZ,hw,QR]at hk;cases hk
end
theorem zAR {α:Type} {c i:Nat} {R:AHeap->List Value->α->Prop} {h:AHeap} {v:Value} {l:List α} (s:SlR c R h v l) (hl:0<l.length) (hi:i<=l.length):∃ r,ZL c v (some i) none none=some r/\SlR c R h r (l.drop i):=by
 obtain⟨cells,⟨h1,⟨h2,_⟩|⟨g,off,row,rfl,h3,h4,h5⟩⟩,hR⟩:=s
 ·omega
 have hmul:i * c<=l.length * c:=Qz _ hi;have hlen:(l.drop i).length=l.length - i:=GO ..;have hsub:(l.length - i) * c=l.length * c - i * c:=Nat.sub_mul ..;refine⟨.slice (some ⟨g,off+i * c,none⟩) (l.length - i) c,?_,cells.drop (i * c),⟨by rw[GO,hlen,hsub];omega,.inr ⟨g,off+i * c,row,by rw[hlen],h3,?_,h5⟩⟩,fun j a ha=> ?_⟩
 ·have b1:Nat.ble i l.length=true:=QH hi;have b2:Nat.ble l.length l.length=true:=QH (QF _);simp only[ZL,Gn,Q7,b1,b2,Qs,Qu,cond_true,Ge]
 ·rw[hlen,hsub];obtain⟨c1,c2⟩:=zC7 h4;rw[yo (by omega),c2,List.drop_take,JA]
 ·have hj:j<l.length - i:=by have:=(QO.1 ha).1;omega
  have hja:l[i+j]?=some a:=by rw[GL]at ha;exact ha
  have:=hR (i+j) a hja;rw[JA,show i * c+j * c=(i+j) * c from (Gq ..).symm];exact this
section
variable {α:Type} {c b:Nat} {R:AHeap->List Value->α->Prop}
variable {P:Program} {tab:Tab} {t:Trie Value} {h:AHeap} {ds:List Deferred} {rd:Option Nat} {l:List AOper} {Q:AFr->AHeap->Prop}
end
theorem zEJ {l cs:List Value} {k:Nat} (h:k+cs.length<=l.length) (m:Nat):(zX l k cs)[m]?=if m<k then l[m]? else if m<k+cs.length then cs[m - k]? else l[m]?:=by
 unfold zX;by_cases h1:m<k
 ·rw[QI h1,GC,Qo (by rw[Q1];omega),GD,QI h1]
 ·rw[QD h1,GC,Q3 (by rw[Q1];omega),Q1,Gl (by omega)];by_cases h2:m<k+cs.length
  ·rw[QI h2,Qo (by omega)]
  ·rw[QD h2,Q3 (by omega),GL];congr 1;omega
theorem zLq {l cs:List Value} {k:Nat} (h:k+cs.length<=l.length):(zX l k cs).length=l.length:=by
 unfold zX;simp only[QX,Q1,GO];omega
theorem zDD {l:List Value} {a c m:Nat}:((l.drop a).take c)[m]?=if m<c then l[a+m]? else none:=by
 rw[GD];split
 ·rw[GL]
 ·rfl
theorem zH0 {cells cs:List Value} {n c i j off:Nat} (hl:cells.length=n * c) (hi:i<n) (hj:j<n) (ho:off+cs.length<=c):
  ((zX cells (i * c+off) cs).drop (j * c)).take c=if j=i then zX ((cells.drop (i * c)).take c) off cs else (cells.drop (j * c)).take c:=by
 have hic:i * c+c<=n * c:=by rw[<-Gj];exact Qz _ hi
 have hjc:j * c+c<=n * c:=by rw[<-Gj];exact Qz _ hj
 refine List.ext_getElem? fun m=> ?_;rw[zDD,zEJ (by omega)];by_cases e:j=i
 ·subst e;rw[QI rfl,zEJ (by rw[Q1,GO];omega),zDD];by_cases h1:m<c
  ·rw[QI h1,QI h1];by_cases h2:m<off
   ·rw[QI (show j * c+m<j * c+off by omega),QI h2]
   ·rw[QD (show ¬j * c+m<j * c+off by omega),QD h2];by_cases h3:m<off+cs.length
    ·rw[QI (show j * c+m<j * c+off+cs.length by omega),QI h3];congr 1;omega
    ·rw[QD (show ¬j * c+m<j * c+off+cs.length by omega),QD h3]
  ·rw[QD h1,QD h1,QD (by omega),QD (by omega)]
 ·rw[QD e,zDD];by_cases h1:m<c
  ·rw[QI h1,QI h1];rcases Nat.lt_or_gt_of_ne e with h|h
   ·have:j * c+c<=i * c:=by rw[<-Gj];exact Qz _ h
    rw[QI (show j * c+m<i * c+off by omega)]
   ·have:i * c+c<=j * c:=by rw[<-Gj];exact Qz _ h
    rw[QD (show ¬j * c+m<i * c+off by omega),QD (show ¬j * c+m<i * c+off+cs.length by omega)]
  ·rw[QD h1,QD h1]
section
variable {α:Type} [Inhabited α] {c b:Nat} {R:AHeap->List Value->α->Prop} {h:AHeap} {v:Value} {xs:List α}
theorem zSj {i off:Nat} {cs:List Value} {a:α} (o:OwnR c R b h v xs) (hi:i<xs.length) (ho:off+cs.length<=c) (hR:∀ old hx,R h old (xs.getD i default)->old.length=c->R hx (zX old off cs) a):
  ∃ g row,b<=g/\g<h.n/\v= .slice (some ⟨g,0,none⟩) xs.length c/\h.get g=some (.row row true 0)/\i * c+off+cs.length<=row.length/\∀ H:AHeap,h.n<=H.n->H.get g=some (.row (zX row (i * c+off) cs) true 0)->(∀ k,k<h.n->k≠g->H.get k=h.get k)->OwnR c R b H v (xs.set i a):=by
 rcases o with ⟨_,rfl⟩|⟨g,cells,D,g1,g2,rfl,g4,g5,g6,g7,g8⟩
 ·simp at hi
 have hic:i * c+c<=xs.length * c:=by rw[<-Gj];exact Qz _ hi
 refine⟨g,cells,g1,g2,rfl,g4,by omega,fun H hn hg hk=> ?_⟩;refine .inr ⟨g,_,D,g1,QG g2 hn,by rw[GJ],hg,by rw[zLq (by omega),GJ];exact g5,g6,fun k hd=>⟨(g7 k hd).1,QG (g7 k hd).2 hn⟩,fun j x hx=> ?_⟩;have hj:j<xs.length:=by have:=(QO.1 hx).1;rwa [GJ]at this
 have hkk:∀ k o,D k->h.get k=some o->H.get k=some o:=fun k o hd e=>(hk k (g7 k hd).2 (fun e2=>g6 (e2▸hd))).trans e;rw[zH0 g5 hi hj ho];by_cases e:j=i
 ·subst e;rw[QI rfl];rw[JJ hi]at hx;cases hx;intro hx2 _ _;refine hR _ _ (?_:R h _ _) ?_
  ·have:=(g8 j xs[j] (QB hi)).self;rw[QE,QB hi];exact this
  ·rw[Q1,GO];omega
 ·rw[QD e];rw[List.getElem?_set_ne (fun h=>e h.symm)]at hx;exact(g8 j x hx).mono (fun _ h=>h) hkk hn
theorem zR0 {i off:Nat} {cs:List Value} {a:α} (o:OwnR c R b h v xs) (hi:i<xs.length) (ho:off+cs.length<=c) (h1:zN cs=true) (hR:∀ old hx,R h old (xs.getD i default)->old.length=c->R hx (zX old off cs) a):
  ∃ g row,b<=g/\g<h.n/\v= .slice (some ⟨g,0,none⟩) xs.length c/\zY h ⟨g,i * c+off,none⟩ cs=some (h.set g (.row row true 0))/\∀ H:AHeap,h.n<=H.n->H.get g=some (.row row true 0)->(∀ k,k<h.n->k≠g->H.get k=h.get k)->OwnR c R b H v (xs.set i a):=by
 obtain⟨g,row,g1,g2,g3,g4,g5,g6⟩:=zSj o hi ho hR;refine⟨g,_,g1,g2,g3,?_,g6⟩;have h2:Nat.ble (i * c+off+cs.length) row.length=true:=QH g5;have h3:Nat.ble 0 (i * c+off)=true:=QH (QV _);simp only[zY,g4,h2,h3,h1,Qs,Qu,cond_true]
variable {P:Program} {tab:Tab} {t:Trie Value} {ds:List Deferred} {rd:Option Nat} {l:List AOper} {Q:AFr->AHeap->Prop}
theorem WU2.stR {hB hS X:AHeap} {N0 m g:Nat} {cl:Bool} {i off n:Nat} {cs:List Value} {x y:Operand} {u:Value} {K:AExit->AFr->AHeap->Prop} (a:α) (o:OwnR c R b X v xs) (e0:Ext hB hS) (hm:hS.mark<=hB.n) (hX:zc hS X=hS) (hb:hB.n<=b) (hi:i<xs.length) (hR:∀ old hx,R X old (xs.getD i default)->old.length=c->R hx (zX old off cs) a)
  (k:∀ h',Ext hB h'->OwnR c R b h' v (xs.set i a)->h'.n=hS.n->(∀ k,k<hS.n->(∀ n k',v≠ .slice (some ⟨k,0,none⟩) n k')->h'.get k=hS.get k)->K .normal ⟨t,ds,rd⟩ h')
  (hx:Ope t x (zw v (i * c+off)):=by exact zT) (hy:Ope t y u:=by exact zT) (hu:u.cells=cs.toArray:=by rfl) (hn:cs.length=n:=by rfl) (ho:off+cs.length<=c:=by decide) (h1:zN cs=true:=by rfl) (hm0:m=hS.mark:=by rfl):
  WU2 P tab m N0 [(⟨none,none,.store n x y⟩,[])] g cl ⟨t,ds,rd⟩ (inC X) (zB1 K hS):=by
 subst hm0;obtain⟨q,row,q1,q2,rfl,hst,hown⟩:=zR0 o hi ho h1 hR;have hx:ev t x= .pointer (some ⟨q,0+(i * c+off),none⟩):=hx;rw[Q4]at hx;have hy:ev t y=u:=hy;have hnn:Nat.beq cs.length n=true:=by rw[hn];exact Ge _
 have gX:∀ c,X.get c=hS.get c:=fun c=>by have:=congrArg (fun h:AHeap=>h.get c) hX;exact this
 have nX:X.n=hS.n:=by have:=congrArg AHeap.n hX;exact this
 rw[WU2,QD (show ¬Nat.beq (zF (AOp.store n x y)) 3=true from Bool.noConfusion)];have hst':zY (inC (inC X)) ⟨q,i * c+off,none⟩ cs=some ((inC (inC X)).set q (.row row true 0)):=by
  have e1:(inC (inC X)).get q=X.get q:=rfl;unfold zY at hst |-;rw[e1];cases hq:X.get q with
  |none=>rw[hq]at hst;cases hst
  |some o=>
   rw[hq]at hst;cases o with
   |row cells own lo=>
    cases own with
    |false=>cases hst
    |true=>
     simp only at hst |-;cases hbb:(Nat.ble (i * c+off+cs.length) cells.length&&Nat.ble lo (i * c+off)&&Option.isNone (none:Option _)&&zN cs)with
     |false=>rw[hbb]at hst;cases hst
     |true=>
      rw[hbb]at hst;simp only[cond_true,QA]at hst |-;have:=congrArg (fun H:AHeap=>H.get q) hst;simp only[zR,Qv,QA]at this;rw[this]
   |_=>cases hst
 refine WO.op0 undef ((inC (inC X)).set q (.row row true 0)) rfl (by
  simp only[aop,hx,hy,hu,G3,hnn,hst',QK,cond_true]) ?_
 refine WO.nil ⟨⟨fun k hk=> ?_,QF _,.inl rfl⟩,?_⟩
 ·have hk2:k∈(inC (inC X)).log q:=hk;rcases yv hk2 with rfl|hk3
  ·omega
  ·cases hk3
 have get2:∀ k,(zc hS ((inC (inC X)).set q (.row row true 0))).get k=if k=q then some (.row row true 0) else hS.get k:=fun k=>by
  have e1:((inC (inC X)).set q (.row row true 0)).get k=if k=q then some (.row row true 0) else (inC (inC X)).get k:=zR ..;refine e1.trans ?_;split
  ·rfl
  ·exact gX k
 refine k (zc hS ((inC (inC X)).set q (.row row true 0))) ?_ (hown _ (QF _) (by rw[get2,QI rfl]) (fun k _ hk=>by rw[get2,QD hk,gX])) nX (fun c hc hv=>by rw[get2,QD (fun e=>hv _ _ (by rw[e]))]);refine⟨by show hB.n<=X.n;rw[nX];exact e0.n,fun c hc=>by rw[get2,QD (by omega)];exact e0.get c hc,fun w c hc=> ?_,e0.mark,fun hmk=>e0.wr hmk⟩;have hc:X.n<=c:=hc;rw[get2,QD (by omega)];exact e0.wf w c (by omega)
end
section
variable {P:Program} {tab:Tab} {t:Trie Value} {h:AHeap} {ds:List Deferred} {rd:Option Nat} {l:List AOper} {Q:AFr->AHeap->Prop}
end
def setM (a b:Int):List (Int×Int)->List (Int×Int)
 |[]=>[(a,b)]
 |(k,v)::es=>if a == k then (k,b)::es else (k,v)::setM a b es
def zBY (a:Int):List (Int×Int)->List (Int×Int)
 |[]=>[]
 |(k,v)::es=>if a == k then es else (k,v)::zBY a es
theorem zFz {a b:Int}:∀ {es:List (Int×Int)},es.lookup a=none->setM a b es=es++[(a,b)]
 |[],_=>rfl
 |(k,v)::es,h=>by
  rw[GZ]at h;split at h
  ·cases h
  ·rename_i hk;rw[setM,hk];simp only[Qk,Gp,List.cons_append];rw[zFz h]
theorem zGL {a:Int}:∀ {es:List (Int×Int)},es.lookup a=none->zBY a es=es
 |[],_=>rfl
 |(k,v)::es,h=>by
  rw[GZ]at h;split at h
  ·cases h
  ·rename_i hk;rw[zBY,hk];simp only[Qk,Gp];rw[zGL h]
theorem zEy {n v:Int}:∀ {es':List MapEntry} {es:List (Int×Int)} (i:Nat),es'.map (fun e=>(e.key,e.val))=es.map (fun e=>(I e.1,I e.2))->es.lookup n=some v->
  ∃ j,Zh (I n) es' i=some (some (i+j,I v))/\(∀ b:Int,(Zo (I b) es' j).map (fun e=>(e.key,e.val))=(setM n b es).map fun e=>(I e.1,I e.2))/\(zAe es' j).map (fun e=>(e.key,e.val))=(zBY n es).map fun e=>(I e.1,I e.2)
 |[],[],_,_,hl=>by cases hl
 |[],_::_,_,h,_=>by cases h
 |_::_,[],_,h,_=>by cases h
 |e::es',(k,w)::es,i,h,hl=>by
  simp only[Qh,List.cons.injEq,QC]at h;rw[GZ]at hl;split at hl
  ·rename_i hk;cases hl;have hke:n=k:=eq_of_beq hk;have:zAZ (I n) e.key=some true:=by rw[h.1.1];simp only[zAZ,Qv];rw[hk]
   refine⟨0,by simp only[Zh,this,h.1.2,Nat.add_zero],fun b=> ?_,?_⟩
   ·simp only[Zo,setM,hk,Qv,Qh,h.1.1,h.2]
   ·simp only[zAe,zBY,hk,Qv,h.2]
  ·rename_i hk;have:zAZ (I n) e.key=some false:=by rw[h.1.1];simp only[zAZ,Qv];rw[hk]
   obtain⟨j,hj,hs,hd⟩:=zEy (i+1) h.2 hl;refine⟨j+1,by simp only[Zh,this,hj];congr 3;omega,fun b=> ?_,?_⟩
   ·simp only[Zo,setM,hk,Qk,Gp,Qh,h.1.1,h.1.2,hs b]
   ·simp only[zAe,zBY,hk,Qk,Gp,Qh,h.1.1,h.1.2,hd]
section
variable {P:Program} {tab:Tab} {t:Trie Value} {h h0:AHeap} {ds:List Deferred} {rd:Option Nat} {l:List AOper} {Q:AFr->AHeap->Prop}
theorem WO.upM {m kx vx:Operand} {mv:Value} {a b:Int} {es:List (Int×Int)} (o:OwnM h0 h mv es) (e0:Ext h0 h) (k:∀ h',Ext h0 h'->OwnM h0 h' mv (setM a b es)->zE6 mv h h'->WO P tab l ⟨t,ds,rd⟩ h' Q)
  (hm:Ope t m mv:=by exact zT) (hk:Ope t kx (I a):=by exact zT) (hv:Ope t vx (I b):=by exact zT):WO P tab (⟨none,none,.update m kx vx⟩::l) ⟨t,ds,rd⟩ h Q:=by
 have hm:ev t m=mv:=hm;have hk:ev t kx=I a:=hk;have hv:ev t vx=I b:=hv;cases hl:es.lookup a with
 |none=>rw[zFz hl]at k;exact WO.updateNew hm hk hv o e0 hl k
 |some w=>
  obtain⟨g,c,es',g1,g2,rfl,g4,g5⟩:=o;obtain⟨j,hj,hs,_⟩:=zEy 0 g5 hl;rw[Q4]at hj;refine WO.op0 undef (h.set g (.map (Zo (I b) es' j) c)) rfl (by simp only[aop,hm,hk,hv,g4,hj]) (k _ (e0.set g1 g2 _) ⟨g,c,_,g1,g2,rfl,by rw[zR,QI rfl],hs b⟩
   ⟨QF _,fun q _ hq=>by rw[zR,QD (fun e=>hq (by rw[e]))]⟩)
theorem WO.dlM {m kx:Operand} {mv:Value} {a:Int} {es:List (Int×Int)} (o:OwnM h0 h mv es) (e0:Ext h0 h) (k:∀ h',Ext h0 h'->OwnM h0 h' mv (zBY a es)->zE6 mv h h'->WO P tab l ⟨t,ds,rd⟩ h' Q)
  (hm:Ope t m mv:=by exact zT) (hk:Ope t kx (I a):=by exact zT):WO P tab (⟨none,none,.delete m kx⟩::l) ⟨t,ds,rd⟩ h Q:=by
 have hm:ev t m=mv:=hm;have hk:ev t kx=I a:=hk;obtain⟨g,c,es',g1,g2,rfl,g4,g5⟩:=o;cases hl:es.lookup a with
 |none=>
  refine WO.op0 (.tuple #[]) (h.set g (.map es' c)) rfl (by simp only[aop,hm,hk,g4,Yg 0 g5 hl]) (k _ (e0.set g1 g2 _) ⟨g,c,_,g1,g2,rfl,by rw[zR,QI rfl],by rw[zGL hl];exact g5⟩
   ⟨QF _,fun q _ hq=>by rw[zR,QD (fun e=>hq (by rw[e]))]⟩)
 |some w=>
  obtain⟨j,hj,_,hd⟩:=zEy 0 g5 hl;rw[Q4]at hj;refine WO.op0 (.tuple #[]) (h.set g (.map (zAe es' j) c)) rfl (by simp only[aop,hm,hk,g4,hj]) (k _ (e0.set g1 g2 _) ⟨g,c,_,g1,g2,rfl,by rw[zR,QI rfl],hd⟩
   ⟨QF _,fun q _ hq=>by rw[zR,QD (fun e=>hq (by rw[e]))]⟩)
theorem WO.clM {m:Operand} {mv:Value} {es:List (Int×Int)} (o:OwnM h0 h mv es) (e0:Ext h0 h) (k:∀ h',Ext h0 h'->OwnM h0 h' mv []->zE6 mv h h'->WO P tab l ⟨t,ds,rd⟩ h' Q)
  (hm:Ope t m mv:=by exact zT):WO P tab (⟨none,none,.clear m⟩::l) ⟨t,ds,rd⟩ h Q:=by
 have hm:ev t m=mv:=hm;obtain⟨g,c,es',g1,g2,rfl,g4,g5⟩:=o;exact WO.op0 (.tuple #[]) (h.set g (.map [] c)) rfl (by simp only[aop,hm,g4]) (k _ (e0.set g1 g2 _) ⟨g,c,_,g1,g2,rfl,by rw[zR,QI rfl],rfl⟩
  ⟨QF _,fun q _ hq=>by rw[zR,QD (fun e=>hq (by rw[e]))]⟩)
theorem WO.lkM {d:Nat} {m kx:Operand} {mv:Value} {a:Int} {z:Value} {es:List (Int×Int)} (o:OwnM h0 h mv es) (k:WO P tab l ⟨t.set d (match es.lookup a with|some v=> .tuple #[I v,.bool true]|none=> .tuple #[z,.bool false]),ds,rd⟩ h Q)
  (hm:Ope t m mv:=by exact zT) (hk:Ope t kx (I a):=by exact zT):WO P tab (⟨some d,none,.lookup true z m kx⟩::l) ⟨t,ds,rd⟩ h Q:=WO.lookup2 hm hk o k
theorem WO.lnM {d:Nat} {m:Operand} {mv:Value} {es:List (Int×Int)} (o:OwnM h0 h mv es) (k:WO P tab l ⟨t.set d (I es.length),ds,rd⟩ h Q) (hm:Ope t m mv:=by exact zT):WO P tab (⟨some d,none,.lenMap m⟩::l) ⟨t,ds,rd⟩ h Q:=by
 have hm:ev t m=mv:=hm;obtain⟨g,c,es',g1,g2,rfl,g4,g5⟩:=o;refine WO.op _ h rfl ?_ k;have:es'.length=es.length:=by simpa using congrArg List.length g5
 simp only[aop,hm,g4,this]
end
theorem zIQ {a b c:Int}:∀ {es:List (Int×Int)},(setM a b es).lookup c=if c=a then some b else es.lookup c
 |[]=>by
  rw[setM,GZ];by_cases h:c=a
  ·subst h;simp
  ·rw[QD h,beq_eq_false_iff_ne.2 h]
 |(k,v)::es=>by
  unfold setM;by_cases hk:a=k
  ·subst hk;simp only[JM,Qv,GZ];by_cases h:c=a
   ·subst h;simp
   ·rw[QD h,beq_eq_false_iff_ne.2 h]
  ·rw[QD (by simpa using hk),GZ,GZ,zIQ];by_cases h:c=k
   ·subst h;have hca:¬c=a:=fun e=>hk e.symm;simp[hca]
   ·rw[beq_eq_false_iff_ne.2 h]
def Zj (es:List (Int×Int)):Prop:=(es.map (·.1)).Nodup
theorem look_mem {c:Int}:∀ {es:List (Int×Int)},es.lookup c≠none↔c∈es.map (·.1)
 |[]=>by simp
 |(k,v)::es=>by
  rw[GZ,Qh,Qj];by_cases h:c=k
  ·subst h;simp
  ·rw[beq_eq_false_iff_ne.2 h];exact look_mem.trans ⟨.inr,fun q=>q.resolve_left h⟩
theorem zC2 {a b c:Int} (es:List (Int×Int)):c∈(setM a b es).map (·.1)↔c=a\/c∈es.map (·.1):=by
 rw[<-look_mem,<-look_mem,zIQ];by_cases h:c=a
 ·rw[QI h];exact⟨fun _=> .inl h,fun _=>by simp⟩
 ·rw[QD h];exact⟨.inr,fun q=>q.resolve_left h⟩
theorem zDG {a b:Int}:∀ {es:List (Int×Int)},Zj es->Zj (setM a b es)
 |[],_=>by unfold Zj setM;simp
 |(k,v)::es,h=>by
  unfold Zj at *;rw[Qh,G7]at h;unfold setM;by_cases hk:a=k
  ·subst hk;simp only[JM,Qv,Qh,G7];exact h
  ·rw[QD (by simpa using hk),Qh,G7];exact⟨fun hm=>(zC2 es).1 hm |>.elim (fun e=>hk e.symm) h.1,zDG h.2⟩
theorem zC0 {a c:Int}:∀ {es:List (Int×Int)},Zj es->(c∈(zBY a es).map (·.1)↔c≠a/\c∈es.map (·.1))
 |[],_=>by simp[zBY]
 |(k,v)::es,h=>by
  unfold Zj at h;rw[Qh,G7]at h;unfold zBY;by_cases hk:a=k
  ·subst hk;simp only[JM,Qv,Qh,Qj];constructor
   ·intro hm;exact⟨fun e=>by subst e;exact h.1 hm,.inr hm⟩
   ·rintro⟨h1,h2|h2⟩
    ·exact absurd h2 h1
    ·exact h2
  ·rw[QD (by simpa using hk),Qh,Qj,Qh,Qj,zC0 h.2];constructor
   ·rintro(e|⟨h1,h2⟩)
    ·subst e;exact⟨fun e=>hk e.symm,.inl rfl⟩
    ·exact⟨h1,.inr h2⟩
   ·rintro⟨h1,h2|h2⟩
    ·exact .inl h2
    ·exact .inr ⟨h1,h2⟩
theorem zGI {a:Int}:∀ {es:List (Int×Int)},Zj es->Zj (zBY a es)
 |[],_=>by unfold Zj zBY;simp
 |(k,v)::es,h=>by
  have h0:=h;unfold Zj at h;rw[Qh,G7]at h;unfold zBY;by_cases hk:a=k
  ·subst hk;simp only[JM,Qv];exact h.2
  ·rw[QD (by simpa using hk)];unfold Zj;rw[Qh,G7];exact⟨fun hm=>h.1 ((zC0 h.2).1 hm).2,zGI h.2⟩
section
variable {P:Program} {tab:Tab} {N0 m g:Nat} {cl:Bool} {t:Trie Value} {ds:List Deferred} {rd:Option Nat} {K:AExit->AFr->AHeap->Prop}
theorem WU2.alE {hS X:AHeap} {d n:Nat} {y:Operand} {v:Value} {zero cs:List Value} (eX:Ext (inC (zC 1 hS)) X) (hm:hS.mark<=hS.n) (k:∀ H p,Ext hS H->OwnC hS H p cs->K .normal ⟨t.set d p,ds,rd⟩ H)
  (hy:∀ p,Ope (t.set d p) y v:=by intro p;exact zT) (hv:v.cells=cs.toArray:=by rfl) (hz:zero.length=n:=by rfl) (hn:cs.length=n:=by rfl) (h1:zN cs=true:=by rfl) (hm0:m=hS.mark:=by rfl) (hg0:g=hS.n:=by rfl):
  WU2 P tab m N0 [(⟨some d,none,.alloc zero⟩,[]),(⟨none,none,.store n (.tmp d) y⟩,[])] g cl ⟨t,ds,rd⟩ (inC X) (zB1 K hS):=by
 subst hm0 hg0;have hlt:hS.n<X.n:=eX.n;refine WU2.al2 hm hlt ?_ (hy _) hv hz hn h1;have e6:=zIl (o:= .row zero true 0) (o':= .row cs true 0) (k:=0) eX;have o6:=zIi (cs:=cs) (o:= .row zero true 0) eX;exact k _ _ e6 o6
theorem WU2.mk {h:AHeap} {d:Nat} {gd:Option (Nat×Bool)} {op:AOp} {ob:AObj} {f:Nat->Value} {l:List (AOper×List Nat)} {Q:AFr->AHeap->Prop} (hm:m<=g) (hmade:ye t op=some (ob,f)) (hx:WU2 P tab m N0 l (g+1) false ⟨t.set d (f g),ds,rd⟩ ((inC h).lay g ob) Q) (hk:Nat.beq (zF op) 3=true:=by rfl) (hw:zL t gd=true:=by rfl):
  WU2 P tab m N0 ((⟨some d,gd,op⟩,[])::l) g cl ⟨t,ds,rd⟩ (inC h) Q:=by
 rw[WU2,QI hk];exact⟨rfl,.inl ⟨hw,hm,ob,f,hmade,hx⟩⟩
theorem WU2.no {h:AHeap} {d j:Nat} {b want:Bool} {op:AOp} {l:List (AOper×List Nat)} {Q:AFr->AHeap->Prop} (hx:WU2 P tab m N0 l (g+1) cl ⟨t.set d undef,ds,rd⟩ (inC h) Q) (hk:Nat.beq (zF op) 3=true:=by rfl) (s:Slot t j (.bool b):=by exact Z1) (hb:(b == want)=false:=by rfl):
  WU2 P tab m N0 ((⟨some d,some (j,want),op⟩,[])::l) g cl ⟨t,ds,rd⟩ (inC h) Q:=by
 rw[WU2,QI hk];have s:zB t j= .bool b:=s;exact⟨rfl,.inr ⟨by simp only[zL,s,hb],hx⟩⟩
theorem zNP {j:Nat} {b want:Bool} (s:Slot t j (.bool b)) (hb:(b == want)=true):zL t (some (j,want))=true:=by
 have s:zB t j= .bool b:=s;simp only[zL,s,hb]
theorem WU2.inC {h:AHeap} {fr:AFr} {x:AOper×List Nat} {l:List (AOper×List Nat)} {Q:AFr->AHeap->Prop} (hx:WU2 P tab m N0 (x::l) g cl fr (Am.inC h) Q):WU2 P tab m N0 (x::l) g cl fr h Q:=by
 obtain⟨o,un⟩:=x;unfold WU2 at hx |-;exact hx
theorem zQk (h:AHeap) (g:Nat) (o:AObj) (j:Nat):((Am.inC h).lay g o).get j=if j=g then some o else h.get j:=za _ _ _ _
theorem WU2.mkG {X:AHeap} {d:Nat} {gd:Option (Nat×Bool)} {op:AOp} {ob:AObj} {f:Nat->Value} {x:AOper×List Nat} {l:List (AOper×List Nat)} {Q:AFr->AHeap->Prop} (hm:m<=g) (hmade:ye t op=some (ob,f))
  (k:∀ X',X'.n=X.n->(∀ j,X'.get j=if j=g then some ob else X.get j)->WU2 P tab m N0 (x::l) (g+1) false ⟨t.set d (f g),ds,rd⟩ (Am.inC X') Q) (hk:Nat.beq (zF op) 3=true) (hw:zL t gd=true:=by rfl):WU2 P tab m N0 ((⟨some d,gd,op⟩,[])::x::l) g cl ⟨t,ds,rd⟩ (Am.inC X) Q:=
 WU2.mk hm hmade (WU2.inC (k _ rfl fun j=>zQk X g ob j)) hk hw
theorem WU2.mkBl {X:AHeap} {d n:Nat} {gd:Option (Nat×Bool)} {zero:List Value} {parts:List (Nat×Nat×Operand)} {vs:List (Nat×Nat×Value)} {x:AOper×List Nat} {l:List (AOper×List Nat)} {Q:AFr->AHeap->Prop} (xs:List Int) (hm:m<=g)
  (k:∀ X',X'.n=X.n->(∀ j,X'.get j=if j=g then some (.row (xs.map I) true 0) else X.get j)->WU2 P tab m N0 (x::l) (g+1) false ⟨t.set d (.slice (some ⟨g,0,none⟩) xs.length 1),ds,rd⟩ (Am.inC X') Q)
  (hp:Parts t parts vs:=by (repeat (apply Parts.cons;(exact zJ)));exact Parts.nil) (hn:xs.length=n:=by rfl) (hf:yx (zV zero n) vs=some (xs.map I):=by rfl) (hw:zL t gd=true:=by first|rfl|exact zNP Z1 rfl):
  WU2 P tab m N0 ((⟨some d,gd,.buildSlice n 1 zero parts⟩,[])::x::l) g cl ⟨t,ds,rd⟩ (Am.inC X) Q:=by
 subst hn;have hp:zl t parts=vs:=hp;exact WU2.mkG (f:=fun g=> .slice (some ⟨g,0,none⟩) xs.length 1) hm (by simp only[ye,hp,hf,QK]) k rfl hw
theorem WU2.mkSl {X:AHeap} {d c n:Nat} {zero:List Value} {x y:Operand} {o:AOper×List Nat} {l:List (AOper×List Nat)} {Q:AFr->AHeap->Prop} (hm:m<=g) (hr:n<=100000)
  (k:∀ X',X'.n=X.n->(∀ j,X'.get j=if j=g then some (.row (zV zero n) true 0) else X.get j)->WU2 P tab m N0 (o::l) (g+1) false ⟨t.set d (.slice (some ⟨g,0,none⟩) n c),ds,rd⟩ (Am.inC X') Q) (hx:Ope t x (I (n:Int)):=by exact zT) (hy:Ope t y (I (n:Int)):=by exact zT):
  WU2 P tab m N0 ((⟨some d,none,.mkSlice c zero x y⟩,[])::o::l) g cl ⟨t,ds,rd⟩ (Am.inC X) Q:=by
 have hx:ev t x=I (n:Int):=hx;have hy:ev t y=I (n:Int):=hy;have hn:asN (I (n:Int))=some n:=rfl;have h1:Nat.ble n room=true:=QH (by have:room=4294967296:=rfl;omega);have h2:Nat.ble n n=true:=QH (QF _);exact WU2.mkG (f:=fun g=> .slice (some ⟨g,0,none⟩) n c) hm (by simp only[ye,hx,hy,hn,h1,h2,Qu,cond_true]) k rfl
theorem WU2.mkMp {X:AHeap} {d:Nat} {o:AOper×List Nat} {l:List (AOper×List Nat)} {Q:AFr->AHeap->Prop} (hm:m<=g)
  (k:∀ X',X'.n=X.n->(∀ j,X'.get j=if j=g then some (.map [] 0) else X.get j)->WU2 P tab m N0 (o::l) (g+1) false ⟨t.set d (.map (some g)),ds,rd⟩ (Am.inC X') Q):
  WU2 P tab m N0 ((⟨some d,none,.mkMap⟩,[])::o::l) g cl ⟨t,ds,rd⟩ (Am.inC X) Q:=WU2.mkG (f:=fun g=> .map (some g)) hm rfl k rfl
theorem WU2.mkBx {X:AHeap} {d:Nat} {x:Operand} {v:Value} {cs:List Value} {o:AOper×List Nat} {l:List (AOper×List Nat)} {Q:AFr->AHeap->Prop} (hm:m<=g)
  (k:∀ X',X'.n=X.n->(∀ j,X'.get j=if j=g then some (.row cs true 0) else X.get j)->WU2 P tab m N0 (o::l) (g+1) false ⟨t.set d (.pointer (some ⟨g,0,none⟩)),ds,rd⟩ (Am.inC X') Q) (hx:Ope t x v:=by exact zT) (hv:v.cells.toList=cs:=by rfl):
  WU2 P tab m N0 ((⟨some d,none,.box x⟩,[])::o::l) g cl ⟨t,ds,rd⟩ (Am.inC X) Q:=by
 have hx:ev t x=v:=hx;subst hv;exact WU2.mkG (f:=fun g=> .pointer (some ⟨g,0,none⟩)) hm (by simp only[ye,hx]) k rfl
end
theorem zMl {h:AHeap} {q off:Nat} {row cs:List Value} (hq:h.get q=some (.row row true 0)) (hl:off+cs.length<=row.length) (h1:zN cs=true):zY h ⟨q,off,none⟩ cs=some (h.set q (.row (zX row off cs) true 0)):=by
 have h2:Nat.ble (off+cs.length) row.length=true:=QH hl;have h3:Nat.ble 0 off=true:=QH (QV _);simp only[zY,hq,h2,h3,h1,Qs,Qu,cond_true]
section
variable {P:Program} {tab:Tab} {t:Trie Value} {ds:List Deferred} {rd:Option Nat}
variable {m N0 g:Nat} {cl:Bool} {K:AExit->AFr->AHeap->Prop} {hS X:AHeap} {q off n:Nat} {row cs:List Value} {x y:Operand} {u:Value}
section
variable {α:Type} [Inhabited α] {R:AHeap->List Value->α->Prop} {c b i:Nat} {v:Value} {xs:List α} {a:α}
end
theorem zHZ {c g off len n:Nat} (hn:n<=len):ZL c (.slice (some ⟨g,off,none⟩) len c) (some n) none none=some (.slice (some ⟨g,off+n * c,none⟩) (len - n) c):=by
 have b1:Nat.ble n len=true:=QH hn;have b2:Nat.ble len len=true:=QH (QF _);simp only[ZL,Gn,Q7,b1,b2,Qs,Qu,cond_true,Ge]
theorem WO.mkS {h:AHeap} {Q:AFr->AHeap->Prop} {l:List AOper} {d c n:Nat} {zero:List Value} (hr:n<=100000) (k:∀ h',Ext h h'->h'.n=h.n+1->h'.get h.n=some (.row (zV zero n) true 0)->WO P tab l ⟨t.set d (.slice (some ⟨h.n,0,none⟩) n c),ds,rd⟩ h' Q)
  (hx:Ope t x (I (n:Int)):=by exact zT) (hy:Ope t y (I (n:Int)):=by exact zT):WO P tab (⟨some d,none,.mkSlice c zero x y⟩::l) ⟨t,ds,rd⟩ h Q:=by
 have h1:Nat.ble n room=true:=QH (by have:room=4294967296:=rfl;omega);have h2:Nat.ble n n=true:=QH (QF _);have hx:ev t x=I (n:Int):=hx;have hy:ev t y=I (n:Int):=hy;have hn:asN (I (n:Int))=some n:=rfl;exact WO.op _ _ rfl (by simp only[aop,hx,hy,hn,h1,h2,Qu,cond_true]<;>rfl) (k _ (Zv _ _) rfl (zS _ _))
end
section
variable {P:Program} {tab:Tab} {t:Trie Value} {ds:List Deferred} {rd:Option Nat}
variable {q off n:Nat} {row:List Value} {x y:Operand}
theorem WO.cpM {h:AHeap} {Q:AFr->AHeap->Prop} {l:List AOper} {d c k m:Nat} {w:Value} {ys:List Value} (hq:h.get q=some (.row row true 0)) (s:SlC c h w k ys) (hc:0<c) (hk:min k n=m) (hl:off+m * c<=row.length) (h1:zN ys=true)
  (hX:∀ h',h'.n=h.n->(∀ j,j≠q->h'.get j=h.get j)->h'.get q=some (.row (zX row off (ys.take (m * c))) true 0)->(Wf h->Wf h')->h'.mark=h.mark->(h.mark<=q->h'.wr=h.wr)->(∀ j∈h'.wr,j=q\/j∈h.wr)->WO P tab l ⟨t.set d (I m),ds,rd⟩ h' Q)
  (hx:Ope t x (.slice (some ⟨q,off,none⟩) n c):=by exact zT) (hy:Ope t y w:=by exact zT):WO P tab (⟨some d,none,.copy c x y⟩::l) ⟨t,ds,rd⟩ h Q:=by
 have hx:ev t x=_:=hx;have hy:ev t y=_:=hy;have hs:=ZT s;have hlen:ys.length / c=k:=by rw[s.1];exact Nat.mul_div_cancel _ hc
 have hmin:min (ys.length / c) n=m:=by rw[hlen];exact hk
 have hml:(ys.take (m * c)).length=m * c:=by
  rw[Q1,s.1];have:m * c<=k * c:=Qz _ (by omega);omega
 by_cases h0:m=0
 ·subst h0;refine WO.op (I (0:Nat)) h rfl ?_ (hX h rfl (fun _ _=>rfl) ?_ id rfl (fun _=>rfl) fun j hj=> .inr hj)
  ·simp only[aop,hx,hy,hs,hmin];rfl
  ·rw[hq];simp[zX]
 ·have hb:Nat.beq m 0=false:=by cases hb:Nat.beq m 0 with
   |false=>rfl
   |true=>exact absurd (QL hb) h0
  have h2:zN (ys.take (m * c))=true:=by
   unfold zN at *;rw[QY]at *;exact fun a ha=>h1 a (JR ha)
  refine WO.op (I m) (h.set q (.row (zX row off (ys.take (m * c))) true 0)) rfl ?_ (hX _ rfl (fun j hj=>by rw[zR,QD hj]) (by rw[zR,QI rfl]) (fun wf j hj=> ?_) rfl (fun hm=>Y2 hm) fun j hj=>yv hj)
  ·simp only[aop,hx,hy,hs,hmin,hb,QR,Ge,Qs,Qu,cond_true,zMl hq (by rw[hml];exact hl) h2,QK]
  ·have hj:h.n<=j:=hj;by_cases e:j=q
   ·subst e;have:=wf.lt hq;omega
   ·rw[zR,QD e];exact wf j hj
theorem zRW {h h0:AHeap} {v w:Value} {xs ys:List Int} (o:OwnN h0 h v xs) (s:SlI h w ys) (e0:Ext h0 h) (hne:ys≠[]) (hr:xs.length+ys.length<=4294967296):
  ∃ v' h',yI 1 v w h=some (v',h')/\Ext h0 h'/\OwnI h h' v' (xs++ys)/\Upd v h h':=by
 have hsrc:=ZT s;have hroom:room=4294967296:=rfl;obtain⟨z,zs,rfl⟩:∃ z zs,ys=z::zs:=by
  cases ys with
  |nil=>exact absurd rfl hne
  |cons z zs=>exact⟨z,zs,rfl⟩
 have hone:zN (I z::zs.map I)=true:=zA2 (z::zs);have hlen:(I z::zs.map I).length / 1=(z::zs).length:=by simp
 rcases o with ⟨rfl,rfl⟩|⟨g,g1,g2,rfl,g3⟩
 ·have h1:Nat.ble (z::zs).length room=true:=QH (by rw[hroom];simpa using hr);refine⟨.slice (some ⟨h.n,0,none⟩) (z::zs).length 1,h.push (.row ((z::zs).map I) true 0),?_,e0.push _,⟨h.n,QF _,by simp[AHeap.push],rfl,zS _ _⟩,⟨GV _,fun k hk _=> ?_⟩⟩
  ·simp only[yI,hsrc,Qh,hone,hlen,h1,QU,cond_true,QR];rfl
  ·rw[zO,QD (by omega)]
 ·have h1:Nat.ble (xs.length+(z::zs).length) room=true:=QH (by rw[hroom];exact hr);have h2:cut (xs.map I) 0 (xs.length * 1)=some (xs.map I):=by rw[yo (by simp)];simp[Q5]
  have hn:(h.kill g).n=h.n:=rfl;have h3:Nat.ble 0 (0+xs.length * 1)=true:=QH (QV _);refine⟨.slice (some ⟨h.n,0,none⟩) (xs.length+(z::zs).length) 1,(h.kill g).push (.row (xs.map I++(z::zs).map I) true (0 - 0)),?_,(e0.kill g1).push _,⟨h.n,QF _,by simp[AHeap.push,AHeap.kill],by simp,?_⟩,⟨GV _,fun k hk hv=> ?_⟩⟩
  ·simp only[yI,hsrc,Qh,hone,hlen,h1,g3,h2,h3,QU,cond_true,QR];rfl
  ·have:=zS (h.kill g) (.row (xs.map I++(z::zs).map I) true (0 - 0));rw[hn]at this;rw[this];simp
  ·rw[zO,QD (by rw[hn];omega),yY,QD (fun e=>hv _ _ _ rfl e.symm)]
theorem WO.apF {h h0:AHeap} {Q:AFr->AHeap->Prop} {l:List AOper} {d:Nat} {v w:Value} {xs ys:List Int} (o:OwnN h0 h v xs) (s:SlI h w ys) (e0:Ext h0 h) (hne:ys≠[]) (hr:xs.length+ys.length<=4294967296) (k:∀ v' h',Ext h0 h'->OwnI h h' v' (xs++ys)->Upd v h h'->WO P tab l ⟨t.set d v',ds,rd⟩ h' Q)
  (hx:Ope t x v:=by exact zT) (hy:Ope t y w:=by exact zT):WO P tab (⟨some d,none,.append 1 x y⟩::l) ⟨t,ds,rd⟩ h Q:=by
 have hx:ev t x=v:=hx;have hy:ev t y=w:=hy;obtain⟨v',h',a,b,c,u⟩:=zRW o s e0 hne hr;exact WO.op v' h' rfl (by simp only[aop,hx,hy,a]) (k v' h' b c u)
theorem WO.apRF {α:Type} {c b d1 d2:Nat} {R:AHeap->List Value->α->Prop} {h hB:AHeap} {Q:AFr->AHeap->Prop} {l:List AOper} {v w:Value} {xs:List α} {cs zero:List Value} (a:α) (Dn:Nat->Prop) (o:OwnR c R b h v xs) (e0:Ext hB h) (hb:hB.n<=b) (hbn:b<=h.n) (hc0:0<c) (hl:xs.length<=100000)
  (d:Dep R h cs a Dn) (hD:∀ k,Dn k->b<=k/\k<h.n) (hv:∀ g n k,v= .slice (some ⟨g,0,none⟩) n k->¬Dn g)
  (k:∀ v' h' lit,Ext hB h'->OwnR c R b h' v' (xs++[a])->h.n<=h'.n->(∀ k,k<h.n->(∀ n k',v≠ .slice (some ⟨k,0,none⟩) n k')->h'.get k=h.get k)->(∃ n k g,v'= .slice (some ⟨g,0,none⟩) n k/\h.n<=g)->WO P tab l ⟨(t.set d1 lit).set d2 v',ds,rd⟩ h' Q)
  (hx:Ope t x w:=by exact zT) (hw:w.cells=cs.toArray:=by rfl) (hc:cs.length=c:=by rfl) (h1:zN cs=true:=by rfl) (hz:zero.length=c:=by rfl) (hy:∀ u,Ope (t.set d1 u) y v:=by intro u;exact zT):
  WO P tab (⟨some d1,none,.buildSlice 1 c zero [(0,c,x)]⟩::⟨some d2,none,.append c y (.tmp d1)⟩::l) ⟨t,ds,rd⟩ h Q:=by
 have hx:ev t x=w:=hx;refine WO.op (.slice (some ⟨h.n,0,none⟩) 1 c) (h.push (.row cs true 0)) rfl (by
  simp only[aop,zl,Qh,G4,hx,zEs hw hc hz,QK];rfl) ?_
 obtain⟨v',H',q1,q2,q3,q4,q5,q6,q7,q8,q9⟩:=zEn (H:=h.push (.row cs true 0)) (gl:=h.n) o hc hc0 h1 hl hbn d hD hv (GV _) (JP _) (fun k hk=>by rw[zO,QD (by omega)]) (zS _ _);have hyv:ev (t.set d1 (.slice (some ⟨h.n,0,none⟩) 1 c)) y=v:=hy _;have e1:ev (t.set d1 (.slice (some ⟨h.n,0,none⟩) 1 c)) (.tmp d1)= .slice (some ⟨h.n,0,none⟩) 1 c:=by simp only[ev,z0,Qv]
 refine WO.op v' H' rfl (by simp only[aop,hyv,e1,q1]) (k v' H' _ ?_ q2 (by rw[q3];show h.n<=h.n+1+1;omega) (fun k hk hvk=> ?_) (let ⟨n,k,g,e,hg⟩:=q9;⟨n,k,g,e,QW (GV _) hg⟩))
 ·have hvb:∀ k,k<hB.n->∀ n k',v≠ .slice (some ⟨k,0,none⟩) n k':=fun k hk n k' e=>by
   rcases o with ⟨e2,_⟩|⟨g,_,_,g1,_,e2,_⟩
   ·rw[e2]at e;cases e
   ·rw[e2]at e;cases e;omega
  refine⟨by rw[q3];show hB.n<=h.n+1+1;have:=e0.n;omega,fun k hk=> ?_,fun w=>q8 ?_,q5.trans e0.mark,fun hm=> ?_⟩
  ·have:=e0.n;rw[q4 k (by show k<h.n+1;omega) (hvb k hk),zO,QD (by omega)];exact e0.get k hk
  ·intro k hk;have hk:h.n+1<=k:=hk;rw[zO,QD (by omega)];exact e0.wf w k (by omega)
  ·rw[q7 (by show h.mark<=b;rw[e0.mark];omega)];exact e0.wr hm
 ·rw[q4 k (by show k<h.n+1;omega) hvk,zO,QD (by omega)]
end
def blk:Value->Option Nat
 | .slice (some a) _ _=>some a.block
 | .pointer (some a)=>some a.block
 |_=>none
def OffV (v w:Value):Prop:=∀ b,blk v=some b->blk w≠some b
theorem OffV.symm {v w:Value} (o:OffV v w):OffV w v:=fun b h k=>o b k h
def UpB (v:Value) (h h':AHeap):Prop:=h.n<=h'.n/\∀ g,g<h.n->blk v≠some g->h'.get g=h.get g
theorem Upd.upB {v:Value} {h h':AHeap} (u:Upd v h h'):UpB v h h':=⟨u.1,fun g hg hv=>u.2 g hg fun a n c e he=>hv (by rw[e,<-he];rfl)⟩
theorem UpdC.upB {v:Value} {h h':AHeap} (u:UpdC v h h'):UpB v h h':=⟨u.1,fun g hg hv=>u.2 g hg fun e=>hv (by rw[e];rfl)⟩
theorem zQD {v:Value} {h h':AHeap} (hn:h.n<=h'.n) (u:∀ k,k<h.n->(∀ n k',v≠ .slice (some ⟨k,0,none⟩) n k')->h'.get k=h.get k):UpB v h h':=⟨hn,fun g hg hv=>u g hg fun n k e=>hv (by rw[e];rfl)⟩
def zEd (h:AHeap) (v:Value):Prop:=∀ b,blk v=some b->h.n<=b
def zGX (h:AHeap) (v:Value):Prop:=∀ b,blk v=some b->b<h.n
theorem OffV.fresh {h:AHeap} {v w:Value} (a:zEd h v) (b:zGX h w):OffV v w:=fun k hk hw=>by have:=a k hk;have:=b k hw;omega
section
variable {hB h h':AHeap} {v w p:Value} {l:List Int} {cs:List Value}
theorem OwnN.within (o:OwnN hB h w l):zGX h w:=fun b hb=>by
 rcases o with ⟨rfl,_⟩|⟨g,_,g2,rfl,_⟩
 ·cases hb
 ·cases hb;exact g2
theorem OwnN.since' (o:OwnN hB h w l):zEd hB w:=fun b hb=>by
 rcases o with ⟨rfl,_⟩|⟨g,g1,_,rfl,_⟩
 ·cases hb
 ·cases hb;exact g1
theorem OwnC.within (o:OwnC hB h p cs):zGX h p:=fun b hb=>by obtain⟨g,_,g2,rfl,_⟩:=o;cases hb;exact g2
theorem OwnC.since' (o:OwnC hB h p cs):zEd hB p:=fun b hb=>by obtain⟨g,g1,_,rfl,_⟩:=o;cases hb;exact g1
theorem OwnN.upB (o:OwnN hB h w l) (u:UpB v h h') (d:OffV v w):OwnN hB h' w l:=by
 rcases o with o|⟨g,g1,g2,rfl,g3⟩
 ·exact .inl o
 ·exact .inr ⟨g,g1,QG g2 u.1,rfl,(u.2 g g2 fun e=>d _ e rfl).trans g3⟩
theorem OwnC.upB (o:OwnC hB h p cs) (u:UpB v h h') (d:OffV v p):OwnC hB h' p cs:=by
 obtain⟨g,g1,g2,rfl,g3⟩:=o;exact⟨g,g1,QG g2 u.1,rfl,(u.2 g g2 fun e=>d _ e rfl).trans g3⟩
section
variable {α:Type} {c b:Nat} {R:AHeap->List Value->α->Prop} {xs:List α}
theorem OwnR.within (o:OwnR c R b h w xs):zGX h w:=fun b hb=>by
 rcases o with ⟨rfl,_⟩|⟨g,_,_,_,g2,rfl,_⟩
 ·cases hb
 ·cases hb;exact g2
theorem OwnR.upB (hi:∀ h h' cs a,R h cs a->R h' cs a) (o:OwnR c R b h w xs) (u:UpB v h h') (d:OffV v w):OwnR c R b h' w xs:=by
 rcases o with o|⟨g,cells,D,g1,g2,rfl,g3,g4,_,_,g7⟩
 ·exact .inl o
 ·exact .inr ⟨g,cells,fun _=>False,g1,QG g2 u.1,rfl,(u.2 g g2 fun e=>d _ e rfl).trans g3,g4,id,fun _ h=>h.elim,fun i a ha hx _ _=>hi _ _ _ _ (g7 i a ha).self⟩
end
theorem WO.bl1 {P:Program} {tab:Tab} {t:Trie Value} {ds:List Deferred} {rd:Option Nat} {Q:AFr->AHeap->Prop} {l:List AOper} {d c:Nat} {zero cs:List Value} {x:Operand} {w:Value}
  (k:∀ h',Ext h h'->h'.n=h.n+1->SlC c h' (.slice (some ⟨h.n,0,none⟩) 1 c) 1 cs->h'.get h.n=some (.row cs true 0)->WO P tab l ⟨t.set d (.slice (some ⟨h.n,0,none⟩) 1 c),ds,rd⟩ h' Q)
  (hx:Ope t x w:=by exact zT) (hw:w.cells=cs.toArray:=by rfl) (hc:cs.length=c:=by rfl) (hz:zero.length=c:=by rfl):WO P tab (⟨some d,none,.buildSlice 1 c zero [(0,c,x)]⟩::l) ⟨t,ds,rd⟩ h Q:=by
 have hx:ev t x=w:=hx;refine WO.op (.slice (some ⟨h.n,0,none⟩) 1 c) (h.push (.row cs true 0)) rfl (by
  simp only[aop,zl,Qh,G4,hx,zEs hw hc hz,QK];rfl) (k _ (Zv _ _) rfl (SlC.own (JP _) (zS _ _) (by rw[hc,Nat.one_mul])) (zS _ _))
end
section
variable {P:Program} {tab:Tab} {t:Trie Value} {h:AHeap} {ds:List Deferred} {rd:Option Nat} {l:List AOper} {Q:AFr->AHeap->Prop}
end
section
variable {P:Program} {tab:Tab}
def ok7 (m N0:Nat) (Bad:Nat->Prop) (un:List Nat) (cl:Bool) (t:Trie Value) (o:AOper) (h h':AHeap):Prop:=
 (∀ k∈h'.wr,m<=k)/\h.n<=h'.n/\(un=[]\/(cl=true/\h'.wr=[]/\∀ g,zZ t o=some g->¬Bad g/\g<N0))
end
section
variable {P:Program} {tab:Tab} {m N0:Nat} {Bad:Nat->Prop} {l:List (AOper×List Nat)} {o:AOper} {un:List Nat} {g:Nat} {cl:Bool} {fr:AFr} {h h0 h':AHeap} {Q:AFr->AHeap->Prop} {K:AExit->AFr->AHeap->Prop} {t:Trie Value}
end
end Go.Am
