/- A part of the machine and of its soundness; proves no statement. -/
import Derived.Test.YtndffgfnndoifaaGreatDoorAmU
set_option linter.all false
namespace Go.Am
section
variable {P:Program}{tab:Ws}
def Bw(P:Program)(tab:Ws)(m:Nat)(aH:Nat->Prop):List (WE×List Nat)->Nat->WM->WA->(WM->WA->Prop)->Prop
 |[],_,fr,h,Q=>Q fr h
 |(o,un)::l,g,fr,h,Q=>
  if Nat.beq (zE o.op) 3=true then
   un=[]/\zP fr.tm o.guard=true/\m<=g/\zc fr.tm o=none/\∃ ob f,yh fr.tm o.op=some (ob,f)/\Bw P tab m aH l (g+1) (val o.dst fr (f g)) ((inC h).lay g ob) Q
  else WO P tab [o] fr (inC h) fun ae h'=>(∀ g∈h'.wr,m<=g)/\(un=[]\/(zc fr.tm o=none/\∀ g∈h'.wr,aH g))/\(∀ g,zc fr.tm o=some g->¬aH g)/\Bw P tab m aH l g ae h' Q
def zOB{aH:Nat->Prop}{un:List Nat}{t:WG Value}{o:WE}{h':WA}(hk:un=[]\/(zc t o=none/\∀ g∈h'.wr,aH g))(ws:List (Nat×Nat))(bs:List (Nat×Nat)){rs:List (Nat×Nat×Option (Nat×Nat×List Value))}(hr:∀ e∈rs,¬aH e.2.1):
  ((match zc t o with
   |some g=>(ws.all fun x=> !(Nat.beq g x.2&&un.contains x.1))&&bs.all fun x=> !un.contains x.1||Nat.ble (g+1) x.2
   |none=>true)&&rs.all fun x=> !(un.contains x.1&&h'.wr.contains x.2.1)||zCi h' x.2.1 x.2.2)=true:=by
 rcases hk with rfl|⟨h1,h2⟩
 ·exact zK3 o ws rs bs t h'
 ·rw[h1];simp only[Qh];rw[QX];intro x hx;have:h'.wr.contains x.2.1=false:=by
   cases hc:h'.wr.contains x.2.1 with
   |false=>rfl
   |true=>exact absurd (h2 _ (List.contains_iff_mem.1 hc)) (hr x hx)
  rw[this,Qo];rfl
def Bw.run{m:Nat}{aH:Nat->Prop}:∀ {ops:List (WE×List Nat)} {g:Nat} {fr:WM} {h:WA} {Q:WM->WA->Prop},Bw P tab m aH ops g fr h Q->
  ∃ ae h',Q ae h'/\∀ (i:Nat) (ws:List (Nat×Nat)) (rs:List (Nat×Nat×Option (Nat×Nat×List Value))) (bs:List (Nat×Nat)),(∀ e∈ws,m<=e.2)->(∀ e∈rs,¬aH e.2.1)->
   ∃ bG,(∀ e∈bG,m<=e.2)/\Ev fun n=>yD P (BE P tab n) ops i g ws rs bs fr h=some (ae,h',bG):=by
 intro ops;induction ops with
 |nil=>intro g fr h Q hx;exact⟨fr,h,hx,fun i ws rs bs hw _=>⟨ws,hw,Ev.all fun n=>rfl⟩⟩
 |cons x ops cj=>
  intro g fr h Q hx;obtain⟨o,un⟩:=x;simp only[Bw]at hx;have go:∀ {g':Nat} {a6:WM} {h1:WA},(g'=bif Nat.beq (zE o.op) 3 then g+1 else g)->(Ev fun n=>yC P (BE P tab n) g o fr (inC h)=some (a6,h1))->(∀ x∈h1.wr,m<=x)->(un=[]\/(zc fr.tm o=none/\∀ g∈h1.wr,aH g))->(∀ g,zc fr.tm o=some g->¬aH g)->Bw P tab m aH ops g' a6 h1 Q->
    ∃ ae h',Q ae h'/\∀ (i:Nat) (ws:List (Nat×Nat)) (rs:List (Nat×Nat×Option (Nat×Nat×List Value))) (bs:List (Nat×Nat)),(∀ e∈ws,m<=e.2)->(∀ e∈rs,¬aH e.2.1)->
     ∃ bG,(∀ e∈bG,m<=e.2)/\Ev fun n=>yD P (BE P tab n) ((o,un)::ops) i g ws rs bs fr h=some (ae,h',bG):=by
   intro g' a6 h1 hg ev hw hk hb hx;obtain⟨ae,h',q,run⟩:=cj hx;refine⟨ae,h',q,fun i ws rs bs uu iP=> ?_⟩;obtain⟨bG,w1,w2⟩:=run (i+1) (h1.wr.map (fun g=>(i,g))++ws) (match zc fr.tm o with
     |some g=>(i,g,Y6 fr.tm h o.op)::rs
     |none=>rs) ((i,h.n)::bs) (fun e he=>by
      rcases Qf.1 he with he|he
      ·obtain⟨y,hy,rfl⟩:=Qw.1 he;exact hw y hy
      ·exact uu e he) (fun e he=>by
      cases hr:zc fr.tm o with
      |none=>rw[hr]at he;exact iP e he
      |some k=>
       rw[hr]at he;rcases Qt.1 he with rfl|he
       ·exact hb k hr
       ·exact iP e he)
   refine⟨bG,w1,(ev.and w2).mono fun n ⟨e1,e2⟩=> ?_⟩;simp only[yD];have pX:yC P (BE P tab n) g o fr {h with mark:=h.n,wr:=[]}=some (a6,h1):=e1;rw[pX];have aS:=zOB hk ws bs iP;exact(congrArg (fun b:Bool=>bif b then yD P (BE P tab n) ops (i+1) (bif Nat.beq (zE o.op) 3 then g+1 else g) (h1.wr.map (fun g=>(i,g))++ws) (match zc fr.tm o with
     |some g=>(i,g,Y6 fr.tm h o.op)::rs
     |none=>rs) ((i,h.n)::bs) a6 h1 else none) aS).trans (by rw[cond_true,<-hg];exact e2)
  by_cases hk:Nat.beq (zE o.op) 3=true
  ·rw[QJ hk]at hx;obtain⟨rfl,hw,hm,hr,ob,f,aG,hx⟩:=hx;refine go (g':=g+1) (by rw[hk];rfl) (Ev.all fun n=> ?_) (h1:=(inC h).lay g ob) (fun x hx=> ?_) (.inl rfl) (fun k aU=>by rw[hr]at aU;cases aU) hx
   ·unfold yC;simp only[hk,hw,aG,cond_true]
   ·rcases yj hx with rfl|hx
    ·exact hm
    ·cases hx
  ·rw[QC hk]at hx;have cF:Nat.beq (zE o.op) 3=false:=by cases hb:Nat.beq (zE o.op) 3 with
    |false=>rfl
    |true=>exact absurd hb hk
   unfold WO at hx;obtain⟨a6,h1,⟨q1,q2,q3,q4⟩,ev⟩:=hx;refine go (g':=g) (by rw[cF];rfl) (ev.mono fun n e=> ?_) q1 q2 q3 q4;unfold yC;simp only[cF,QU];simp only[yd]at e;cases ha:yO P (BE P tab n) o fr (inC h)with
   |none=>rw[ha]at e;cases e
   |some p=>rw[ha]at e;exact e
def Vv{ops:List (WE×List Nat)}{fr:WM}{h:WA}{K:WL->WM->WA->Prop}(aH:Nat->Prop)(k:Nat)(hk:zEV ops=k)(ah:ops.isEmpty=false)
  (hx:Bw P tab h.mark aH ops h.n fr (inC (zB k h)) (SJ K h)):WX P tab (.regionC ops) fr h K:=by
 subst hk;have eS:Bw P tab h.mark aH ops h.n fr (zB (zEV ops) h) (SJ K h):=by
  cases ops with
  |nil=>cases ah
  |cons x ops=>exact hx
 obtain⟨ae,h',q,run⟩:=Bw.run (h:=zB (zEV ops) h) eS;obtain⟨bG,w1,w2⟩:=run 0 [] [] [] (fun e he=>by cases he) (fun e he=>by cases he);unfold WX;refine⟨.normal,ae,_,q,Ev.up (w2.mono fun n e=> ?_)⟩;rw[zx];simp only[zo,YZ];have e':yD P (BE P tab n) ops 0 h.n [] [] [] fr {h with n:=h.n+(ops.filter fun x=>Nat.beq (zE x.1.op) 3).length}=some (ae,h',bG):=e;rw[e'];have:((bG.map (·.2)).filter fun g=> !Nat.ble h.mark g)=[]:=by
  rw[List.filter_eq_nil_iff];intro g hg;obtain⟨y,hy,rfl⟩:=Qw.1 hg;have:Nat.ble h.mark y.2=true:=QK (w1 y hy);simp[this]
 simp[this,z9]
end
section
variable {P:Program}{tab:Ws}{m:Nat}{aH:Nat->Prop}{l:List (WE×List Nat)}{o:WE}{un:List Nat}{g:Nat}{fr:WM}{h h0 h':WA}{Q:WM->WA->Prop}{K:WL->WM->WA->Prop}{t:WG Value}
def uK6(P:Program)(tab:Ws)(m:Nat)(aH:Nat->Prop)(un:List Nat)(t:WG Value)(o:WE)(l:List (WE×List Nat))(g:Nat)(Q:WM->WA->Prop):WM->WA->Prop:=
 fun ae h'=>(∀ g∈h'.wr,m<=g)/\(un=[]\/(zc t o=none/\∀ g∈h'.wr,aH g))/\(∀ g,zc t o=some g->¬aH g)/\Bw P tab m aH l g ae h' Q
def Bw.q(hk:Nat.beq (zE o.op) 3=false)(hx:WO P tab [o] fr (inC h) (uK6 P tab m aH un fr.tm o l g Q)):Bw P tab m aH ((o,un)::l) g fr (inC h) Q:=by
 simp only[Bw];rw[QC (by rw[hk];exact Bool.noConfusion)];exact hx
def zVU(hr:zc t o=none)(hx:Bw P tab m aH l g fr (inC h) Q):uK6 P tab m aH [] t o l g Q fr (inC h):=
 ⟨fun g hg=>(by cases hg),.inl rfl,fun g hg=>(by rw[hr]at hg;cases hg),hx⟩
def zRG{d:Option Nat}{agg:Bool}{n k:Nat}{x:Operand}{a:Addr}(hr:WN t x (yJ (.pointer (some a)) k))(hb:¬aH a.block)(hx:Bw P tab m aH l g fr (inC h) Q):uK6 P tab m aH [] t ⟨d,none,.load agg n x⟩ l g Q fr (inC h):=by
 refine⟨fun g hg=>(by cases hg),.inl rfl,fun g hg=> ?_,hx⟩;unfold WN yJ at hr;simp only[zc,zP,cond_true,hr,QA]at hg;rw[<-hg];exact hb
def Bw.mk{d:Nat}{op:Wz}{ob:Wp}{f:Nat->Value}(hk:Nat.beq (zE op) 3=true)(hm:m<=g)(aG:yh t op=some (ob,f)){ds:List Deferred}{rd:Option Nat}(hx:Bw P tab m aH l (g+1) ⟨t.set d (f g),ds,rd⟩ ((inC h).lay g ob) Q):Bw P tab m aH ((⟨some d,none,op⟩,[])::l) g ⟨t,ds,rd⟩ (inC h) Q:=by
 simp only[Bw];rw[QJ hk];refine⟨by trivial,rfl,hm,?_,ob,f,aG,hx⟩;cases op<;>first|rfl|cases hk
end
structure AR(hB h:WA)(p:Value)(cells:List Value)(n:Nat)(A:Nat->List Int):Prop where
 own:WB hB h p cells
 len:cells.length=n
 all:∀ j,j<n->WP hB h (cells.getD j undef) (A j)
 apart:∀ i j g a b c d,i<n->j<n->i≠j->cells.getD i undef=.slice (some ⟨g,0,none⟩) a b->cells.getD j undef=.slice (some ⟨g,0,none⟩) c d->False
def AR.ext{hB h h':WA}{p:Value}{cells:List Value}{n:Nat}{A:Nat->List Int}(r:AR hB h p cells n A)(e:WH h h'):AR hB h' p cells n A:=
 ⟨r.own.ext e,r.len,fun j hj=>(r.all j hj).ext e,r.apart⟩
def AR.off{hB h:WA}{p:Value}{cells:List Value}{n:Nat}{A:Nat->List Int}(r:AR hB h p cells n A){j:Nat}(hj:j<n){g gp a b:Nat}(hp:p=.pointer (some ⟨gp,0,none⟩))(hv:cells.getD j undef=.slice (some ⟨g,0,none⟩) a b):g≠gp:=by
 intro e;subst e;obtain⟨q,_,_,hq,hg⟩:=r.own;rw[hp]at hq;cases hq;rcases r.all j hj with⟨h1,_⟩|⟨q2,_,_,h2,h3⟩
 ·rw[h1]at hv;cases hv
 ·rw[h2]at hv;cases hv;rw[hg]at h3;have he:cells=(A j).map I:=by simpa using h3
  have:=congrArg (fun l=>l.getD j undef) he;simp only[h2]at this;have hlen:j<((A j).map I).length:=by rw[<-he,r.len];exact hj
  rw[QD,QB hlen]at this;simp at this
section
variable {P:Program}{tab:Ws}{t:WG Value}{ds:List Deferred}{rd:Option Nat}
def zHU{l:List Value}{i j:Nat}{v d:Value}(hi:i<l.length):(l.set i v).getD j d=if j=i then v else l.getD j d:=by
 simp only[QD,List.getElem?_set];by_cases h:i=j
 ·subst h;simp[hi]
 ·rw[QC h,QC (fun e=>h e.symm)]
def zG4{l:List Value}{i:Nat}{v:Value}(hi:i<l.length):zX l i [v]=l.set i v:=by
 unfold zX;rw[Qb,List.set_eq_take_append_cons_drop,QJ hi];simp
def zPe{cells:List Value}{i:Nat}(hi:i<cells.length):(cut cells i 1).bind (zI false)=some (cells.getD i undef):=by
 have h1:cells.drop i=cells[i]::cells.drop (i+1):=GB hi;have h2:cells.getD i undef=cells[i]:=by simp[List.getD,QB hi]
 have hc:cut cells i 1=some [cells[i]]:=(yz ω).trans (by rw[h1];rfl);rw[hc,h2];rfl
def zHw(a n k):(Value.slice a n k).cells=#[.slice a n k]:=rfl
def XL{d1 d2 d3 s i n:Nat}{x y z:Operand}{un:List Nat}{hB h:WA}{p v:Value}{cells:List Value}{A:Nat->List Int}{k:Int}{K:WL->WM->WA->Prop}
  (r:AR hB h p cells n A) (e0:WH hB h) (hm:h.mark<=hB.n) (hi:i<n) (hv:cells.getD i undef=v) (hlen:(A i).length<=1000)
  (hy:WN t y (I k)) (hx:WN (t.set d1 (.slice (some ⟨h.n,0,none⟩) 1 1)) x v) (xE:Nat.beq d1 d2=false) (hs:∀ w,WN ((t.set d1 (.slice (some ⟨h.n,0,none⟩) 1 1)).set d2 w) (.tmp s) p) (hz:∀ w,WN ((t.set d1 (.slice (some ⟨h.n,0,none⟩) 1 1)).set d2 w) z (I (i:Int))) (jQ:Nat.beq d2 d3=false)
  (kk:∀ h1 w t',(∀ j,Nat.beq j d1=false->Nat.beq j d2=false->Nat.beq j d3=false->zC t' j=zC t j)->WH hB h1->AR hB h1 p (cells.set i w) n (fun j=>if j=i then A i++[k]else A j)->(∀ g,g<h.n->p≠ .pointer (some ⟨g,0,none⟩)->(∀ a b,v≠ .slice (some ⟨g,0,none⟩) a b)->h1.get g=h.get g)->h.n<=h1.n->K .normal ⟨t',ds,rd⟩ h1):
  Bw P tab h.mark (fun g=>∃ a b,v=.slice (some ⟨g,0,none⟩) a b) [(⟨some d1,none,.buildSlice 1 1 [I 0] [(0,1,y)]⟩,[]),(⟨some d2,none,.append 1 x (.tmp d1)⟩,un),(⟨some d3,none,.idxArr n 1 (.tmp s) z⟩,[]),(⟨none,none,.store 1 (.tmp d3) (.tmp d2)⟩,[])] h.n ⟨t,ds,rd⟩ (inC (zB 1 h)) (SJ K h):=by
 have CT:=r.all i hi;rw[hv]at CT;obtain⟨gp,mj,pZ,hp,nJ⟩:=r.own;have aG:yh t (.buildSlice 1 1 [I 0] [(0,1,y)])=some (.row [I k] true 0,fun g=> .slice (some ⟨g,0,none⟩) 1 1):=by
  have hy:ev t y=I k:=hy;simp only[yh,zr,Qi,Gc,hy];rfl
 refine Bw.mk rfl (by have:=e0.n;omega) aG ?_;generalize iu:(inC (zB 1 h)).lay h.n (.row [I k] true 0)=H1;have n1:H1.n=h.n+1:=by rw[<-iu];rfl
 have aV:∀ c,H1.get c=if c=h.n then some (.row [I k] true 0)else h.get c:=fun c=>by rw[<-iu];exact zU _ _ _ _
 have sl:Wc (inC H1) (.slice (some ⟨h.n,0,none⟩) 1 1) [k]:=⟨rfl,.inr ⟨h.n,0,[I k],rfl,Z1 (own:=true) (lo:=0) (by have:=aV h.n;rw[QJ rfl]at this;exact this),rfl,by show h.n<H1.n;omega⟩⟩;have aX:=Zu sl;obtain⟨H2,ha,n2,bz,nK,ji,ml⟩:∃ H2,yR 1 v (.slice (some ⟨h.n,0,none⟩) 1 1) (inC H1)=some (.slice (some ⟨h.n+1,0,none⟩) (A i++[k]).length 1,H2)/\H2.n=h.n+2/\H2.get (h.n+1)=some (.row ((A i++[k]).map I) true 0)/\
   (∀ c,c≠h.n+1->(∀ a b,v≠ .slice (some ⟨c,0,none⟩) a b)->H2.get c=H1.get c)/\(∀ c∈H2.wr,∃ a b,v=.slice (some ⟨c,0,none⟩) a b)/\(∀ c,h.n+2<=c->H1.get c=none->H2.get c=none):=by
  have aT:zK [I k]=true:=rfl;have eh:(inC H1).n=h.n+1:=n1;rcases CT with⟨rfl,hA⟩|⟨q,q1,q2,rfl,q3⟩
  ·refine⟨(inC H1).push (.row [I k] true 0),?_,?_,?_,fun c hc _=> ?_,fun c hc=>(by cases hc),fun c hc h0=> ?_⟩
   ·have:Nat.ble 1 room=true:=rfl;simp only[yR,aX,Qi,Gc,aT,Qe,QU,Qb,Nat.div_one,this,cond_true,hA,Gf];rw[<-eh];rfl
   ·show(inC H1).n+1=_;omega
   ·rw[hA,<-eh,zM,QJ rfl];rfl
   ·rw[zM,QC ω];rfl
   ·rw[zM,QC ω];exact h0
  ·have hq:(inC H1).get q=some (.row ((A i).map I) true 0):=by
    have:=aV q;rw[QC ω]at this;exact this.trans q3
   refine⟨((inC H1).kill q).push (.row ((A i).map I++[I k]) true (0-0)),?_,?_,?_,fun c hc hv=> ?_,fun c hc=> ?_,fun c hc h0=> ?_⟩
   ·have h1:Nat.ble ((A i).length+1) room=true:=QK (by have:room=4294967296:=rfl;omega);have h2:cut ((A i).map I) 0 ((A i).length*1)=some ((A i).map I):=by rw[yz (by simp)];simp[Q3]
    have h3:Nat.ble 0 (0+(A i).length*1)=true:=QK (QQ _);simp only[yR,aX,Qi,Gc,aT,Qe,QU,Qb,Nat.div_one,h1,h2,h3,hq,cond_true,eh,QH];rfl
   ·show(inC H1).n+1=_;omega
   ·have e:((inC H1).kill q).n=h.n+1:=n1;rw[<-e,zM,QJ rfl];simp
   ·rw[zM,QC (by show c≠(inC H1).n;omega),yn,QC (fun e=>hv _ _ (by rw[e]))];rfl
   ·have fc:c∈(inC H1).log q:=hc;rcases yj fc with rfl|h
    ·exact⟨_,_,rfl⟩
    ·cases h
   ·rw[zM,QC (by show c≠(inC H1).n;omega),yn];split
    ·rfl
    ·exact h0
 have bM:∀ c,(∃ a b,v=.slice (some ⟨c,0,none⟩) a b)->hB.n<=c/\c<h.n/\c≠gp:=by
  rintro c ⟨a,b,e⟩;have ah:=r.off hi hp (hv.trans e);rcases CT with⟨h1,_⟩|⟨q,q1,q2,h1,_⟩
  ·rw[e]at h1;cases h1
  ·rw[e]at h1;cases h1;exact⟨q1,q2,ah⟩
 have xF:∀ a b,v≠ .slice (some ⟨gp,0,none⟩) a b:=fun a b e=>(bM gp ⟨a,b,e⟩).2.2 rfl;rw[Bw,QC (show ¬Nat.beq (zE (Wz.append 1 x (.tmp d1))) 3=true from Bool.noConfusion)];have hx:ev (t.set d1 (.slice (some ⟨h.n,0,none⟩) 1 1)) x=v:=hx;have e1:ev (t.set d1 (.slice (some ⟨h.n,0,none⟩) 1 1)) (.tmp d1)=.slice (some ⟨h.n,0,none⟩) 1 1:=by simp only[ev,zg,Qz]
 refine WO.op (.slice (some ⟨h.n+1,0,none⟩) (A i++[k]).length 1) H2 rfl (by simp only[WK,hx,e1,ha]) ?_;refine WO.nil ⟨fun c hc=> ?_,.inr ⟨rfl,ji⟩,fun c hc=>(by cases hc),?_⟩
 ·have:=(bM c (ji c hc)).1;omega
 rw[Bw,QC (show ¬Nat.beq (zE (Wz.idxArr n 1 (.tmp s) z)) 3=true from Bool.noConfusion)];have dI:WB hB (inC H2) p cells:=by
  refine⟨gp,mj,by show gp<H2.n;omega,hp,?_⟩;show H2.get gp=_;rw[nK gp ω xF,aV,QC ω];exact nJ
 have jh:=hs (.slice (some ⟨h.n+1,0,none⟩) (A i++[k]).length 1);have kT:=hz (.slice (some ⟨h.n+1,0,none⟩) (A i++[k]).length 1);have mn:=Vm (P:=P) (ih:=Ex.bot) (c:=1) (n:=n) (i:=i) jh (by have kT:ev _ z=I (i:Int):=kT;rw[kT];rfl) dI hi;rw[G7]at mn;refine WO.op _ (inC H2) rfl mn ?_;refine WO.nil ⟨fun c hc=>(by cases hc),?_,fun c hc=>(by cases hc),?_⟩
 ·exact .inr ⟨rfl,fun c hc=>(by cases hc)⟩
 rw[Bw,QC (show ¬Nat.beq (zE (Wz.store 1 (.tmp d3) (.tmp d2))) 3=true from Bool.noConfusion)];have aL:zk (inC (inC H2)) ⟨gp,i,none⟩ [.slice (some ⟨h.n+1,0,none⟩) (A i++[k]).length 1]=some ((inC (inC H2)).set gp (.row (cells.set i (.slice (some ⟨h.n+1,0,none⟩) (A i++[k]).length 1)) true 0)):=by
  obtain⟨q,_,_,hq,hg⟩:=dI;rw[hp]at hq;cases hq;have ij:(inC (inC H2)).get gp=some (.row cells true 0):=hg;have h1:Nat.ble (i+1) cells.length=true:=QK (by rw[r.len];exact hi);have h0:Nat.ble 0 i=true:=QK (QQ _);have h2:zK [.slice (some ⟨h.n+1,0,none⟩) (A i++[k]).length 1]=true:=rfl;simp only[zk,ij,Qb,h1,h0,h2,GC,zG4 (show i<cells.length by rw[r.len];exact hi)];rfl
 have qc:¬d2=d3:=fun e=>by subst e;simp at jQ
 refine VR undef ((inC (inC H2)).set gp (.row (cells.set i (.slice (some ⟨h.n+1,0,none⟩) (A i++[k]).length 1)) true 0)) rfl (by
  have a1:∀ tt:WG Value,ev (tt.set d3 (yJ p i)) (.tmp d3)=.pointer (some ⟨gp,i,none⟩):=fun tt=>by
   simp only[ev,zg,Qz,hp,yJ,Q8]
  have a2:∀ w,ev (((t.set d1 (.slice (some ⟨h.n,0,none⟩) 1 1)).set d2 w).set d3 (yJ p i)) (.tmp d2)=w:=fun w=>by
   simp only[ev,zg,QC qc,Qz]
  simp only[val,WK,a1,a2,zHw,G2,Qb,Gl,aL,QL,cond_true]) ?_
 refine WO.nil ⟨fun c hc=> ?_,.inl rfl,fun c hc=>(by cases hc),?_⟩
 ·have fc:c∈(inC (inC H2)).log gp:=hc;rcases yj fc with rfl|h
  ·omega
  ·cases h
 generalize hH:z9 h ((inC (inC H2)).set gp (.row (cells.set i (.slice (some ⟨h.n+1,0,none⟩) (A i++[k]).length 1)) true 0))=H;have nH:H.n=h.n+2:=by rw[<-hH];exact n2
 have fm:∀ c,H.get c=if c=gp then some (.row (cells.set i (.slice (some ⟨h.n+1,0,none⟩) (A i++[k]).length 1)) true 0)else H2.get c:=fun c=>by rw[<-hH];exact zU _ _ _ _
 have eT:∀ c,c<h.n->c≠gp->(∀ a b,v≠ .slice (some ⟨c,0,none⟩) a b)->H.get c=h.get c:=fun c h1 h2 h3=>by
  rw[fm,QC h2,nK c ω h3,aV,QC ω]
 have CU:∀ c,c<hB.n->H.get c=h.get c:=fun c hc=>eT c (by have:=e0.n;omega) ω (fun a b e=>by have:=(bM c ⟨a,b,e⟩).1;omega);show K .normal _ _;rw[hH];refine kk H (.slice (some ⟨h.n+1,0,none⟩) (A i++[k]).length 1) _ (fun j a1 a2 a3=> ?_) ?_ ?_ (fun c h1 h2 h3=>eT c h1 (fun e=>h2 (by rw[hp,e])) h3) ω
 ·have b1:¬j=d1:=fun e=>by subst e;simp at a1
  have b2:¬j=d2:=fun e=>by subst e;simp at a2
  have b3:¬j=d3:=fun e=>by subst e;simp at a3
  simp only[val,zg,QC b1,QC b2,QC b3]
 ·refine⟨by rw[nH];have:=e0.n;omega,fun c hc=>(CU c hc).trans (e0.get c hc),fun w c hc=> ?_,?_,fun de=> ?_⟩
  ·rw[nH]at hc;rw[fm,QC ω];exact ml c hc (by rw[aV,QC ω];exact e0.wf w c ω)
  ·rw[<-hH];exact e0.mark
  ·rw[<-hH];exact e0.wr de
 ·refine⟨⟨gp,mj,ω,hp,by rw[fm,QJ rfl]⟩,by rw[Gh];exact r.len,fun j hj=> ?_,fun j1 j2 g a b c d eJ ez ah e1 e2=> ?_⟩
  ·rw[zHU (by rw[r.len];exact hi)];by_cases e:j=i
   ·rw[QJ e];simp only[QJ e];exact .inr ⟨h.n+1,by have:=e0.n;omega,ω,rfl,by rw[fm,QC ω];exact bz⟩
   ·rw[QC e];simp only[QC e];rcases r.all j hj with h1|⟨q,q1,q2,h1,q3⟩
    ·exact .inl h1
    ·refine .inr ⟨q,q1,ω,h1,?_⟩;rw[eT q q2 (r.off hj hp h1) (fun a b e2=>r.apart j i q _ _ a b hj hi e h1 (hv.trans e2))];exact q3
  ·rw[zHU (by rw[r.len];exact hi)]at e1 e2;have old:∀ j a b,j<n->cells.getD j undef=.slice (some ⟨g,0,none⟩) a b->g<h.n:=fun j a b hj e=>by
    rcases r.all j hj with⟨h1,_⟩|⟨q,_,q2,h1,_⟩
    ·rw[e]at h1;cases h1
    ·rw[e]at h1;cases h1;exact q2
   by_cases f1:j1=i
   ·rw[QJ f1]at e1;cases e1;by_cases f2:j2=i
    ·exact ah (f1.trans f2.symm)
    ·rw[QC f2]at e2;have:=old j2 _ _ ez e2;omega
   ·rw[QC f1]at e1;by_cases f2:j2=i
    ·rw[QJ f2]at e2;cases e2;have:=old j1 _ _ eJ e1;omega
    ·rw[QC f2]at e2;exact r.apart j1 j2 g a b c d eJ ez ah e1 e2
def AR.one{hB h:WA}{p:Value}{cells:List Value}{n:Nat}{A:Nat->List Int}(r:AR hB h p cells n A):zK cells=true:=by
 unfold zK;rw[QX];intro x hx;obtain⟨j,hj,rfl⟩:=JZ.1 hx;have e:cells.getD j undef=cells[j]:=by simp[List.getD,QB hj]
 have:=r.all j (by rw[<-r.len];exact hj);rw[e]at this;rcases this with⟨h,_⟩|⟨_,_,_,h,_⟩<;>rw[h]
def AR.updC{hB h h':WA}{p:Value}{cells:List Value}{n:Nat}{A:Nat->List Int}(r:AR hB h p cells n A)(o:WB hB h' p cells)(u:Wo p h h'):AR hB h' p cells n A:=by
 refine⟨o,r.len,fun j hj=> ?_,r.apart⟩;rcases r.all j hj with h1|⟨q,q1,q2,h1,q3⟩
 ·exact .inl h1
 ·refine .inr ⟨q,q1,QG q2 u.1,h1,(u.2 q q2 fun e=> ?_).trans q3⟩;exact r.off hj e h1 rfl
def zMv{cells:List Value}{n:Nat}(hn:cells.length=n):(cut cells 0 n).bind (zI true)=some (.agg cells.toArray):=by
 subst hn;rw[yz ω];simp[Q3,zI]
def XG{d i:Nat}{x:Operand}{p:Value}{cells:List Value}{h0 h:WA}{l:List WE}{Q:WM->WA->Prop}(o:WB h0 h p cells)(hi:i<cells.length)(k:WO P tab l ⟨t.set d (cells.getD i undef),ds,rd⟩ h Q)(hx:WN t x (yJ p i):=by exact zO):WO P tab (⟨some d,none,.load false 1 x⟩::l) ⟨t,ds,rd⟩ h Q:=
 WO.o (WB.load hx o (zPe hi)) k
def Xa{d n:Nat}{x:Operand}{p:Value}{cells:List Value}{h0 h:WA}{l:List WE}{Q:WM->WA->Prop}(o:WB h0 h p cells)(hn:cells.length=n)(k:WO P tab l ⟨t.set d (.agg cells.toArray),ds,rd⟩ h Q)(hx:WN t x p:=by exact zO):WO P tab (⟨some d,none,.load true n x⟩::l) ⟨t,ds,rd⟩ h Q:=
 WO.o (Vj hx o (zMv hn)) k
end
section
variable {P:Program}{tab:Ws}{ds:List Deferred}{rd:Option Nat}{h:WA}{l:List WE}{t:WG Value}
def goV{G' G:Prop}(k:G')(r:Wrap G'->G:=by
  intro fe;first|with_reducible show Bw _ _ _ _ (_::_) _ _ _ _|refine go ?_
  repeat (first|((apply Bw.q;rfl);refine go ?_)|refine zVU rfl ?_|(apply zRG;(exact zN);(assumption)))
  first|with_reducible show Bw _ _ _ _ (_::_) _ _ _ _|refine go ?_
  exact fe.out):G:=r ⟨k⟩
end
section
variable {P:Program}{tab:Ws}{t:WG Value}{ds:List Deferred}{rd:Option Nat}
def zE4{h0 h:WA}{p:Value}{xs:List Int}{j:Nat}{a:Int}(o:WB h0 h p (xs.map I))(hj:j<xs.length):∃ g,h0.n<=g/\g<h.n/\p=.pointer (some ⟨g,0,none⟩)/\zk h ⟨g,j,none⟩ [I a]=some (h.set g (.row ((xs.set j a).map I) true 0)):=by
 obtain⟨g,g1,g2,hp,g3⟩:=o;refine⟨g,g1,g2,hp,?_⟩;have h1:Nat.ble (j+1) (xs.map I).length=true:=QK (by simp;omega);have h0:Nat.ble 0 j=true:=QK (QQ _);have h2:zK [I a]=true:=rfl;simp only[zk,g3,Qb,h1,h0,h2,GC,zBM _ _ _ hj];rfl
def V8{x y:Operand}{p:Value}{xs:List Int}{j:Nat}{a:Int}{h0 h:WA}{l:List WE}{Q:WM->WA->Prop}(o:WB h0 h p (xs.map I))(e0:WH h0 h)(hj:j<xs.length)
  (k:∀ h',WH h0 h'->WB h0 h' p ((xs.set j a).map I)->Wo p h h'->WO P tab l ⟨t,ds,rd⟩ h' Q) (hx:WN t x (yJ p j):=by exact zO) (hy:WN t y (I a):=by exact zO):WO P tab (⟨none,none,.store 1 x y⟩::l) ⟨t,ds,rd⟩ h Q:=by
 refine Vt hx hy (v:=I a) (cs:=[I a]) rfl rfl rfl o e0 (by simp;omega) fun h' a1 a2 a3=>k h' a1 ?_ a3;rw[zBM _ _ _ hj]at a2;exact a2
def UO{N0 g:Nat}{cl:Bool}{x y:Operand}{p:Value}{xs:List Int}{j:Nat}{a:Int}{h0 X:WA}{m:Nat}{w:WE×List Nat}{l:List (WE×List Nat)}{Q:WM->WA->Prop}(o:WB h0 X p (xs.map I))(hm:m<=h0.n)(hj:j<xs.length)
  (k:∀ X',X'.n=X.n->WB h0 X' p ((xs.set j a).map I)->Wo p X X'->(Wf X->Wf X')->Wb P tab m N0 (w::l) g false ⟨t,ds,rd⟩ (inC X') Q) (hx:WN t x (yJ p j):=by exact zO) (hy:WN t y (I a):=by exact zO):
  Wb P tab m N0 ((⟨none,none,.store 1 x y⟩,[])::w::l) g cl ⟨t,ds,rd⟩ (inC X) Q:=by
 obtain⟨q,q1,q2,hp,aL⟩:=zE4 (a:=a) o hj;rw[Wb,QC (show ¬Nat.beq (zE (Wz.store 1 x y)) 3=true from Bool.noConfusion)];have jR:zk (inC (inC X)) ⟨q,j,none⟩ [I a]=some ((inC (inC X)).set q (.row ((xs.set j a).map I) true 0)):=by
  have:WB h0 (inC (inC X)) p (xs.map I):=o;obtain⟨q',_,_,dN,h⟩:=zE4 (a:=a) this hj;rw[hp]at dN;cases dN;exact h
 have hx:ev t x=yJ p j:=hx;have hy:ev t y=I a:=hy;have hc:(I a).cells=#[I a]:=rfl;refine VR undef ((inC (inC X)).set q (.row ((xs.set j a).map I) true 0)) rfl (by
  simp only[WK,hx,hp,yJ,Q8,hy,hc,jR,QL];rfl) ?_
 have CV:(inC (inC X)).log q=[q]:=by
  have:Nat.ble X.n q=false:=by
   cases hb:Nat.ble X.n q with
   |false=>rfl
   |true=>have:=QP hb;omega
  show(bif Nat.ble X.n q then[]else q::[])=_;rw[this];rfl
 have uz:((inC (inC X)).set q (.row ((xs.set j a).map I) true 0)).wr=[q]:=CV;refine WO.nil ⟨⟨fun c hc=> ?_,QF _,.inl rfl⟩,?_⟩
 ·rw[uz]at hc;rw[QO]at hc;subst hc;omega
 ·rw[uz,show(cl&&[q].isEmpty)=false by cases cl<;>rfl];have:=k ((inC (inC X)).set q (.row ((xs.set j a).map I) true 0)) rfl ⟨q,q1,q2,hp,by rw[zn,QJ rfl]⟩ ⟨QF _,fun c _ hc=>by rw[zn,QC (fun e=>hc (by rw[hp,e]))];rfl⟩ (fun wf c hc=>by have hc:X.n<=c:=hc;rw[zn,QC ω];exact wf c hc);obtain⟨o2,Sw⟩:=w;unfold Wb at this |-;exact this
def UG{N0 g:Nat}{cl:Bool}{x y:Operand}{p:Value}{xs:List Int}{j:Nat}{a:Int}{h0 hS X:WA}{K:WL->WM->WA->Prop}(o:WB h0 X p (xs.map I))(e0:WH h0 hS)(hm:hS.mark<=h0.n)(hn:X.n=hS.n)(u:Wo p hS X)(wf:Wf hS->Wf X)(hj:j<xs.length)
  (k:∀ h1,WH h0 h1->WB h0 h1 p ((xs.set j a).map I)->Wo p hS h1->K .normal ⟨t,ds,rd⟩ h1) (hx:WN t x (yJ p j):=by exact zO) (hy:WN t y (I a):=by exact zO):
  Wb P tab hS.mark N0 [(⟨none,none,.store 1 x y⟩,[])] g cl ⟨t,ds,rd⟩ (inC X) (SJ K hS):=by
 obtain⟨q,q1,q2,hp,_⟩:=zE4 (a:=a) o hj;rw[Wb,QC (show ¬Nat.beq (zE (Wz.store 1 x y)) 3=true from Bool.noConfusion)];have jR:zk (inC (inC X)) ⟨q,j,none⟩ [I a]=some ((inC (inC X)).set q (.row ((xs.set j a).map I) true 0)):=by
  have:WB h0 (inC (inC X)) p (xs.map I):=o;obtain⟨q',_,_,dN,h⟩:=zE4 (a:=a) this hj;rw[hp]at dN;cases dN;exact h
 have hx:ev t x=yJ p j:=hx;have hy:ev t y=I a:=hy;have hc:(I a).cells=#[I a]:=rfl;refine VR undef ((inC (inC X)).set q (.row ((xs.set j a).map I) true 0)) rfl (by
  simp only[WK,hx,hp,yJ,Q8,hy,hc,jR,QL];rfl) ?_
 refine WO.nil ⟨⟨fun c hc=> ?_,QF _,.inl rfl⟩,?_⟩
 ·have fc:c∈(inC (inC X)).log q:=hc;rcases yj fc with rfl|h
  ·omega
  ·cases h
 have bz:∀ c,(z9 hS ((inC (inC X)).set q (.row ((xs.set j a).map I) true 0))).get c=if c=q then some (.row ((xs.set j a).map I) true 0)else X.get c:=fun c=>zU _ _ _ _;refine k (z9 hS ((inC (inC X)).set q (.row ((xs.set j a).map I) true 0))) ?_ ⟨q,q1,q2,hp,by rw[bz,QJ rfl]⟩ ⟨by show hS.n<=X.n;omega,fun c hc hv=>by rw[bz,QC (fun e=>hv (by rw[hp,e]))];exact u.2 c hc hv⟩;refine⟨by show h0.n<=X.n;rw[hn];exact e0.n,fun c hc=> ?_,fun w c hc=> ?_,e0.mark,fun de=>e0.wr de⟩
 ·rw[bz,QC ω];exact(u.2 c (by have:=e0.n;omega) (fun e=>by rw[hp]at e;cases e;omega)).trans (e0.get c hc)
 ·have hc:X.n<=c:=hc;rw[bz,QC ω];exact wf (e0.wf w) c hc
def zNI{xs:List Int}{j n:Nat}(h:j+n<=xs.length):(cut (xs.map I) j n).bind (zI true)=some (.agg (((xs.drop j).take n).map I).toArray):=by
 rw[yz (by simp;omega)];simp[zI]
def Vp{d j n:Nat}{x:Operand}{p:Value}{xs:List Int}{h0 h:WA}{l:List WE}{Q:WM->WA->Prop}(o:WB h0 h p (xs.map I))(hn:j+n<=xs.length)(k:WO P tab l ⟨t.set d (.agg (((xs.drop j).take n).map I).toArray),ds,rd⟩ h Q)(hx:WN t x (yJ p j):=by exact zO):WO P tab (⟨some d,none,.load true n x⟩::l) ⟨t,ds,rd⟩ h Q:=
 WO.o (WB.load hx o (zNI hn)) k
def zQd{e:TypeId}{kk:IntKind}{d:Nat}(he:P.underlying e=some (.int kk))(ha:ze P (isAgg e)=some false){xs ys:List Int}(hl:xs.length=ys.length):∀ (m i:Nat),i+m=xs.length->
  ze P (do
   let s <-(forIn (List.range' i m) (none,()) fun f (__s:Option Bool×Unit)=>do
           let __do_lift <-part e (xs.map I).toArray (f*1)
           let __do_lift_1 <-part e (ys.map I).toArray (f*1)
           let __do_lift <-Op.equalIn (d+1) e __do_lift __do_lift_1
           if(!__do_lift)=true then pure (ForInStep.done (some false,()))
            else pure (ForInStep.yield (none,())):Sem (Option Bool×Unit))
   match s.fst with
        |some r=>pure r
        |none=>pure true)=some (decide (xs.drop i=ys.drop i)):=by
 intro m;induction m with
 |zero=>
  intro i hi;have h1:xs.drop i=[]:=List.drop_eq_nil_of_le ω;have h2:ys.drop i=[]:=List.drop_eq_nil_of_le ω;rw[h1,h2];rfl
 |succ m ih=>
  intro i hi;have hx:i<xs.length:=ω
  have hy:i<ys.length:=ω
  have px:ze P (part e (xs.map I).toArray (i*1))=some (I xs[i]):=zDF (by rw[ha]) (by simp[hx]);have py:ze P (part e (ys.map I).toArray (i*1))=some (I ys[i]):=zDF (by rw[ha]) (by simp[hy]);have heq:ze P (Op.equalIn (d+1) e (I xs[i]) (I ys[i]))=some (decide (xs[i]=ys[i])):=by
   rw[Op.equalIn,zS,y9 he];simp only[QV,Qz,zH8];congr 1
  rw[List.range'_succ,List.forIn_cons];simp only[bind_assoc,zS,px,py,QV,heq];have e1:(xs.drop i=ys.drop i)↔(xs[i]=ys[i]/\xs.drop (i+1)=ys.drop (i+1)):=by rw[GB hx,GB hy,List.cons.injEq]
  by_cases h:xs[i]=ys[i]
  ·have:=ih (i+1) ω;rw[Qa h,show decide (xs.drop i=ys.drop i)=decide (xs.drop (i+1)=ys.drop (i+1))from decide_eq_decide.2 (e1.trans ⟨fun h=>h.2,fun k=>⟨h,k⟩⟩),<-this,zS];rfl
  ·rw[QY h,show decide (xs.drop i=ys.drop i)=false from QY fun k=>h (e1.1 k).1];rfl
def zUE{t e:TypeId}{kk:IntKind}{n:Nat}{xs ys:List Int}{x y:Operand}(ht:P.underlying t=some (.array n e))(he:P.underlying e=some (.int kk))(ha:ze P (isAgg e)=some false)(hs:ze P (sizeOf e)=some 1)(hg:P.eqGuardType P.depth t=false)(hx:xs.length=n)(hy:ys.length=n):
  ze P (do eqGuard .eql t x y (.agg (xs.map I).toArray) (.agg (ys.map I).toArray);binOp .eql t (.agg (xs.map I).toArray) (.agg (ys.map I).toArray))=some (.bool (decide (xs=ys))):=by
 have h1:ze P (eqGuard .eql t x y (.agg (xs.map I).toArray) (.agg (ys.map I).toArray))=some ():=by
  unfold eqGuard;simp only[Qe,Qy,Gt];rw[zS,ZC];simp only[QV];rw[zS,ZC];simp only[QV,hg,Ql,Qz];rfl
 rw[zS,h1];simp only[QV];unfold binOp;simp only[];rw[zS];have h2:ze P (Op.equal t (.agg (xs.map I).toArray) (.agg (ys.map I).toArray))=some (decide (xs=ys)):=by
  unfold Op.equal Op.maxDepth;rw[show(10000:Nat)=9999+1 from rfl,Op.equalIn,zS,y9 ht];simp only[QV];rw[zS,hs];simp only[QV];have:=zQd (P:=P) (d:=9998) he ha (xs:=xs) (ys:=ys) ω n 0 ω;rw[GI,GI]at this;rw[<-this,zS,zS];first|rw[Std.Legacy.Range.forIn_eq_forIn_range']|rw[Std.Range.forIn_eq_forIn_range']
  have hsz:(Std.Legacy.Range.size [:n])=n:=by simp[Std.Legacy.Range.size]
  rw[hsz];congr 1;funext a;obtain⟨a,_⟩:=a;cases a<;>rfl
 rw[h2];rfl
noncomputable def zS3(P:Program)(t:TypeId)(n:Nat):Bool:=
 (match P.underlying t with
 |some (.array m e)=>Nat.beq m n&&(match P.underlying e with|some (.int _)=>true|_=>false)&&(match ze P (isAgg e)with|some false=>true|_=>false)&&(match ze P (sizeOf e)with|some 1=>true|_=>false)
 |_=>false)&& !P.eqGuardType P.depth t
def zSJ{t:TypeId}{n:Nat}{xs ys:List Int}{x y:Operand}(h:zS3 P t n=true)(hx:xs.length=n)(hy:ys.length=n):
  ze P (do eqGuard .eql t x y (.agg (xs.map I).toArray) (.agg (ys.map I).toArray);binOp .eql t (.agg (xs.map I).toArray) (.agg (ys.map I).toArray))=some (.bool (decide (xs=ys))):=by
 unfold zS3 at h;rw[QI]at h;obtain⟨h,hg⟩:=h;have hg:P.eqGuardType P.depth t=false:=by cases hh:P.eqGuardType P.depth t with|false=>rfl|true=>rw[hh]at hg;cases hg
 split at h
 ·rename_i m e ht;simp only[QI]at h;obtain⟨⟨⟨h1,h2⟩,h3⟩,h4⟩:=h;have hm:=QN h1;subst hm;split at h2
  ·rename_i kk he;refine zUE ht he ?_ ?_ hg hx hy
   ·split at h3
    ·assumption
    ·cases h3
   ·split at h4
    ·assumption
    ·cases h4
  ·cases h2
 ·cases h
def zM6(K:WL->WM->WA->Prop):WL->WM->WA->Prop
 | .normal,fr,h=>K .normal fr h
 | .exit i,fr,h=>K (.exit i) fr h
 | .goto _,_,_=>False
 | .ret,fr,h=>K .ret fr h
def zBs{K fr h}(hx:K .ret fr h):zM6 K .ret fr h:=hx
def Vu{b fr h K}(hx:WX P tab b fr h (zM6 K)):WX P tab (.scope b) fr h K:=by
 unfold WX at hx |-;obtain⟨e,ae,h',k,ev⟩:=hx;have run:∀ n,(BE P tab n).exec b fr h=some (e,ae,h')->(∀ l,e≠ .goto l)->Z5 (BE P tab n) zG3 b b fr h=some (e,ae,h'):=fun n h1 h2=>by
  show Z5 (BE P tab n) (4294967295+1) b b fr h=_;rw[Z5,h1];cases e with
  |goto l=>exact absurd rfl (h2 l)
  |_=>rfl
 cases e with
 |goto l=>exact k.elim
 |normal=>exact⟨_,_,_,k,Ev.up (ev.mono fun n e=>by rw[zx];simp only[zo];exact run n e (fun l h=>by cases h))⟩
 |exit i=>exact⟨_,_,_,k,Ev.up (ev.mono fun n e=>by rw[zx];simp only[zo];exact run n e (fun l h=>by cases h))⟩
 |ret=>exact⟨_,_,_,k,Ev.up (ev.mono fun n e=>by rw[zx];simp only[zo];exact run n e (fun l h=>by cases h))⟩
end
def B6{α:Type}(R:WA->List Value->α->Prop)(h:WA)(cs:List Value)(a:α)(D:Nat->Prop):Prop:=
 ∀ hx:WA,(∀ k o,D k->h.get k=some o->hx.get k=some o)->h.n<=hx.n->R hx cs a
def WR{α:Type}(c:Nat)(R:WA->List Value->α->Prop)(b:Nat)(h:WA)(v:Value)(xs:List α):Prop:=
 (v=.slice none 0 0/\xs=[])\/∃ g cells D,b<=g/\g<h.n/\v=.slice (some ⟨g,0,none⟩) xs.length c/\h.get g=some (.row cells true 0)/\cells.length=xs.length*c/\¬D g/\(∀ k,D k->b<=k/\k<h.n)/\
  ∀ (i:Nat) (a:α),xs[i]?=some a->B6 R h ((cells.drop (i*c)).take c) a D
section
variable {α:Type}{c b:Nat}{R:WA->List Value->α->Prop}{h h':WA}{v:Value}{xs:List α}
def B6.self{cs:List Value}{a:α}{D:Nat->Prop}(d:B6 R h cs a D):R h cs a:=d h (fun _ _ _ e=>e) (QF _)
def B6.mono{cs:List Value}{a:α}{D E:Nat->Prop}(d:B6 R h cs a D)(hE:∀ k,D k->E k)(hk:∀ k o,D k->h.get k=some o->h'.get k=some o)(hn:h.n<=h'.n):B6 R h' cs a E:=
 fun hx h1 h2=>d hx (fun k o hd e=>h1 k o (hE k hd) (hk k o hd e)) (QM hn h2)
def WR.nil:WR c R b h (.slice none 0 0) ([]:List α):= .inl ⟨rfl,rfl⟩
def WR.upd(o:WR c R b h v xs)(hk:∀ k,b<=k->k<h.n->h'.get k=h.get k)(hn:h.n<=h'.n):WR c R b h' v xs:=by
 rcases o with o|⟨g,cells,D,g1,g2,g3,g4,g5,g6,g7,g8⟩
 ·exact .inl o
 ·exact .inr ⟨g,cells,D,g1,QG g2 hn,g3,(hk g g1 g2).trans g4,g5,g6,fun k hd=>⟨(g7 k hd).1,QG (g7 k hd).2 hn⟩,fun i a ha=>(g8 i a ha).mono (fun _ h=>h) (fun k o hd e=>(hk k (g7 k hd).1 (g7 k hd).2).trans e) hn⟩
def WR.ext(o:WR c R b h v xs)(e:WH h h'):WR c R b h' v xs:=o.upd (fun k _ hk=>e.get k hk) e.n
def WR.dep(o:WR c R b h v xs){hx:WA}(hk:∀ k o,b<=k->k<h.n->h.get k=some o->hx.get k=some o)(hn:h.n<=hx.n):W7 c R hx v xs:=by
 rcases o with⟨rfl,rfl⟩|⟨g,cells,D,g1,g2,rfl,g4,g5,g6,g7,g8⟩
 ·exact W7.nil
 ·refine⟨cells,⟨g5,.inr ⟨g,0,cells,rfl,Z1 (hk g _ g1 g2 g4),?_,QG g2 hn⟩⟩,fun i a ha=>g8 i a ha hx (fun k o hd e=>hk k o (g7 k hd).1 (g7 k hd).2 e) hn⟩;rw[yz ω];simp[<-g5]
def WR.sl(o:WR c R b h v xs):W7 c R h v xs:=o.dep (fun _ _ _ _ e=>e) (QF _)
def WR.base{b':Nat}(o:WR c R b h v xs)(hb:b'<=b):WR c R b' h v xs:=by
 rcases o with o|⟨g,cells,D,g1,g2,g3,g4,g5,g6,g7,g8⟩
 ·exact .inl o
 ·exact .inr ⟨g,cells,D,QM hb g1,g2,g3,g4,g5,g6,fun k hd=>⟨QM hb (g7 k hd).1,(g7 k hd).2⟩,g8⟩
def zQr{cells cs:List Value}{n i:Nat}(hl:cells.length=n*c)(hc:cs.length=c)(hi:i<n):(((cells++cs).drop (i*c)).take c)=(cells.drop (i*c)).take c:=by
 have h1:i*c+c<=n*c:=by rw[<-Gw];exact GH _ hi
 rw[List.drop_append,List.take_append_of_le_length];rw[Ga];omega
def zOf{cells cs:List Value}{n:Nat}(hl:cells.length=n*c)(hc:cs.length=c):(((cells++cs).drop (n*c)).take c)=cs:=by
 rw[List.drop_append,List.drop_eq_nil_of_le ω,Gf,hl,JI,GI,Q3 ω]
def WR.snoc(o:WR c R b h v xs){cs:List Value}{a:α}{Dn:Nat->Prop}{g':Nat}{dS:List Value}(hc:cs.length=c)(d:B6 R h cs a Dn)(hD:∀ k,Dn k->b<=k/\k<h.n)(hv:∀ g n k,v=.slice (some ⟨g,0,none⟩) n k->¬Dn g)
  (hold:∀ g n k,v=.slice (some ⟨g,0,none⟩) n k->h.get g=some (.row dS true 0)) (cY:v=.slice none 0 0->dS=[])
  (hg:h.n<=g') (hb:b<=g') (ir:g'<h'.n) (a9:h'.get g'=some (.row (dS++cs) true 0)) (keep:∀ k,b<=k->k<h.n->(∀ n k',v≠ .slice (some ⟨k,0,none⟩) n k')->h'.get k=h.get k):
  WR c R b h' (.slice (some ⟨g',0,none⟩) (xs++[a]).length c) (xs++[a]):=by
 rcases o with⟨rfl,rfl⟩|⟨g,cells,D,g1,g2,rfl,g4,g5,g6,g7,g8⟩
 ·have:=cY rfl;subst this;refine .inr ⟨g',cs,Dn,hb,ir,rfl,by simpa using a9,by simp[hc],fun hd=>by have:=(hD _ hd).2;omega,fun k hd=>⟨(hD k hd).1,by have:=(hD k hd).2;omega⟩,fun i x hx=> ?_⟩;have hi:i=0:=by
   have:=(QS.1 hx).1;simp at this;omega
  subst hi;simp at hx;subst hx;rw[Nat.zero_mul,GI,Q3 ω];exact d.mono (fun _ h=>h) (fun k o hd e=>(keep k (hD k hd).1 (hD k hd).2 (fun _ _ e=>by cases e)).trans e) ω
 ·have:=hold g _ _ rfl;rw[g4]at this;cases this;refine .inr ⟨g',dS++cs,fun k=>D k\/Dn k,hb,ir,rfl,a9,by rw[QH,QH,Qb,Gw,g5,hc],fun hd=> ?_,fun k hd=> ?_,fun i x hx=> ?_⟩
  ·rcases hd with hd|hd
   ·have:=(g7 _ hd).2;omega
   ·have:=(hD _ hd).2;omega
  ·rcases hd with hd|hd
   ·exact⟨(g7 k hd).1,by have:=(g7 k hd).2;omega⟩
   ·exact⟨(hD k hd).1,by have:=(hD k hd).2;omega⟩
  ·by_cases hi:i<xs.length
   ·rw[Qg hi]at hx;rw[zQr g5 hc hi];refine(g8 i x hx).mono (fun k h=> .inl h) (fun k o hd e=>(keep k (g7 k hd).1 (g7 k hd).2 (fun n k' e2=> ?_)).trans e) ω;cases e2;exact g6 hd
   ·rw[Qk ω]at hx;have cN:i=xs.length:=by
     have:=(QS.1 hx).1;simp at this;omega
    subst cN;simp at hx;subst hx;rw[zOf g5 hc];refine d.mono (fun k h=> .inr h) (fun k o hd e=>(keep k (hD k hd).1 (hD k hd).2 (fun n k' e2=> ?_)).trans e) ω;exact hv k n k' e2 hd
end
section
variable {P:Program}{tab:Ws}{t:WG Value}{h:WA}{ds:List Deferred}{rd:Option Nat}{l:List WE}{Q:WM->WA->Prop}
def YB{zero cs:List Value}{v:Value}{c:Nat}(hv:v.cells=cs.toArray)(hc:cs.length=c)(hz:zero.length=c):ZE (zi zero 1) [(0,c,v)]=some cs:=by
 have h1:zi zero 1=zero:=by simp[zi]
 have h2:Nat.beq v.cells.size c=true:=by rw[hv];simp[hc]
 have h3:Nat.ble (0+c) zero.length=true:=QK ω;rw[h1];simp only[ZE,h2,h3,GC,cond_true,hv];congr 1;simp[zX,hc,hz]
def YJ{α:Type}{c b gl:Nat}{R:WA->List Value->α->Prop}{h H:WA}{v:Value}{xs:List α}{cs:List Value}{a:α}{Dn:Nat->Prop}(o:WR c R b h v xs)(hc:cs.length=c)(a8:0<c)(h1:zK cs=true)(hl:xs.length<=100000)(dC:b<=h.n)
  (d:B6 R h cs a Dn) (hD:∀ k,Dn k->b<=k/\k<h.n) (hv:∀ g n k,v=.slice (some ⟨g,0,none⟩) n k->¬Dn g) (hH:h.n<=H.n) (fA:gl<H.n) (cW:∀ k,k<h.n->H.get k=h.get k) (CX:H.get gl=some (.row cs true 0)):
  ∃ v' H',yR c v (.slice (some ⟨gl,0,none⟩) 1 c) H=some (v',H')/\WR c R b H' v' (xs++[a])/\H'.n=H.n+1/\(∀ k,k<H.n->(∀ n k',v≠ .slice (some ⟨k,0,none⟩) n k')->H'.get k=H.get k)/\H'.mark=H.mark/\(∀ k∈H'.wr,k∈H.wr\/b<=k)/\
   (H.mark<=b->H'.wr=H.wr)/\(Wf H->Wf H')/\(∃ n k g,v'=.slice (some ⟨g,0,none⟩) n k/\H.n<=g):=by
 obtain⟨y,ys,rfl⟩:∃ y ys,cs=y::ys:=by
  cases cs with
  |nil=>simp at hc;omega
  |cons y ys=>exact⟨y,ys,rfl⟩
 have aX:yq c H (.slice (some ⟨gl,0,none⟩) 1 c)=some (y::ys):=by
  have e1:z0 H gl=some (y::ys):=Z1 CX;have e2:cut (y::ys) 0 (1*c)=some (y::ys):=by rw[yz ω];simp[<-hc]
  have e3:Nat.beq 1 0=false:=rfl;rw[Nat.one_mul]at e2;simp only[yq,e1,e3,Nat.one_mul,e2,Gl,Q2,GC,cond_true,QU]
 have hdiv:(y::ys).length / c=1:=by rw[hc];exact Nat.div_self a8
 have aN:room=4294967296:=rfl;rcases id o with⟨rfl,rfl⟩|⟨g,cells,D,g1,g2,rfl,g4,g5,g6,g7,g8⟩
 ·have dM:Nat.ble 1 room=true:=rfl;refine⟨.slice (some ⟨H.n,0,none⟩) 1 c,H.push (.row (y::ys) true 0),?_,?_,rfl,fun k hk _=> ?_,rfl,fun k hk=> .inl hk,fun _=>rfl,fun w k hk=> ?_,⟨_,_,_,rfl,QF _⟩⟩
  ·simp only[yR,aX,h1,Qe,QU,hdiv,dM,cond_true];rfl
  ·have:=o.snoc (h':=H.push (.row (y::ys) true 0)) (g':=H.n) (dS:=[]) hc d hD hv (fun g n k e=>by cases e) (fun _=>rfl) hH (QM dC hH) (Q9 _) (zT _ _) (fun k _ hk _=>by rw[zM,QC ω];exact cW k hk);exact this
  ·rw[zM,QC ω]
  ·have hk:H.n+1<=k:=hk;rw[zM,QC ω];exact w k ω
 ·have dM:Nat.ble (xs.length+1) room=true:=QK ω;have hq:H.get g=some (.row cells true 0):=(cW g g2).trans g4;have h2:cut cells 0 (xs.length*c)=some cells:=by rw[yz ω];simp[<-g5]
  have h3:Nat.ble 0 (0+xs.length*c)=true:=QK (QQ _);have fJ:Nat.beq c 0=false:=by cases hz:Nat.beq c 0 with
   |false=>rfl
   |true=>have:=QN hz;omega
  have CY:(H.kill g).n=H.n:=rfl;refine⟨.slice (some ⟨H.n,0,none⟩) (xs.length+1) c,(H.kill g).push (.row (cells++y::ys) true (0-0)),?_,?_,rfl,fun k hk jS=> ?_,rfl,fun k hk=> ?_,fun hm=> ?_,fun w k hk=> ?_,⟨_,_,_,rfl,QF _⟩⟩
  ·simp only[yR,aX,h1,Qe,QU,hdiv,dM,fJ,Gl,hq,h2,h3,cond_true,Q2,GC]
  ·have:=o.snoc (h':=(H.kill g).push (.row (cells++y::ys) true (0-0))) (g':=H.n) (dS:=cells) hc d hD hv (fun g n k e=>by cases e;exact g4) (fun e=>by cases e) hH (QM dC hH) (Q9 _) (zT (H.kill g) _) (fun k _ hk jS=>by
    rw[zM,QC (by rw[CY];omega),yn,QC (fun e=>jS _ _ (by rw[e]))];exact cW k hk)
   rw[QH,Qb]at this;exact this
  ·rw[zM,QC (by rw[CY];omega),yn,QC (fun e=>jS _ _ (by rw[e]))]
  ·have aU:k∈H.log g:=hk;rcases yj aU with rfl|h
   ·exact .inr g1
   ·exact .inl h
  ·show H.log g=H.wr;exact zAy ω
  ·have hk:H.n+1<=k:=hk;rw[zM,QC (by rw[CY];omega),yn];split
   ·rfl
   ·exact w k ω
def Ub{α:Type}{c b d1 d2:Nat}{R:WA->List Value->α->Prop}{hB:WA}{v w:Value}{xs:List α}{cs zero:List Value}(a:α)(Dn:Nat->Prop){x y:Operand}(o:WR c R b h v xs)(e0:WH hB h)(hb:hB.n<=b)(dC:b<=h.n)(a8:0<c)(hl:xs.length<=100000)
  (d:B6 R h cs a Dn) (hD:∀ k,Dn k->b<=k/\k<h.n) (hv:∀ g n k,v=.slice (some ⟨g,0,none⟩) n k->¬Dn g)
  (k:∀ v' h' lit,WH hB h'->WR c R b h' v' (xs++[a])->h.n<=h'.n->(∀ k,k<h.n->(∀ n k',v≠ .slice (some ⟨k,0,none⟩) n k')->h'.get k=h.get k)->WO P tab l ⟨(t.set d1 lit).set d2 v',ds,rd⟩ h' Q)
  (hx:WN t x w:=by exact zO) (hw:w.cells=cs.toArray:=by rfl) (hc:cs.length=c:=by rfl) (h1:zK cs=true:=by rfl) (hz:zero.length=c:=by rfl) (hy:∀ u,WN (t.set d1 u) y v:=by intro u;exact zO):
  WO P tab (⟨some d1,none,.buildSlice 1 c zero [(0,c,x)]⟩::⟨some d2,none,.append c y (.tmp d1)⟩::l) ⟨t,ds,rd⟩ h Q:=by
 have hx:ev t x=w:=hx;refine WO.op (.slice (some ⟨h.n,0,none⟩) 1 c) (h.push (.row cs true 0)) rfl (by
  simp only[WK,zr,Qi,Gc,hx,YB hw hc hz,QL];rfl) ?_
 obtain⟨v',H',q1,q2,q3,q4,q5,q6,q7,q8,q9⟩:=YJ (H:=h.push (.row cs true 0)) (gl:=h.n) o hc a8 h1 hl dC d hD hv (GU _) (Q9 _) (fun k hk=>by rw[zM,QC ω]) (zT _ _);have gO:ev (t.set d1 (.slice (some ⟨h.n,0,none⟩) 1 c)) y=v:=hy _;have e1:ev (t.set d1 (.slice (some ⟨h.n,0,none⟩) 1 c)) (.tmp d1)=.slice (some ⟨h.n,0,none⟩) 1 c:=by simp only[ev,zg,Qz]
 refine WO.op v' H' rfl (by simp only[WK,gO,e1,q1]) (k v' H' _ ?_ q2 (by rw[q3];show h.n<=h.n+1+1;omega) (fun k hk jS=> ?_))
 ·have gf:∀ k,k<hB.n->∀ n k',v≠ .slice (some ⟨k,0,none⟩) n k':=fun k hk n k' e=>by
   rcases o with⟨e2,_⟩|⟨g,_,_,g1,_,e2,_⟩
   ·rw[e2]at e;cases e
   ·rw[e2]at e;cases e;omega
  refine⟨by rw[q3];show hB.n<=h.n+1+1;have:=e0.n;omega,fun k hk=> ?_,fun w=>q8 ?_,q5.trans e0.mark,fun hm=> ?_⟩
  ·have:=e0.n;rw[q4 k (by show k<h.n+1;omega) (gf k hk),zM,QC ω];exact e0.get k hk
  ·intro k hk;have hk:h.n+1<=k:=hk;rw[zM,QC ω];exact e0.wf w k ω
  ·rw[q7 (by show h.mark<=b;rw[e0.mark];omega)];exact e0.wr hm
 ·rw[q4 k (by show k<h.n+1;omega) jS,zM,QC ω]
end
section
variable {P:Program}{tab:Ws}{m:Nat}{aH:Nat->Prop}{l:List (WE×List Nat)}{o:WE}{un:List Nat}{g:Nat}{fr:WM}{h h0 h':WA}{Q:WM->WA->Prop}{K:WL->WM->WA->Prop}{t:WG Value}{ds:List Deferred}{rd:Option Nat}
def zCX{α:Type}{c i:Nat}{R:WA->List Value->α->Prop}{v:Value}{xs:List α}(s:W7 c R h v xs)(hi:i<xs.length):∃ a n k,v=.slice (some a) n k/\a.block<h.n:=by
 obtain⟨cells,⟨h1,⟨h2,_⟩|⟨g,off,row,rfl,_,_,hg⟩⟩,_⟩:=s
 ·omega
 ·exact⟨_,_,_,rfl,hg⟩
def zHt{c i n:Nat}{h:WA}{v:Value}{cells:List Value}(a:Wm c h v n cells)(hi:i<n):Wv h v (i*c) ((cells.drop (i*c)).take c):=by
 have hlen:cells.length=n*c:=a.1;have hle:i*c+c<=cells.length:=by
  rw[hlen,<-Gw];exact GH _ hi
 intro P ih t x agg k off r hx hn hr;cases hc:cut ((cells.drop (i*c)).take c) off k with
 |none=>rw[hc]at hr;cases hr
 |some m=>
  rw[hc]at hr;have h1:cut cells (i*c) c=Option.some ((cells.drop (i*c)).take c):=yz hle;exact zFv a hx (zGI h1 hc) hn hr
def zq{α:Type}[Inhabited α]{c:Nat}{R:WA->List Value->α->Prop}{h:WA}{v:Value}{T:List α}{i:Nat}(s:W7 c R h v T)(hi:i<T.length):∃ cs,R h cs (T.getD i default)/\(∀ h',WH h h'->Wv h' v (i*c) cs/\Wv (inC h') v (i*c) cs)/\zJQ v:=by
 have hs:=s.some hi;obtain⟨cells,a,b⟩:=s;refine⟨_,by simpa [List.getD,QB hi]using b i T[i] (QB hi),fun h' e=> ?_,hs⟩;have a':=a.ext e;exact⟨zHt a' hi,zHt (h:=inC h') a' hi⟩
end
section
variable {P:Program}{tab:Ws}{t:WG Value}{h:WA}{ds:List Deferred}{rd:Option Nat}{l:List WE}{Q:WM->WA->Prop}
def XB{α:Type}{c b d1 d2:Nat}{R:WA->List Value->α->Prop}{hB:WA}{v w:Value}{xs:List α}{cs zero:List Value}(a:α)(Dn:Nat->Prop){x y:Operand}(o:WR c R b h v xs)(e0:WH hB h)(hb:hB.n<=b)(dC:b<=h.n)(a8:0<c)(hl:xs.length<=100000)
  (d:B6 R h cs a Dn) (hD:∀ k,Dn k->b<=k/\k<h.n) (hv:∀ g n k,v=.slice (some ⟨g,0,none⟩) n k->¬Dn g)
  (k:∀ v' h' lit,WH hB h'->WR c R b h' v' (xs++[a])->h.n<=h'.n->(∀ k,k<h.n->(∀ n k',v≠ .slice (some ⟨k,0,none⟩) n k')->h'.get k=h.get k)->(∀ k∈h'.wr,k∈h.wr\/b<=k)->WO P tab l ⟨(t.set d1 lit).set d2 v',ds,rd⟩ h' Q)
  (hx:WN t x w:=by exact zO) (hw:w.cells=cs.toArray:=by rfl) (hc:cs.length=c:=by rfl) (h1:zK cs=true:=by rfl) (hz:zero.length=c:=by rfl) (hy:∀ u,WN (t.set d1 u) y v:=by intro u;exact zO):
  WO P tab (⟨some d1,none,.buildSlice 1 c zero [(0,c,x)]⟩::⟨some d2,none,.append c y (.tmp d1)⟩::l) ⟨t,ds,rd⟩ h Q:=by
 have hx:ev t x=w:=hx;refine WO.op (.slice (some ⟨h.n,0,none⟩) 1 c) (h.push (.row cs true 0)) rfl (by
  simp only[WK,zr,Qi,Gc,hx,YB hw hc hz,QL];rfl) ?_
 obtain⟨v',H',q1,q2,q3,q4,q5,q6,q7,q8,q9⟩:=YJ (H:=h.push (.row cs true 0)) (gl:=h.n) o hc a8 h1 hl dC d hD hv (GU _) (Q9 _) (fun k hk=>by rw[zM,QC ω]) (zT _ _);have gO:ev (t.set d1 (.slice (some ⟨h.n,0,none⟩) 1 c)) y=v:=hy _;have e1:ev (t.set d1 (.slice (some ⟨h.n,0,none⟩) 1 c)) (.tmp d1)=.slice (some ⟨h.n,0,none⟩) 1 c:=by simp only[ev,zg,Qz]
 refine WO.op v' H' rfl (by simp only[WK,gO,e1,q1]) (k v' H' _ ?_ q2 (by rw[q3];show h.n<=h.n+1+1;omega) (fun k hk jS=> ?_) q6)
 ·have gf:∀ k,k<hB.n->∀ n k',v≠ .slice (some ⟨k,0,none⟩) n k':=fun k hk n k' e=>by
   rcases o with⟨e2,_⟩|⟨g,_,_,g1,_,e2,_⟩
   ·rw[e2]at e;cases e
   ·rw[e2]at e;cases e;omega
  refine⟨by rw[q3];show hB.n<=h.n+1+1;have:=e0.n;omega,fun k hk=> ?_,fun w=>q8 ?_,q5.trans e0.mark,fun hm=> ?_⟩
  ·have:=e0.n;rw[q4 k (by show k<h.n+1;omega) (gf k hk),zM,QC ω];exact e0.get k hk
  ·intro k hk;have hk:h.n+1<=k:=hk;rw[zM,QC ω];exact e0.wf w k ω
  ·rw[q7 (by show h.mark<=b;rw[e0.mark];omega)];exact e0.wr hm
 ·rw[q4 k (by show k<h.n+1;omega) jS,zM,QC ω]
def V3{x y:Operand}{p v:Value}{cells cs:List Value}{n:Nat}{h0:WA}(o:WB h0 h p cells)(e0:WH h0 h)(k:∀ h',WH h0 h'->WB h0 h' p cs->Wo p h h'->(∀ k∈h'.wr,k∈h.wr\/h0.n<=k)->WO P tab l ⟨t,ds,rd⟩ h' Q)
  (hx:WN t x p:=by exact zO) (hy:WN t y v:=by exact zO) (hv:v.cells=cs.toArray:=by rfl) (hn:cs.length=n:=by rfl) (hl:cells.length=n:=by rfl) (h1:zK cs=true:=by rfl):WO P tab (⟨none,none,.store n x y⟩::l) ⟨t,ds,rd⟩ h Q:=by
 obtain⟨g,g1,g2,rfl,g3⟩:=o;have hx:ev t x=.pointer (some ⟨g,0,none⟩):=hx;have hy:ev t y=v:=hy;have e:zX cells 0 cs=cs:=by simp[zX,hn,hl]
 have aL:zk h ⟨g,0,none⟩ cs=some (h.set g (.row cs true 0)):=by
  have h2:Nat.ble (0+cs.length) cells.length=true:=QK ω;have h0:Nat.ble 0 0=true:=rfl;simp only[zk,g3,h2,h0,h1,GC,e];rfl
 have lZ:Nat.beq cs.length n=true:=by rw[hn];exact Gl _
 refine VR undef (h.set g (.row cs true 0)) rfl ?_ (k _ (e0.set g1 g2 _) ⟨g,g1,g2,rfl,by rw[zn,QJ rfl]⟩ ⟨QF _,fun k _ hk=> ?_⟩ fun k hk=> ?_)
 ·simp only[WK,hx,hy,hv,G2,lZ,aL,QL,cond_true]
 ·rw[zn,QC (fun e=>hk (by rw[e]))]
 ·have hk:k∈h.log g:=hk;rcases yj hk with rfl|h
  ·exact .inr g1
  ·exact .inl h
def UJ{d:Nat}{x y:Operand}{v w:Value}{xs ys:List Int}{h0:WA}(o:WP h0 h v xs)(s:Wc h w ys)(e0:WH h0 h)(ah:ys≠[])(hr:xs.length+ys.length<=4294967296)
  (k:∀ v' h',WH h0 h'->WP h0 h' v' (xs++ys)->Bm v h h'->(∀ k∈h'.wr,k∈h.wr\/h0.n<=k)->(∀ g n c,v'=.slice (some ⟨g,0,none⟩) n c->h.n<=g)->WO P tab l ⟨t.set d v',ds,rd⟩ h' Q)
  (hx:WN t x v:=by exact zO) (hy:WN t y w:=by exact zO):WO P tab (⟨some d,none,.append 1 x y⟩::l) ⟨t,ds,rd⟩ h Q:=by
 have hx:ev t x=v:=hx;have hy:ev t y=w:=hy;have aX:=Zu s;have aN:room=4294967296:=rfl;obtain⟨z,zs,rfl⟩:∃ z zs,ys=z::zs:=by
  cases ys with
  |nil=>exact absurd rfl ah
  |cons z zs=>exact⟨z,zs,rfl⟩
 have aT:zK (I z::zs.map I)=true:=zB7 (z::zs);have hlen:(I z::zs.map I).length / 1=(z::zs).length:=by simp
 rcases o with⟨rfl,rfl⟩|⟨g,g1,g2,rfl,g3⟩
 ·have h1:Nat.ble (z::zs).length room=true:=QK (by rw[aN];simpa using hr);refine WO.op (.slice (some ⟨h.n,0,none⟩) (z::zs).length 1) (h.push (.row ((z::zs).map I) true 0)) rfl ?_ (k _ _ (e0.push _) (.inr ⟨h.n,e0.n,by simp[WA.push],rfl,zT _ _⟩) ⟨GU _,fun k hk _=> ?_⟩ (fun k hk=> .inl hk) fun g n c e=>by cases e;exact QF _)
  ·simp only[WK,hx,hy,yR,aX,Qi,aT,hlen,h1,Qe,cond_true,QU];rfl
  ·rw[zM,QC ω]
 ·have h1:Nat.ble (xs.length+(z::zs).length) room=true:=QK (by rw[aN];exact hr);have h2:cut (xs.map I) 0 (xs.length*1)=some (xs.map I):=by rw[yz (by simp)];simp[Q3]
  have hn:(h.kill g).n=h.n:=rfl;have h3:Nat.ble 0 (0+xs.length*1)=true:=QK (QQ _);refine WO.op (.slice (some ⟨h.n,0,none⟩) (xs.length+(z::zs).length) 1) ((h.kill g).push (.row (xs.map I++(z::zs).map I) true (0-0))) rfl ?_
   (k _ _ ((e0.kill g1).push _) (.inr ⟨h.n,e0.n,by simp[WA.push,WA.kill],by simp,?_⟩) ⟨GU _,fun k hk hv=> ?_⟩ (fun k hk=> ?_) fun g n c e=>by cases e;exact QF _)
  ·simp only[WK,hx,hy,yR,aX,Qi,aT,hlen,h1,g3,h2,h3,Qe,cond_true,QU];rfl
  ·have:=zT (h.kill g) (.row (xs.map I++(z::zs).map I) true (0-0));rw[hn]at this;rw[this];simp
  ·rw[zM,QC (by rw[hn];omega),yn,QC (fun e=>hv _ _ _ rfl e.symm)]
  ·have hk:k∈h.log g:=hk;rcases yj hk with rfl|h
   ·exact .inr g1
   ·exact .inl h
end
section
variable {P:Program}{tab:Ws}{m N0:Nat}{l:List (WE×List Nat)}{o:WE}{g:Nat}{cl:Bool}{fr:WM}{h h0 h':WA}{Q:WM->WA->Prop}{K:WL->WM->WA->Prop}{x:WE×List Nat}{t:WG Value}
def zHC(hw:∀ k∈h'.wr,m<=k)(hn:h.n<=h'.n)(hx:K .normal fr (z9 h0 h')):uK2 P tab m N0 [] t o (inC h) [] g cl (SJ K h0) fr h':=⟨⟨hw,hn,.inl rfl⟩,hx⟩
def zL2(hw:∀ k∈h'.wr,m<=k)(hn:h.n<=h'.n)(hx:∀ bV,Wb P tab m N0 (x::l) g bV fr (inC h') Q):uK2 P tab m N0 [] t o (inC h) (x::l) g cl Q fr h':=⟨⟨hw,hn,.inl rfl⟩,by
 have:=hx (cl&&h'.wr.isEmpty);obtain⟨y,un⟩:=x;unfold Wb at this |-;exact this⟩
def zIz{j n:Nat}{d:Option Nat}{gd:Option (Nat×Bool)}{agg:Bool}{x:Operand}{v:Value}{un:List Nat}(hv:∃ a n k,v=.slice (some a) n k/\a.block<N0)(hx:Wb P tab m N0 l g true fr (inC h) Q)(hr:WN t x (yH v j):=by exact zO):
  uK2 P tab m N0 un t ⟨d,gd,.load agg n x⟩ (inC h) l g true Q fr (inC h):=by
 obtain⟨a,n',k',rfl,hb⟩:=hv;refine zDj (fun k hk=> ?_) hx;unfold WN yH at hr;cases hw:zP t gd with
 |false=>simp only[zc,hw,QU]at hk;cases hk
 |true=>
  simp only[zc,hw,cond_true,hr,QA]at hk;omega
def zTp{j n:Nat}{b:Bool}{d:Option Nat}{agg:Bool}{x:Operand}{un:List Nat}(hx:Wb P tab m N0 l g true fr (inC h) Q)(s:Wt t j (.bool b):=by exact Yd)(hb:b=false:=by exact zGH):
  uK2 P tab m N0 un t ⟨d,some (j,true),.load agg n x⟩ (inC h) l g true Q fr (inC h):=by
 refine zDj (fun k hk=> ?_) hx;unfold Wt at s;subst hb;have hw:zP t (some (j,true))=false:=by simp only[zP,s];rfl
 simp only[zc,hw,QU]at hk;cases hk
def zTK{j n:Nat}{b:Bool}{d:Option Nat}{agg:Bool}{x:Operand}{un:List Nat}(hx:Wb P tab m N0 l g true fr (inC h) Q)(s:Wt t j (.bool b):=by exact Yd)(hb:b=true:=by exact zGH):
  uK2 P tab m N0 un t ⟨d,some (j,false),.load agg n x⟩ (inC h) l g true Q fr (inC h):=by
 refine zDj (fun k hk=> ?_) hx;unfold Wt at s;subst hb;have hw:zP t (some (j,false))=false:=by simp only[zP,s];rfl
 simp only[zc,hw,QU]at hk;cases hk
def zTT{j n:Nat}{want:Bool}{d:Option Nat}{agg:Bool}{x:Operand}{un:List Nat}(hx:Wb P tab m N0 l g true fr (inC h) Q)(s:Wt t j undef:=by exact Yd):
  uK2 P tab m N0 un t ⟨d,some (j,want),.load agg n x⟩ (inC h) l g true Q fr (inC h):=by
 refine zDj (fun k hk=> ?_) hx;unfold Wt at s;have hw:zP t (some (j,want))=false:=by simp only[zP,s];rfl
 simp only[zc,hw,QU]at hk;cases hk
end
def zBS{α:Type}{c i:Nat}{R:WA->List Value->α->Prop}{h:WA}{v:Value}{l:List α}(s:W7 c R h v l)(hl:0<l.length)(hi:i<=l.length):∃ r,Zk c v (some i) none none=some r/\W7 c R h r (l.drop i):=by
 obtain⟨cells,⟨h1,⟨h2,_⟩|⟨g,off,row,rfl,h3,h4,h5⟩⟩,hR⟩:=s
 ·omega
 have hmul:i*c<=l.length*c:=GH _ hi;have hlen:(l.drop i).length=l.length-i:=Ga ..;have cR:(l.length-i)*c=l.length*c-i*c:=Nat.sub_mul ..;refine⟨.slice (some ⟨g,off+i*c,none⟩) (l.length-i) c,?_,cells.drop (i*c),⟨by rw[Ga,hlen,cR];omega,.inr ⟨g,off+i*c,row,by rw[hlen],h3,?_,h5⟩⟩,fun j a ha=> ?_⟩
 ·have b1:Nat.ble i l.length=true:=QK hi;have b2:Nat.ble l.length l.length=true:=QK (QF _);simp only[Zk,Gv,GG,b1,b2,Q2,GC,cond_true,Gl]
 ·rw[hlen,cR];obtain⟨c1,c2⟩:=zEE h4;rw[yz ω,c2,List.drop_take,JF]
 ·have hj:j<l.length-i:=by have:=(QS.1 ha).1;omega
  have cJ:l[i+j]?=some a:=by rw[GN]at ha;exact ha
  have:=hR (i+j) a cJ;rw[JF,show i*c+j*c=(i+j)*c from(Gx ..).symm];exact this
section
variable {α:Type}{c b:Nat}{R:WA->List Value->α->Prop}
variable {P:Program}{tab:Ws}{t:WG Value}{h:WA}{ds:List Deferred}{rd:Option Nat}{l:List WE}{Q:WM->WA->Prop}
end
def zFP{l cs:List Value}{k:Nat}(h:k+cs.length<=l.length)(m:Nat):(zX l k cs)[m]?=if m<k then l[m]? else if m<k+cs.length then cs[m-k]? else l[m]?:=by
 unfold zX;by_cases h1:m<k
 ·rw[QJ h1,Qd,Qg (by rw[Qp];omega),GE,QJ h1]
 ·rw[QC h1,Qd,Qk (by rw[Qp];omega),Qp,Gg ω];by_cases h2:m<k+cs.length
  ·rw[QJ h2,Qg ω]
  ·rw[QC h2,Qk ω,GN];congr 1;omega
def zOS{l cs:List Value}{k:Nat}(h:k+cs.length<=l.length):(zX l k cs).length=l.length:=by
 unfold zX;simp only[QH,Qp,Ga];omega
def zEC{l:List Value}{a c m:Nat}:((l.drop a).take c)[m]?=if m<c then l[a+m]? else none:=by
 rw[GE];split
 ·rw[GN]
 ·rfl
def zI5{cells cs:List Value}{n c i j off:Nat}(hl:cells.length=n*c)(hi:i<n)(hj:j<n)(ho:off+cs.length<=c):
  ((zX cells (i*c+off) cs).drop (j*c)).take c=if j=i then zX ((cells.drop (i*c)).take c) off cs else(cells.drop (j*c)).take c:=by
 have LF:i*c+c<=n*c:=by rw[<-Gw];exact GH _ hi
 have Sx:j*c+c<=n*c:=by rw[<-Gw];exact GH _ hj
 refine List.ext_getElem? fun m=> ?_;rw[zEC,zFP ω];by_cases e:j=i
 ·subst e;rw[QJ rfl,zFP (by rw[Qp,Ga];omega),zEC];by_cases h1:m<c
  ·rw[QJ h1,QJ h1];by_cases h2:m<off
   ·rw[QJ (show j*c+m<j*c+off by omega),QJ h2]
   ·rw[QC (show ¬j*c+m<j*c+off by omega),QC h2];by_cases h3:m<off+cs.length
    ·rw[QJ (show j*c+m<j*c+off+cs.length by omega),QJ h3];congr 1;omega
    ·rw[QC (show ¬j*c+m<j*c+off+cs.length by omega),QC h3]
  ·rw[QC h1,QC h1,QC ω,QC ω]
 ·rw[QC e,zEC];by_cases h1:m<c
  ·rw[QJ h1,QJ h1];rcases Nat.lt_or_gt_of_ne e with h|h
   ·have:j*c+c<=i*c:=by rw[<-Gw];exact GH _ h
    rw[QJ (show j*c+m<i*c+off by omega)]
   ·have:i*c+c<=j*c:=by rw[<-Gw];exact GH _ h
    rw[QC (show ¬j*c+m<i*c+off by omega),QC (show ¬j*c+m<i*c+off+cs.length by omega)]
  ·rw[QC h1,QC h1]
section
variable {α:Type}[Inhabited α]{c b:Nat}{R:WA->List Value->α->Prop}{h:WA}{v:Value}{xs:List α}
def zR9{i off:Nat}{cs:List Value}{a:α}(o:WR c R b h v xs)(hi:i<xs.length)(ho:off+cs.length<=c)(hR:∀ old hx,R h old (xs.getD i default)->old.length=c->R hx (zX old off cs) a):
  ∃ g row,b<=g/\g<h.n/\v=.slice (some ⟨g,0,none⟩) xs.length c/\h.get g=some (.row row true 0)/\i*c+off+cs.length<=row.length/\∀ H:WA,h.n<=H.n->H.get g=some (.row (zX row (i*c+off) cs) true 0)->(∀ k,k<h.n->k≠g->H.get k=h.get k)->WR c R b H v (xs.set i a):=by
 rcases o with⟨_,rfl⟩|⟨g,cells,D,g1,g2,rfl,g4,g5,g6,g7,g8⟩
 ·simp at hi
 have LF:i*c+c<=xs.length*c:=by rw[<-Gw];exact GH _ hi
 refine⟨g,cells,g1,g2,rfl,g4,ω,fun H hn hg hk=> ?_⟩;refine .inr ⟨g,_,D,g1,QG g2 hn,by rw[Gh],hg,by rw[zOS ω,Gh];exact g5,g6,fun k hd=>⟨(g7 k hd).1,QG (g7 k hd).2 hn⟩,fun j x hx=> ?_⟩;have hj:j<xs.length:=by have:=(QS.1 hx).1;rwa [Gh]at this
 have fz:∀ k o,D k->h.get k=some o->H.get k=some o:=fun k o hd e=>(hk k (g7 k hd).2 (fun e2=>g6 (e2▸hd))).trans e;rw[zI5 g5 hi hj ho];by_cases e:j=i
 ·subst e;rw[QJ rfl];rw[JJ hi]at hx;cases hx;intro fN _ _;refine hR _ _ (?_:R h _ _) ?_
  ·have:=(g8 j xs[j] (QB hi)).self;rw[QD,QB hi];exact this
  ·rw[Qp,Ga];omega
 ·rw[QC e];rw[Ja (fun h=>e h.symm)]at hx;exact(g8 j x hx).mono (fun _ h=>h) fz hn
def zRx{i off:Nat}{cs:List Value}{a:α}(o:WR c R b h v xs)(hi:i<xs.length)(ho:off+cs.length<=c)(h1:zK cs=true)(hR:∀ old hx,R h old (xs.getD i default)->old.length=c->R hx (zX old off cs) a):
  ∃ g row,b<=g/\g<h.n/\v=.slice (some ⟨g,0,none⟩) xs.length c/\zk h ⟨g,i*c+off,none⟩ cs=some (h.set g (.row row true 0))/\∀ H:WA,h.n<=H.n->H.get g=some (.row row true 0)->(∀ k,k<h.n->k≠g->H.get k=h.get k)->WR c R b H v (xs.set i a):=by
 obtain⟨g,row,g1,g2,g3,g4,g5,g6⟩:=zR9 o hi ho hR;refine⟨g,_,g1,g2,g3,?_,g6⟩;have h2:Nat.ble (i*c+off+cs.length) row.length=true:=QK g5;have h3:Nat.ble 0 (i*c+off)=true:=QK (QQ _);simp only[zk,g4,h2,h3,h1,Q2,GC,cond_true]
variable {P:Program}{tab:Ws}{t:WG Value}{ds:List Deferred}{rd:Option Nat}{l:List WE}{Q:WM->WA->Prop}
def V9{hB hS X:WA}{N0 m g:Nat}{cl:Bool}{i off n:Nat}{cs:List Value}{x y:Operand}{u:Value}{K:WL->WM->WA->Prop}(a:α)(o:WR c R b X v xs)(e0:WH hB hS)(hm:hS.mark<=hB.n)(hX:z9 hS X=hS)(hb:hB.n<=b)(hi:i<xs.length)(hR:∀ old hx,R X old (xs.getD i default)->old.length=c->R hx (zX old off cs) a)
  (k:∀ h',WH hB h'->WR c R b h' v (xs.set i a)->h'.n=hS.n->(∀ k,k<hS.n->(∀ n k',v≠ .slice (some ⟨k,0,none⟩) n k')->h'.get k=hS.get k)->K .normal ⟨t,ds,rd⟩ h')
  (hx:WN t x (yH v (i*c+off)):=by exact zO) (hy:WN t y u:=by exact zO) (hu:u.cells=cs.toArray:=by rfl) (hn:cs.length=n:=by rfl) (ho:off+cs.length<=c:=by decide) (h1:zK cs=true:=by rfl) (gg:m=hS.mark:=by rfl):
  Wb P tab m N0 [(⟨none,none,.store n x y⟩,[])] g cl ⟨t,ds,rd⟩ (inC X) (SJ K hS):=by
 subst gg;obtain⟨q,row,q1,q2,rfl,aL,fH⟩:=zRx o hi ho h1 hR;have hx:ev t x=.pointer (some ⟨q,0+(i*c+off),none⟩):=hx;rw[Q8]at hx;have hy:ev t y=u:=hy;have lZ:Nat.beq cs.length n=true:=by rw[hn];exact Gl _
 have gX:∀ c,X.get c=hS.get c:=fun c=>by have:=congrArg (fun h:WA=>h.get c) hX;exact this
 have nX:X.n=hS.n:=by have:=congrArg WA.n hX;exact this
 rw[Wb,QC (show ¬Nat.beq (zE (Wz.store n x y)) 3=true from Bool.noConfusion)];have jR:zk (inC (inC X)) ⟨q,i*c+off,none⟩ cs=some ((inC (inC X)).set q (.row row true 0)):=by
  have e1:(inC (inC X)).get q=X.get q:=rfl;unfold zk at aL |-;rw[e1];cases hq:X.get q with
  |none=>rw[hq]at aL;cases aL
  |some o=>
   rw[hq]at aL;cases o with
   |row cells own lo=>
    cases own with
    |false=>cases aL
    |true=>
     simp only at aL |-;cases aR:(Nat.ble (i*c+off+cs.length) cells.length&&Nat.ble lo (i*c+off)&&Option.isNone (none:Option _)&&zK cs)with
     |false=>rw[aR]at aL;cases aL
     |true=>
      rw[aR]at aL;simp only[cond_true,QA]at aL |-;have:=congrArg (fun H:WA=>H.get q) aL;simp only[zn,Qz,QA]at this;rw[this]
   |_=>cases aL
 refine VR undef ((inC (inC X)).set q (.row row true 0)) rfl (by
  simp only[WK,hx,hy,hu,G2,lZ,jR,QL,cond_true]) ?_
 refine WO.nil ⟨⟨fun k hk=> ?_,QF _,.inl rfl⟩,?_⟩
 ·have aU:k∈(inC (inC X)).log q:=hk;rcases yj aU with rfl|cG
  ·omega
  ·cases cG
 have bz:∀ k,(z9 hS ((inC (inC X)).set q (.row row true 0))).get k=if k=q then some (.row row true 0)else hS.get k:=fun k=>by
  have e1:((inC (inC X)).set q (.row row true 0)).get k=if k=q then some (.row row true 0)else(inC (inC X)).get k:=zn ..;refine e1.trans ?_;split
  ·rfl
  ·exact gX k
 refine k (z9 hS ((inC (inC X)).set q (.row row true 0))) ?_ (fH _ (QF _) (by rw[bz,QJ rfl]) (fun k _ hk=>by rw[bz,QC hk,gX])) nX (fun c hc hv=>by rw[bz,QC (fun e=>hv _ _ (by rw[e]))]);refine⟨by show hB.n<=X.n;rw[nX];exact e0.n,fun c hc=>by rw[bz,QC ω];exact e0.get c hc,fun w c hc=> ?_,e0.mark,fun de=>e0.wr de⟩;have hc:X.n<=c:=hc;rw[bz,QC ω];exact e0.wf w c ω
end
section
variable {P:Program}{tab:Ws}{t:WG Value}{h:WA}{ds:List Deferred}{rd:Option Nat}{l:List WE}{Q:WM->WA->Prop}
end
section
variable {P:Program}{tab:Ws}{t:WG Value}{h h0:WA}{ds:List Deferred}{rd:Option Nat}{l:List WE}{Q:WM->WA->Prop}
end
section
variable {P:Program}{tab:Ws}{N0 m g:Nat}{cl:Bool}{t:WG Value}{ds:List Deferred}{rd:Option Nat}{K:WL->WM->WA->Prop}
def XJ{hS X:WA}{d n:Nat}{y:Operand}{v:Value}{zero cs:List Value}(eX:WH (inC (zB 1 hS)) X)(hm:hS.mark<=hS.n)(k:∀ H p,WH hS H->WB hS H p cs->K .normal ⟨t.set d p,ds,rd⟩ H)
  (hy:∀ p,WN (t.set d p) y v:=by intro p;exact zO) (hv:v.cells=cs.toArray:=by rfl) (hz:zero.length=n:=by rfl) (hn:cs.length=n:=by rfl) (h1:zK cs=true:=by rfl) (gg:m=hS.mark:=by rfl) (hg0:g=hS.n:=by rfl):
  Wb P tab m N0 [(⟨some d,none,.alloc zero⟩,[]),(⟨none,none,.store n (.tmp d) y⟩,[])] g cl ⟨t,ds,rd⟩ (inC X) (SJ K hS):=by
 subst gg hg0;have aD:hS.n<X.n:=eX.n;refine XN hm aD ?_ (hy _) hv hz hn h1;have e6:=zI7 (o:= .row zero true 0) (o':= .row cs true 0) (k:=0) eX;have o6:=zJs (cs:=cs) (o:= .row zero true 0) eX;exact k _ _ e6 o6
def Wb.mk{h:WA}{d:Nat}{gd:Option (Nat×Bool)}{op:Wz}{ob:Wp}{f:Nat->Value}{l:List (WE×List Nat)}{Q:WM->WA->Prop}(hm:m<=g)(aG:yh t op=some (ob,f))(hx:Wb P tab m N0 l (g+1) false ⟨t.set d (f g),ds,rd⟩ ((inC h).lay g ob) Q)(hk:Nat.beq (zE op) 3=true:=by rfl)(hw:zP t gd=true:=by rfl):
  Wb P tab m N0 ((⟨some d,gd,op⟩,[])::l) g cl ⟨t,ds,rd⟩ (inC h) Q:=by
 rw[Wb,QJ hk];exact⟨rfl,.inl ⟨hw,hm,ob,f,aG,hx⟩⟩
def Wb.no{h:WA}{d j:Nat}{b want:Bool}{op:Wz}{l:List (WE×List Nat)}{Q:WM->WA->Prop}(hx:Wb P tab m N0 l (g+1) cl ⟨t.set d undef,ds,rd⟩ (inC h) Q)(hk:Nat.beq (zE op) 3=true:=by rfl)(s:Wt t j (.bool b):=by exact Yd)(hb:(b == want)=false:=by rfl):
  Wb P tab m N0 ((⟨some d,some (j,want),op⟩,[])::l) g cl ⟨t,ds,rd⟩ (inC h) Q:=by
 rw[Wb,QJ hk];have s:zC t j=.bool b:=s;exact⟨rfl,.inr ⟨by simp only[zP,s,hb],hx⟩⟩
def zOI{j:Nat}{b want:Bool}(s:Wt t j (.bool b))(hb:(b == want)=true):zP t (some (j,want))=true:=by
 have s:zC t j=.bool b:=s;simp only[zP,s,hb]
def Wb.inC{h:WA}{fr:WM}{x:WE×List Nat}{l:List (WE×List Nat)}{Q:WM->WA->Prop}(hx:Wb P tab m N0 (x::l) g cl fr (Am.inC h) Q):Wb P tab m N0 (x::l) g cl fr h Q:=by
 obtain⟨o,un⟩:=x;unfold Wb at hx |-;exact hx
def zSE(h:WA)(g:Nat)(o:Wp)(j:Nat):((Am.inC h).lay g o).get j=if j=g then some o else h.get j:=zU _ _ _ _
def XK{X:WA}{d:Nat}{gd:Option (Nat×Bool)}{op:Wz}{ob:Wp}{f:Nat->Value}{x:WE×List Nat}{l:List (WE×List Nat)}{Q:WM->WA->Prop}(hm:m<=g)(aG:yh t op=some (ob,f))
  (k:∀ X',X'.n=X.n->(∀ j,X'.get j=if j=g then some ob else X.get j)->Wb P tab m N0 (x::l) (g+1) false ⟨t.set d (f g),ds,rd⟩ (Am.inC X') Q) (hk:Nat.beq (zE op) 3=true) (hw:zP t gd=true:=by rfl):Wb P tab m N0 ((⟨some d,gd,op⟩,[])::x::l) g cl ⟨t,ds,rd⟩ (Am.inC X) Q:=
 Wb.mk hm aG (Wb.inC (k _ rfl fun j=>zSE X g ob j)) hk hw
def Vi{X:WA}{d n:Nat}{gd:Option (Nat×Bool)}{zero:List Value}{parts:List (Nat×Nat×Operand)}{vs:List (Nat×Nat×Value)}{x:WE×List Nat}{l:List (WE×List Nat)}{Q:WM->WA->Prop}(xs:List Int)(hm:m<=g)
  (k:∀ X',X'.n=X.n->(∀ j,X'.get j=if j=g then some (.row (xs.map I) true 0)else X.get j)->Wb P tab m N0 (x::l) (g+1) false ⟨t.set d (.slice (some ⟨g,0,none⟩) xs.length 1),ds,rd⟩ (Am.inC X') Q)
  (hp:BF t parts vs:=by(repeat (apply BF.cons;(exact zN)));exact BF.nil) (hn:xs.length=n:=by rfl) (hf:ZE (zi zero n) vs=some (xs.map I):=by rfl) (hw:zP t gd=true:=by first|rfl|exact zOI Yd rfl):
  Wb P tab m N0 ((⟨some d,gd,.buildSlice n 1 zero parts⟩,[])::x::l) g cl ⟨t,ds,rd⟩ (Am.inC X) Q:=by
 subst hn;have hp:zr t parts=vs:=hp;exact XK (f:=fun g=> .slice (some ⟨g,0,none⟩) xs.length 1) hm (by simp only[yh,hp,hf,QL]) k rfl hw
def Xi{X:WA}{d:Nat}{x:Operand}{v:Value}{cs:List Value}{o:WE×List Nat}{l:List (WE×List Nat)}{Q:WM->WA->Prop}(hm:m<=g)
  (k:∀ X',X'.n=X.n->(∀ j,X'.get j=if j=g then some (.row cs true 0)else X.get j)->Wb P tab m N0 (o::l) (g+1) false ⟨t.set d (.pointer (some ⟨g,0,none⟩)),ds,rd⟩ (Am.inC X') Q) (hx:WN t x v:=by exact zO) (hv:v.cells.toList=cs:=by rfl):
  Wb P tab m N0 ((⟨some d,none,.box x⟩,[])::o::l) g cl ⟨t,ds,rd⟩ (Am.inC X) Q:=by
 have hx:ev t x=v:=hx;subst hv;exact XK (f:=fun g=> .pointer (some ⟨g,0,none⟩)) hm (by simp only[yh,hx]) k rfl
end
def zG1{h:WA}{q off:Nat}{row cs:List Value}(hq:h.get q=some (.row row true 0))(hl:off+cs.length<=row.length)(h1:zK cs=true):zk h ⟨q,off,none⟩ cs=some (h.set q (.row (zX row off cs) true 0)):=by
 have h2:Nat.ble (off+cs.length) row.length=true:=QK hl;have h3:Nat.ble 0 off=true:=QK (QQ _);simp only[zk,hq,h2,h3,h1,Q2,GC,cond_true]
section
variable {P:Program}{tab:Ws}{t:WG Value}{ds:List Deferred}{rd:Option Nat}
variable {m N0 g:Nat}{cl:Bool}{K:WL->WM->WA->Prop}{hS X:WA}{q off n:Nat}{row cs:List Value}{x y:Operand}{u:Value}
def Xm{h:WA}{Q:WM->WA->Prop}{l:List WE}(hq:h.get q=some (.row row true 0))(hl:off+cs.length<=row.length)(hx:WN t x (.pointer (some ⟨q,off,none⟩)))(hy:WN t y u)(hu:u.cells=cs.toArray)(hn:cs.length=n)(h1:zK cs=true)
  (k:WO P tab l ⟨t,ds,rd⟩ (h.set q (.row (zX row off cs) true 0)) Q):WO P tab (⟨none,none,.store n x y⟩::l) ⟨t,ds,rd⟩ h Q:=by
 have hx:ev t x=_:=hx;have hy:ev t y=u:=hy;have lZ:Nat.beq cs.length n=true:=by rw[hn];exact Gl _
 exact VR undef _ rfl (by simp only[WK,hx,hy,hu,G2,lZ,zG1 hq hl h1,QL,cond_true]) k
def zPo{h:WA}{q m:Nat}(hm:m<=q)(hw:h.wr=[]):∀ k∈(h.log q),m<=k:=fun k hk=>by
 rcases yj hk with rfl|h2
 ·exact hm
 ·rw[hw]at h2;cases h2
def Uu{o:WE×List Nat}{l:List (WE×List Nat)}{Q:WM->WA->Prop}(hq:X.get q=some (.row row true 0))(hm:m<=q)(k:∀ X',X'.n=X.n->(∀ j,j≠q->X'.get j=X.get j)->X'.get q=some (.row (zX row off cs) true 0)->(Wf X->Wf X')->∀ bV,Wb P tab m N0 (o::l) g bV ⟨t,ds,rd⟩ (Am.inC X') Q)
  (hl:off+cs.length<=row.length) (hx:WN t x (.pointer (some ⟨q,off,none⟩)):=by exact zO) (hy:WN t y u:=by exact zO) (hu:u.cells=cs.toArray:=by rfl) (hn:cs.length=n:=by rfl) (h1:zK cs=true:=by rfl):
  Wb P tab m N0 ((⟨none,none,.store n x y⟩,[])::o::l) g cl ⟨t,ds,rd⟩ (Am.inC X) Q:=by
 refine Wb.q rfl ?_;refine Xm hq hl hx hy hu hn h1 ?_;refine WO.nil (zL2 (zPo hm rfl) (QF _) fun bV=>k ((Am.inC X).set q (.row (zX row off cs) true 0)) rfl (fun j hj=> ?_) ?_ (fun w j hj=> ?_) bV)
 ·exact(zn _ _ _ _).trans (QC hj)
 ·exact(zn _ _ _ _).trans (QJ rfl)
 ·have hj:X.n<=j:=hj;by_cases e:j=q
  ·subst e;have:=w.lt hq;omega
  ·exact(zn _ _ _ _).trans ((QC e).trans (w j hj))
def XI(hq:X.get q=some (.row row true 0))(hm:m<=q)(k:∀ H,H.n=X.n->(∀ j,j≠q->H.get j=X.get j)->H.get q=some (.row (zX row off cs) true 0)->(Wf X->Wf H)->H.mark=hS.mark->H.wr=hS.wr->K .normal ⟨t,ds,rd⟩ H)
  (hl:off+cs.length<=row.length) (hx:WN t x (.pointer (some ⟨q,off,none⟩)):=by exact zO) (hy:WN t y u:=by exact zO) (hu:u.cells=cs.toArray:=by rfl) (hn:cs.length=n:=by rfl) (h1:zK cs=true:=by rfl):
  Wb P tab m N0 [(⟨none,none,.store n x y⟩,[])] g cl ⟨t,ds,rd⟩ (Am.inC X) (SJ K hS):=by
 refine Wb.q rfl ?_;refine Xm hq hl hx hy hu hn h1 ?_;refine WO.nil (zHC (zPo hm rfl) (QF _) (k _ rfl (fun j hj=> ?_) ?_ (fun w j hj=> ?_) rfl rfl))
 ·exact(zn _ _ _ _).trans (QC hj)
 ·exact(zn _ _ _ _).trans (QJ rfl)
 ·have hj:X.n<=j:=hj;by_cases e:j=q
  ·subst e;have:=w.lt hq;omega
  ·exact(zn _ _ _ _).trans ((QC e).trans (w j hj))
def Vy{o:WE×List Nat}{l:List (WE×List Nat)}{Q:WM->WA->Prop}{hB:WA}{p:Value}{cells:List Value}{j:Nat}(oc:WB hB X p cells)(hm:m<=hB.n)(k:∀ X',X'.n=X.n->(∀ j,p≠ .pointer (some ⟨j,0,none⟩)->X'.get j=X.get j)->WB hB X' p (zX cells j cs)->(Wf X->Wf X')->∀ bV,Wb P tab m N0 (o::l) g bV ⟨t,ds,rd⟩ (Am.inC X') Q)
  (hl:j+cs.length<=cells.length:=by decide) (hx:WN t x (yJ p j):=by exact zO) (hy:WN t y u:=by exact zO) (hu:u.cells=cs.toArray:=by rfl) (hn:cs.length=n:=by rfl) (h1:zK cs=true:=by rfl):
  Wb P tab m N0 ((⟨none,none,.store n x y⟩,[])::o::l) g cl ⟨t,ds,rd⟩ (Am.inC X) Q:=by
 obtain⟨q,q1,q2,rfl,q3⟩:=oc;rw[show yJ (.pointer (some ⟨q,0,none⟩)) j=.pointer (some ⟨q,j,none⟩) by show Value.pointer (some ⟨q,0+j,none⟩)=_;rw[Q8]]at hx;exact Uu q3 (QM hm q1) (fun X' n1 k1 g1 w1=>k X' n1 (fun j hj=>k1 j fun e=>hj (by rw[e])) ⟨q,q1,n1▸q2,rfl,g1⟩ w1) hl hx hy hu hn h1
def Vn{hB:WA}{p:Value}{cells:List Value}{j:Nat}(oc:WB hB X p cells)(hm:m<=hB.n)(k:∀ H,H.n=X.n->(∀ j,p≠ .pointer (some ⟨j,0,none⟩)->H.get j=X.get j)->WB hB H p (zX cells j cs)->(Wf X->Wf H)->H.mark=hS.mark->H.wr=hS.wr->K .normal ⟨t,ds,rd⟩ H)
  (hl:j+cs.length<=cells.length:=by decide) (hx:WN t x (yJ p j):=by exact zO) (hy:WN t y u:=by exact zO) (hu:u.cells=cs.toArray:=by rfl) (hn:cs.length=n:=by rfl) (h1:zK cs=true:=by rfl):
  Wb P tab m N0 [(⟨none,none,.store n x y⟩,[])] g cl ⟨t,ds,rd⟩ (Am.inC X) (SJ K hS):=by
 obtain⟨q,q1,q2,rfl,q3⟩:=oc;rw[show yJ (.pointer (some ⟨q,0,none⟩)) j=.pointer (some ⟨q,j,none⟩) by show Value.pointer (some ⟨q,0+j,none⟩)=_;rw[Q8]]at hx;exact XI q3 (QM hm q1) (fun X' n1 k1 g1 w1=>k X' n1 (fun j hj=>k1 j fun e=>hj (by rw[e])) ⟨q,q1,n1▸q2,rfl,g1⟩ w1) hl hx hy hu hn h1
section
variable {α:Type}[Inhabited α]{R:WA->List Value->α->Prop}{c b i:Nat}{v:Value}{xs:List α}{a:α}
end
def zJR{c g off len n:Nat}(hn:n<=len):Zk c (.slice (some ⟨g,off,none⟩) len c) (some n) none none=some (.slice (some ⟨g,off+n*c,none⟩) (len-n) c):=by
 have b1:Nat.ble n len=true:=QK hn;have b2:Nat.ble len len=true:=QK (QF _);simp only[Zk,Gv,GG,b1,b2,Q2,GC,cond_true,Gl]
def Xv{h:WA}{Q:WM->WA->Prop}{l:List WE}{d c n:Nat}{zero:List Value}(hr:n<=100000)(k:∀ h',WH h h'->h'.n=h.n+1->h'.get h.n=some (.row (zi zero n) true 0)->WO P tab l ⟨t.set d (.slice (some ⟨h.n,0,none⟩) n c),ds,rd⟩ h' Q)
  (hx:WN t x (I (n:Int)):=by exact zO) (hy:WN t y (I (n:Int)):=by exact zO):WO P tab (⟨some d,none,.mkSlice c zero x y⟩::l) ⟨t,ds,rd⟩ h Q:=by
 have h1:Nat.ble n room=true:=QK (by have:room=4294967296:=rfl;omega);have h2:Nat.ble n n=true:=QK (QF _);have hx:ev t x=I (n:Int):=hx;have hy:ev t y=I (n:Int):=hy;have hn:BX (I (n:Int))=some n:=rfl;exact WO.op _ _ rfl (by simp only[WK,hx,hy,hn,h1,h2,GC,cond_true]<;>rfl) (k _ (Zt _ _) rfl (zT _ _))
def zLD{l:List Value}{i:Nat}{v:Value}(h:i<l.length):zX l i [v]=l.set i v:=by
 unfold zX;rw[List.set_eq_take_append_cons_drop,QJ h];simp only[Qd,JV,Qb]
end
section
variable {P:Program}{tab:Ws}{t:WG Value}{ds:List Deferred}{rd:Option Nat}
variable {q off n:Nat}{row:List Value}{x y:Operand}
def Xn{h:WA}{Q:WM->WA->Prop}{l:List WE}{d c k m:Nat}{w:Value}{ys:List Value}(hq:h.get q=some (.row row true 0))(s:Wm c h w k ys)(hc:0<c)(hk:min k n=m)(hl:off+m*c<=row.length)(h1:zK ys=true)
  (hX:∀ h',h'.n=h.n->(∀ j,j≠q->h'.get j=h.get j)->h'.get q=some (.row (zX row off (ys.take (m*c))) true 0)->(Wf h->Wf h')->h'.mark=h.mark->(h.mark<=q->h'.wr=h.wr)->(∀ j∈h'.wr,j=q\/j∈h.wr)->WO P tab l ⟨t.set d (I m),ds,rd⟩ h' Q)
  (hx:WN t x (.slice (some ⟨q,off,none⟩) n c):=by exact zO) (hy:WN t y w:=by exact zO):WO P tab (⟨some d,none,.copy c x y⟩::l) ⟨t,ds,rd⟩ h Q:=by
 have hx:ev t x=_:=hx;have hy:ev t y=_:=hy;have hs:=Zu s;have hlen:ys.length / c=k:=by rw[s.1];exact Nat.mul_div_cancel _ hc
 have iK:min (ys.length / c) n=m:=by rw[hlen];exact hk
 have lq:(ys.take (m*c)).length=m*c:=by
  rw[Qp,s.1];have:m*c<=k*c:=GH _ ω;omega
 by_cases h0:m=0
 ·subst h0;refine WO.op (I (0:Nat)) h rfl ?_ (hX h rfl (fun _ _=>rfl) ?_ id rfl (fun _=>rfl) fun j hj=> .inr hj)
  ·simp only[WK,hx,hy,hs,iK];rfl
  ·rw[hq];simp[zX]
 ·have hb:Nat.beq m 0=false:=by cases hb:Nat.beq m 0 with
   |false=>rfl
   |true=>exact absurd (QN hb) h0
  have h2:zK (ys.take (m*c))=true:=by
   unfold zK at *;rw[QX]at *;exact fun a ha=>h1 a (GO ha)
  refine WO.op (I m) (h.set q (.row (zX row off (ys.take (m*c))) true 0)) rfl ?_ (hX _ rfl (fun j hj=>by rw[zn,QC hj]) (by rw[zn,QJ rfl]) (fun wf j hj=> ?_) rfl (fun hm=>zAy hm) fun j hj=>yj hj)
  ·simp only[WK,hx,hy,hs,iK,hb,QU,Gl,Q2,GC,cond_true,zG1 hq (by rw[lq];exact hl) h2,QL]
  ·have hj:h.n<=j:=hj;by_cases e:j=q
   ·subst e;have:=wf.lt hq;omega
   ·rw[zn,QC e];exact wf j hj
def zR6{h h0:WA}{v w:Value}{xs ys:List Int}(o:WP h0 h v xs)(s:Wc h w ys)(e0:WH h0 h)(ah:ys≠[])(hr:xs.length+ys.length<=4294967296):
  ∃ v' h',yR 1 v w h=some (v',h')/\WH h0 h'/\Wq h h' v' (xs++ys)/\Bm v h h':=by
 have aX:=Zu s;have aN:room=4294967296:=rfl;obtain⟨z,zs,rfl⟩:∃ z zs,ys=z::zs:=by
  cases ys with
  |nil=>exact absurd rfl ah
  |cons z zs=>exact⟨z,zs,rfl⟩
 have aT:zK (I z::zs.map I)=true:=zB7 (z::zs);have hlen:(I z::zs.map I).length / 1=(z::zs).length:=by simp
 rcases o with⟨rfl,rfl⟩|⟨g,g1,g2,rfl,g3⟩
 ·have h1:Nat.ble (z::zs).length room=true:=QK (by rw[aN];simpa using hr);refine⟨.slice (some ⟨h.n,0,none⟩) (z::zs).length 1,h.push (.row ((z::zs).map I) true 0),?_,e0.push _,⟨h.n,QF _,by simp[WA.push],rfl,zT _ _⟩,⟨GU _,fun k hk _=> ?_⟩⟩
  ·simp only[yR,aX,Qi,aT,hlen,h1,Qe,cond_true,QU];rfl
  ·rw[zM,QC ω]
 ·have h1:Nat.ble (xs.length+(z::zs).length) room=true:=QK (by rw[aN];exact hr);have h2:cut (xs.map I) 0 (xs.length*1)=some (xs.map I):=by rw[yz (by simp)];simp[Q3]
  have hn:(h.kill g).n=h.n:=rfl;have h3:Nat.ble 0 (0+xs.length*1)=true:=QK (QQ _);refine⟨.slice (some ⟨h.n,0,none⟩) (xs.length+(z::zs).length) 1,(h.kill g).push (.row (xs.map I++(z::zs).map I) true (0-0)),?_,(e0.kill g1).push _,⟨h.n,QF _,by simp[WA.push,WA.kill],by simp,?_⟩,⟨GU _,fun k hk hv=> ?_⟩⟩
  ·simp only[yR,aX,Qi,aT,hlen,h1,g3,h2,h3,Qe,cond_true,QU];rfl
  ·have:=zT (h.kill g) (.row (xs.map I++(z::zs).map I) true (0-0));rw[hn]at this;rw[this];simp
  ·rw[zM,QC (by rw[hn];omega),yn,QC (fun e=>hv _ _ _ rfl e.symm)]
def XA{h h0:WA}{Q:WM->WA->Prop}{l:List WE}{d:Nat}{v w:Value}{xs ys:List Int}(o:WP h0 h v xs)(s:Wc h w ys)(e0:WH h0 h)(ah:ys≠[])(hr:xs.length+ys.length<=4294967296)(k:∀ v' h',WH h0 h'->Wq h h' v' (xs++ys)->Bm v h h'->WO P tab l ⟨t.set d v',ds,rd⟩ h' Q)
  (hx:WN t x v:=by exact zO) (hy:WN t y w:=by exact zO):WO P tab (⟨some d,none,.append 1 x y⟩::l) ⟨t,ds,rd⟩ h Q:=by
 have hx:ev t x=v:=hx;have hy:ev t y=w:=hy;obtain⟨v',h',a,b,c,u⟩:=zR6 o s e0 ah hr;exact WO.op v' h' rfl (by simp only[WK,hx,hy,a]) (k v' h' b c u)
def UM{α:Type}{c b d1 d2:Nat}{R:WA->List Value->α->Prop}{h hB:WA}{Q:WM->WA->Prop}{l:List WE}{v w:Value}{xs:List α}{cs zero:List Value}(a:α)(Dn:Nat->Prop)(o:WR c R b h v xs)(e0:WH hB h)(hb:hB.n<=b)(dC:b<=h.n)(a8:0<c)(hl:xs.length<=100000)
  (d:B6 R h cs a Dn) (hD:∀ k,Dn k->b<=k/\k<h.n) (hv:∀ g n k,v=.slice (some ⟨g,0,none⟩) n k->¬Dn g)
  (k:∀ v' h' lit,WH hB h'->WR c R b h' v' (xs++[a])->h.n<=h'.n->(∀ k,k<h.n->(∀ n k',v≠ .slice (some ⟨k,0,none⟩) n k')->h'.get k=h.get k)->(∃ n k g,v'=.slice (some ⟨g,0,none⟩) n k/\h.n<=g)->WO P tab l ⟨(t.set d1 lit).set d2 v',ds,rd⟩ h' Q)
  (hx:WN t x w:=by exact zO) (hw:w.cells=cs.toArray:=by rfl) (hc:cs.length=c:=by rfl) (h1:zK cs=true:=by rfl) (hz:zero.length=c:=by rfl) (hy:∀ u,WN (t.set d1 u) y v:=by intro u;exact zO):
  WO P tab (⟨some d1,none,.buildSlice 1 c zero [(0,c,x)]⟩::⟨some d2,none,.append c y (.tmp d1)⟩::l) ⟨t,ds,rd⟩ h Q:=by
 have hx:ev t x=w:=hx;refine WO.op (.slice (some ⟨h.n,0,none⟩) 1 c) (h.push (.row cs true 0)) rfl (by
  simp only[WK,zr,Qi,Gc,hx,YB hw hc hz,QL];rfl) ?_
 obtain⟨v',H',q1,q2,q3,q4,q5,q6,q7,q8,q9⟩:=YJ (H:=h.push (.row cs true 0)) (gl:=h.n) o hc a8 h1 hl dC d hD hv (GU _) (Q9 _) (fun k hk=>by rw[zM,QC ω]) (zT _ _);have gO:ev (t.set d1 (.slice (some ⟨h.n,0,none⟩) 1 c)) y=v:=hy _;have e1:ev (t.set d1 (.slice (some ⟨h.n,0,none⟩) 1 c)) (.tmp d1)=.slice (some ⟨h.n,0,none⟩) 1 c:=by simp only[ev,zg,Qz]
 refine WO.op v' H' rfl (by simp only[WK,gO,e1,q1]) (k v' H' _ ?_ q2 (by rw[q3];show h.n<=h.n+1+1;omega) (fun k hk jS=> ?_) (let⟨n,k,g,e,hg⟩:=q9;⟨n,k,g,e,QM (GU _) hg⟩))
 ·have gf:∀ k,k<hB.n->∀ n k',v≠ .slice (some ⟨k,0,none⟩) n k':=fun k hk n k' e=>by
   rcases o with⟨e2,_⟩|⟨g,_,_,g1,_,e2,_⟩
   ·rw[e2]at e;cases e
   ·rw[e2]at e;cases e;omega
  refine⟨by rw[q3];show hB.n<=h.n+1+1;have:=e0.n;omega,fun k hk=> ?_,fun w=>q8 ?_,q5.trans e0.mark,fun hm=> ?_⟩
  ·have:=e0.n;rw[q4 k (by show k<h.n+1;omega) (gf k hk),zM,QC ω];exact e0.get k hk
  ·intro k hk;have hk:h.n+1<=k:=hk;rw[zM,QC ω];exact e0.wf w k ω
  ·rw[q7 (by show h.mark<=b;rw[e0.mark];omega)];exact e0.wr hm
 ·rw[q4 k (by show k<h.n+1;omega) jS,zM,QC ω]
end
def BJ:Value->Option Nat
 | .slice (some a) _ _=>some a.block
 | .pointer (some a)=>some a.block
 |_=>none
def WY(v w:Value):Prop:=∀ b,BJ v=some b->BJ w≠some b
def WY.symm{v w:Value}(o:WY v w):WY w v:=fun b h k=>o b k h
def UpB(v:Value)(h h':WA):Prop:=h.n<=h'.n/\∀ g,g<h.n->BJ v≠some g->h'.get g=h.get g
def Bm.upB{v:Value}{h h':WA}(u:Bm v h h'):UpB v h h':=⟨u.1,fun g hg hv=>u.2 g hg fun a n c e he=>hv (by rw[e,<-he];rfl)⟩
def Wo.upB{v:Value}{h h':WA}(u:Wo v h h'):UpB v h h':=⟨u.1,fun g hg hv=>u.2 g hg fun e=>hv (by rw[e];rfl)⟩
def zSV{v:Value}{h h':WA}(hn:h.n<=h'.n)(u:∀ k,k<h.n->(∀ n k',v≠ .slice (some ⟨k,0,none⟩) n k')->h'.get k=h.get k):UpB v h h':=⟨hn,fun g hg hv=>u g hg fun n k e=>hv (by rw[e];rfl)⟩
def zB3(h:WA)(v:Value):Prop:=∀ b,BJ v=some b->h.n<=b
def zIT(h:WA)(v:Value):Prop:=∀ b,BJ v=some b->b<h.n
def VF{h:WA}{v w:Value}(a:zB3 h v)(b:zIT h w):WY v w:=fun k hk hw=>by have:=a k hk;have:=b k hw;omega
section
variable {hB h h':WA}{v w p:Value}{l:List Int}{cs:List Value}
def WP.within(o:WP hB h w l):zIT h w:=fun b hb=>by
 rcases o with⟨rfl,_⟩|⟨g,_,g2,rfl,_⟩
 ·cases hb
 ·cases hb;exact g2
def WP.since'(o:WP hB h w l):zB3 hB w:=fun b hb=>by
 rcases o with⟨rfl,_⟩|⟨g,g1,_,rfl,_⟩
 ·cases hb
 ·cases hb;exact g1
def WB.within(o:WB hB h p cs):zIT h p:=fun b hb=>by obtain⟨g,_,g2,rfl,_⟩:=o;cases hb;exact g2
def WB.since'(o:WB hB h p cs):zB3 hB p:=fun b hb=>by obtain⟨g,g1,_,rfl,_⟩:=o;cases hb;exact g1
def WP.upB(o:WP hB h w l)(u:UpB v h h')(d:WY v w):WP hB h' w l:=by
 rcases o with o|⟨g,g1,g2,rfl,g3⟩
 ·exact .inl o
 ·exact .inr ⟨g,g1,QG g2 u.1,rfl,(u.2 g g2 fun e=>d _ e rfl).trans g3⟩
def WB.upB(o:WB hB h p cs)(u:UpB v h h')(d:WY v p):WB hB h' p cs:=by
 obtain⟨g,g1,g2,rfl,g3⟩:=o;exact⟨g,g1,QG g2 u.1,rfl,(u.2 g g2 fun e=>d _ e rfl).trans g3⟩
section
variable {α:Type}{c b:Nat}{R:WA->List Value->α->Prop}{xs:List α}
def WR.within(o:WR c R b h w xs):zIT h w:=fun b hb=>by
 rcases o with⟨rfl,_⟩|⟨g,_,_,_,g2,rfl,_⟩
 ·cases hb
 ·cases hb;exact g2
def WR.upB(hi:∀ h h' cs a,R h cs a->R h' cs a)(o:WR c R b h w xs)(u:UpB v h h')(d:WY v w):WR c R b h' w xs:=by
 rcases o with o|⟨g,cells,D,g1,g2,rfl,g3,g4,_,_,g7⟩
 ·exact .inl o
 ·exact .inr ⟨g,cells,fun _=>False,g1,QG g2 u.1,rfl,(u.2 g g2 fun e=>d _ e rfl).trans g3,g4,id,fun _ h=>h.elim,fun i a ha hx _ _=>hi _ _ _ _ (g7 i a ha).self⟩
end
def Ye{P:Program}{tab:Ws}{t:WG Value}{m N0 n g j:Nat}{un:List Nat}{d:Option Nat}{gd:Option (Nat×Bool)}{agg:Bool}{x:Operand}{p:Value}{cs:List Value}{h0 hs h:WA}{l:List (WE×List Nat)}{fr:WM}{Q:WM->WA->Prop}(o:WB h0 hs p cs)(hN:hs.n<=N0)(hx:Wb P tab m N0 l g true fr (inC h) Q)
  (hr:WN t x (yJ p j):=by exact zO):uK2 P tab m N0 un t ⟨d,gd,.load agg n x⟩ (inC h) l g true Q fr (inC h):=by
 refine zDj (fun k hk=> ?_) hx;obtain⟨q,q1,q2,rfl,q3⟩:=o;have hr:ev t x=_:=hr;unfold yJ at hr;cases hw:zP t gd with
 |false=>simp only[zc,hw,QU]at hk;cases hk
 |true=>
  simp only[zc,hw,cond_true,hr,QA]at hk;omega
def Ul{P:Program}{tab:Ws}{t:WG Value}{ds:List Deferred}{rd:Option Nat}{Q:WM->WA->Prop}{l:List WE}{d c:Nat}{zero cs:List Value}{x:Operand}{w:Value}
  (k:∀ h',WH h h'->h'.n=h.n+1->Wm c h' (.slice (some ⟨h.n,0,none⟩) 1 c) 1 cs->h'.get h.n=some (.row cs true 0)->WO P tab l ⟨t.set d (.slice (some ⟨h.n,0,none⟩) 1 c),ds,rd⟩ h' Q)
  (hx:WN t x w:=by exact zO) (hw:w.cells=cs.toArray:=by rfl) (hc:cs.length=c:=by rfl) (hz:zero.length=c:=by rfl):WO P tab (⟨some d,none,.buildSlice 1 c zero [(0,c,x)]⟩::l) ⟨t,ds,rd⟩ h Q:=by
 have hx:ev t x=w:=hx;refine WO.op (.slice (some ⟨h.n,0,none⟩) 1 c) (h.push (.row cs true 0)) rfl (by
  simp only[WK,zr,Qi,Gc,hx,YB hw hc hz,QL];rfl) (k _ (Zt _ _) rfl (Wm.own (Q9 _) (zT _ _) (by rw[hc,Nat.one_mul])) (zT _ _))
end
section
variable {P:Program}{tab:Ws}{t:WG Value}{h:WA}{ds:List Deferred}{rd:Option Nat}{l:List WE}{Q:WM->WA->Prop}
def XE{α:Type}{c b d1 d2 d0 d3 s j m N0:Nat}{cl:Bool}{R:WA->List Value->α->Prop}{hB hS X:WA}{p v w:Value}{xs:List α}{cs zero cells:List Value}(a:α)(Dn:Nat->Prop){x y:Operand}{K:WL->WM->WA->Prop}
  (eX:WH (Am.inC (zB 1 hS)) X) (o:WR c R b hS v xs) (e0:WH hB hS) (hm:hS.mark<=hB.n) (hb:hB.n<=b) (dC:b<=hS.n) (a8:0<c) (hl:xs.length<=100000) (op:WB hB hS p cells) (uA:∀ g,p=.pointer (some ⟨g,0,none⟩)->g<b)
  (d:B6 R X cs a Dn) (hD:∀ k,Dn k->b<=k/\k<X.n) (hv:∀ g n k,v=.slice (some ⟨g,0,none⟩) n k->¬Dn g) (LG:¬Dn hS.n) (hj:j<cells.length) (aO:zK cells=true)
  (k:∀ H v' t',zDg [d1,d2,d0,d3] t t'->WH hB H->WB hB H p (cells.set j v')->zK (cells.set j v')=true->WR c R b H v' (xs++[a])->zB3 hS v'->(∀ k,k<hS.n->p≠ .pointer (some ⟨k,0,none⟩)->(∀ n k',v≠ .slice (some ⟨k,0,none⟩) n k')->H.get k=hS.get k)->hS.n<=H.n->K .normal ⟨t',ds,rd⟩ H)
  (hx:WN t x w:=by exact zO) (hw:w.cells=cs.toArray:=by rfl) (hc:cs.length=c:=by rfl) (h1:zK cs=true:=by rfl) (hz:zero.length=c:=by rfl) (hy:∀ u,WN (t.set d1 u) y v:=by intro u;exact zO) (hs:∀ u u',WN ((t.set d1 u).set d2 u') (.tmp s) p:=by intro u u';exact zO) (jQ:Nat.beq d2 d3=false:=by rfl) (CZ:Nat.beq d2 d0=false:=by rfl) (gg:m=hS.mark:=by rfl):
  Wb P tab m N0 [(⟨some d1,none,.buildSlice 1 c zero [(0,c,x)]⟩,[]),(⟨some d2,none,.append c y (.tmp d1)⟩,[]),(⟨some d0,none,.nilCheck (.tmp s)⟩,[]),(⟨some d3,none,.fld j (.tmp d0)⟩,[]),(⟨none,none,.store 1 (.tmp d3) (.tmp d2)⟩,[])] hS.n cl ⟨t,ds,rd⟩ (Am.inC X) (SJ K hS):=by
 subst gg;have hx:ev t x=w:=hx;have C0:hS.n+1<=X.n:=eX.n;obtain⟨gp,mj,pZ,hp,nJ⟩:=op;have LH:=uA gp hp;rw[Wb,QJ (show Nat.beq (zE (Wz.buildSlice 1 c zero [(0,c,x)])) 3=true from rfl)];refine⟨rfl,.inl ⟨rfl,by have:=e0.n;omega,.row cs true 0,_,by simp only[yh,zr,Qi,Gc,hx,YB hw hc hz,QL];rfl,?_⟩⟩;generalize iu:(Am.inC (Am.inC X)).lay hS.n (.row cs true 0)=H1;have n1:H1.n=X.n:=by rw[<-iu];rfl
 have aV:∀ c',H1.get c'=if c'=hS.n then some (.row cs true 0)else X.get c':=fun c'=>by rw[<-iu];exact zU _ _ _ _
 have eC:∀ k,k<hS.n->X.get k=hS.get k:=fun k hk=>eX.get k (by show k<hS.n+1;omega);have oX:WR c R b X v xs:=o.upd (fun k _ hk=>eC k hk) ω;have jT:WR c R b (Am.inC H1) v xs:=by
  rcases o with o|⟨g,bV,D,g1,g2,g3,g4,g5,g6,g7,g8⟩
  ·exact .inl o
  ·refine .inr ⟨g,bV,D,g1,by show g<H1.n;omega,g3,?_,g5,g6,fun k hd=>⟨(g7 k hd).1,by have:=(g7 k hd).2;show k<H1.n;omega⟩,fun i a ha=>(g8 i a ha).mono (fun _ h=>h) (fun k o hd e=> ?_) (by show hS.n<=H1.n;omega)⟩
   ·show H1.get g=_;rw[aV,QC ω,eC g g2];exact g4
   ·have:=(g7 k hd).2;show H1.get k=_;rw[aV,QC ω,eC k this];exact e
 have qd:B6 R (Am.inC H1) cs a Dn:=d.mono (fun _ h=>h) (fun k o hd e=>by
  show H1.get k=_;rw[aV,QC (fun e2:k=hS.n=>by subst e2;exact LG hd)];exact e) (by show X.n<=H1.n;omega)
 obtain⟨v',H2,q1,q2,q3,q4,q5,q6,q7,q8,n',k',g',q9,nL⟩:=YJ (H:=Am.inC H1) (gl:=hS.n) jT hc a8 h1 hl (by show b<=H1.n;omega) qd (fun k hd=>⟨(hD k hd).1,by have:=(hD k hd).2;show k<H1.n;omega⟩) hv (QF _) (by show hS.n<H1.n;omega) (fun _ _=>rfl) (by show H1.get hS.n=_;rw[aV,QJ rfl]);rw[Wb,QC (show ¬Nat.beq (zE (Wz.append c y (.tmp d1))) 3=true from Bool.noConfusion)];have gO:ev (t.set d1 (.slice (some ⟨hS.n,0,none⟩) 1 c)) y=v:=hy _;have e1:ev (t.set d1 (.slice (some ⟨hS.n,0,none⟩) 1 c)) (.tmp d1)=.slice (some ⟨hS.n,0,none⟩) 1 c:=by simp only[ev,zg,Qz]
 refine WO.op v' H2 rfl (by simp only[WK,gO,e1,q1]) ?_;refine WO.nil ⟨⟨fun c' bH=> ?_,by show H1.n<=H2.n;rw[q3];exact GU _,.inl rfl⟩,?_⟩
 ·rcases q6 c' bH with h|h
  ·cases h
  ·omega
 have LI:∀ n k,v≠ .slice (some ⟨gp,0,none⟩) n k:=fun n k e=>by
  rcases o with⟨e2,_⟩|⟨g,_,_,g1,_,e2,_⟩
  ·rw[e2]at e;cases e
  ·rw[e2]at e;cases e;omega
 have dI:H2.get gp=some (.row cells true 0):=by
  rw[q4 gp (by show gp<H1.n;omega) LI];show H1.get gp=_;rw[aV,QC ω,eC gp pZ];exact nJ
 rw[Wb,QC (show ¬Nat.beq (zE (Wz.nilCheck (.tmp s))) 3=true from Bool.noConfusion)];have jh:ev ((t.set d1 (.slice (some ⟨hS.n,0,none⟩) 1 c)).set d2 v') (.tmp s)=p:=hs _ _;refine WO.op p (Am.inC H2) rfl (by simp only[WK,jh,hp];rfl) ?_;refine WO.nil ⟨⟨fun c' bH=>(by cases bH),QF _,.inl rfl⟩,?_⟩;rw[Wb,QC (show ¬Nat.beq (zE (Wz.fld j (.tmp d0))) 3=true from Bool.noConfusion)];have xG:∀ tt:WG Value,ev (tt.set d0 p) (.tmp d0)=p:=fun tt=>by simp only[ev,zg,Qz]
 refine WO.op (.pointer (some ⟨gp,j,none⟩)) (Am.inC H2) rfl (by simp only[val,WK,xG];simp only[hp,Q8,Q2,cond_true];rfl) ?_;refine WO.nil ⟨⟨fun c' bH=>(by cases bH),QF _,.inl rfl⟩,?_⟩;rw[Wb,QC (show ¬Nat.beq (zE (Wz.store 1 (.tmp d3) (.tmp d2))) 3=true from Bool.noConfusion)];have uB:zK [v']=true:=by rw[q9];rfl
 have mq:v'.cells=#[v']:=by rw[q9];rfl
 have aL:zk (Am.inC (Am.inC H2)) ⟨gp,j,none⟩ [v']=some ((Am.inC (Am.inC H2)).set gp (.row (cells.set j v') true 0)):=by
  have ij:(Am.inC (Am.inC H2)).get gp=some (.row cells true 0):=dI;have h1:Nat.ble (j+1) cells.length=true:=QK hj;have h0:Nat.ble 0 j=true:=QK (QQ _);simp only[zk,ij,Qb,h1,h0,uB,GC,zG4 hj];rfl
 have qc:¬d2=d3:=fun e=>by subst e;simp at jQ
 have C2:¬d2=d0:=fun e=>by subst e;simp at CZ
 refine VR undef ((Am.inC (Am.inC H2)).set gp (.row (cells.set j v') true 0)) rfl (by
  have a1:∀ tt:WG Value,ev (tt.set d3 (.pointer (some ⟨gp,j,none⟩))) (.tmp d3)=.pointer (some ⟨gp,j,none⟩):=fun tt=>by
   simp only[ev,zg,Qz]
  have a2:∀ w,ev ((((t.set d1 (.slice (some ⟨hS.n,0,none⟩) 1 c)).set d2 w).set d0 p).set d3 (.pointer (some ⟨gp,j,none⟩))) (.tmp d2)=w:=fun w=>by
   simp only[ev,zg,QC qc,QC C2,Qz]
  simp only[val,WK,a1,a2,mq,G2,Qb,Gl,aL,QL,cond_true]) ?_
 refine WO.nil ⟨⟨fun c' bH=> ?_,QF _,.inl rfl⟩,?_⟩
 ·have fc:c'∈(Am.inC (Am.inC H2)).log gp:=bH;rcases yj fc with rfl|h
  ·omega
  ·cases h
 generalize hH:z9 hS ((Am.inC (Am.inC H2)).set gp (.row (cells.set j v') true 0))=H;have nH:H.n=X.n+1:=by rw[<-hH];show H2.n=_;rw[q3];show H1.n+1=_;omega
 have fm:∀ c',H.get c'=if c'=gp then some (.row (cells.set j v') true 0)else H2.get c':=fun c'=>by rw[<-hH];exact zU _ _ _ _
 have eT:∀ c',c'<hS.n->c'≠gp->(∀ n k,v≠ .slice (some ⟨c',0,none⟩) n k)->H.get c'=hS.get c':=fun c' h1 h2 h3=>by
  rw[fm,QC h2,q4 c' (by show c'<H1.n;omega) h3];show H1.get c'=_;rw[aV,QC ω,eC c' h1]
 have LJ:∀ k,k<hB.n->∀ n k',v≠ .slice (some ⟨k,0,none⟩) n k':=fun k hk n k' e=>by
  rcases o with⟨e2,_⟩|⟨g,_,_,g1,_,e2,_⟩
  ·rw[e2]at e;cases e
  ·rw[e2]at e;cases e;omega
 have C3:zK (cells.set j v')=true:=by
  unfold zK at *;rw[QX]at *;intro z hz;rcases List.mem_or_eq_of_mem_set hz with h|h
  ·exact aO z h
  ·subst h;rw[q9]
 show K .normal _ _;rw[hH];refine k H v' _ (fun i hi=> ?_) ?_ ⟨gp,mj,by rw[nH];omega,hp,by rw[fm,QJ rfl]⟩ C3 (q2.upd (fun k cV aU=>by rw[fm,QC ω]) (by rw[nH,q3];show H1.n+1<=_;omega)) (fun c hc=>by rw[q9]at hc;cases hc;have:H1.n<=g':=nL;show hS.n<=g';omega) (fun c' h1 h2 h3=>eT c' h1 (fun e=>h2 (by rw[hp,e])) h3) (by rw[nH];omega)
 ·have hc:=ZQ hi;rw[List.contains_eq_mem,Gz]at hc;have b1:¬i=d1:=fun e=>hc (by simp[e]);have b2:¬i=d2:=fun e=>hc (by simp[e]);have b3:¬i=d3:=fun e=>hc (by simp[e]);have b0:¬i=d0:=fun e=>hc (by simp[e]);simp only[val,zg,QC b1,QC b2,QC b3,QC b0]
 ·have kM:=e0.n;refine⟨by rw[nH];omega,fun k hk=>(eT k ω ω (LJ k hk)).trans (e0.get k hk),fun w k hk=> ?_,?_,fun de=> ?_⟩
  ·rw[nH]at hk;rw[fm,QC ω];refine q8 (fun k2 aU=> ?_) k (by rw[q3];show H1.n+1<=k;omega);have aU:H1.n<=k2:=aU;show H1.get k2=_;rw[aV,QC ω];exact eX.wf (fun k3 cG=>e0.wf w k3 (by have:hS.n+1<=k3:=cG;omega)) k2 ω
  ·rw[<-hH];exact e0.mark
  ·rw[<-hH];exact e0.wr de
def RI(_:WA)(cs:List Value)(a:Int):Prop:=cs=[I a]
def zBx{hB h:WA}{b:Nat}{v:Value}{l:List Int}(o:WR 1 RI b h v l)(hb:hB.n<=b):WP hB h v l:=by
 rcases o with⟨rfl,rfl⟩|⟨g,cells,D,g1,g2,rfl,g4,g5,_,_,g8⟩
 ·exact .inl ⟨rfl,rfl⟩
 ·refine .inr ⟨g,QM hb g1,g2,rfl,?_⟩;rw[g4];congr 2;refine List.ext_getElem (by simp[g5]) fun i h1 h2=> ?_;have h3:i<l.length:=by simpa using h2
  have:=(g8 i l[i] (QB h3)).self;unfold RI at this;have h4:=congrArg (fun q=>q[0]?) this;simpa [GE,h1]using h4
end
section
variable {P:Program}{tab:Ws}
def ok7(m N0:Nat)(aH:Nat->Prop)(un:List Nat)(cl:Bool)(t:WG Value)(o:WE)(h h':WA):Prop:=
 (∀ k∈h'.wr,m<=k)/\h.n<=h'.n/\(un=[]\/(cl=true/\h'.wr=[]/\∀ g,zc t o=some g->¬aH g/\g<N0))
def BW(P:Program)(tab:Ws)(m N0:Nat)(aH:Nat->Prop):List (WE×List Nat)->Nat->Bool->WM->WA->(WM->WA->Prop)->Prop
 |[],_,_,fr,h,Q=>Q fr h
 |(o,un)::l,g,cl,fr,h,Q=>
  if Nat.beq (zE o.op) 3=true then
   un=[]/\((zP fr.tm o.guard=true/\m<=g/\∃ ob f,yh fr.tm o.op=some (ob,f)/\∃ bV,(bV=true->cl=true/\aH g)/\BW P tab m N0 aH l (g+1) bV (val o.dst fr (f g)) ((inC h).lay g ob) Q)\/
    (zP fr.tm o.guard=false/\BW P tab m N0 aH l (g+1) cl (val o.dst fr undef) (inC h) Q))
  else WO P tab [o] fr (inC h) fun ae h'=>ok7 m N0 aH un cl fr.tm o h h'/\∃ bV,(bV=true->cl=true/\∀ k∈h'.wr,aH k)/\BW P tab m N0 aH l g bV ae h' Q
def zOd{m N0:Nat}{aH:Nat->Prop}{un:List Nat}{cl:Bool}{t:WG Value}{o:WE}{h h':WA}(hk:ok7 m N0 aH un cl t o h h'){ws:List (Nat×Nat)}(hw:cl=true->∀ e∈ws,aH e.2){bs:List (Nat×Nat)}(hb:∀ e∈bs,N0<=e.2)(rs:List (Nat×Nat×Option (Nat×Nat×List Value))):
  ((match zc t o with
   |some g=>(ws.all fun x=> !(Nat.beq g x.2&&un.contains x.1))&&bs.all fun x=> !un.contains x.1||Nat.ble (g+1) x.2
   |none=>true)&&rs.all fun x=> !(un.contains x.1&&h'.wr.contains x.2.1)||zCi h' x.2.1 x.2.2)=true:=by
 obtain⟨_,_,rfl|⟨h1,h2,h3⟩⟩:=hk
 ·exact zK3 o ws rs bs t h'
 ·rw[h2];have e2:(rs.all fun x=> !(un.contains x.1&&([]:List Nat).contains x.2.1)||zCi h' x.2.1 x.2.2)=true:=by simp
  rw[e2,Qq];cases hr:zc t o with
  |none=>rfl
  |some g=>
   obtain⟨hg,hn⟩:=h3 g hr;have e3:(ws.all fun x=> !(Nat.beq g x.2&&un.contains x.1))=true:=by
    rw[QX];intro x hx;have:Nat.beq g x.2=false:=by
     cases hb:Nat.beq g x.2 with
     |false=>rfl
     |true=>exact absurd (QN hb▸hw h1 x hx) hg
    rw[this];rfl
   simp only[e3,Qh];rw[QX];intro x hx;have:Nat.ble (g+1) x.2=true:=QK (QG hn (hb x hx));rw[this,Q7]
def BW.run{m N0:Nat}{aH:Nat->Prop}:∀ {ops:List (WE×List Nat)} {g:Nat} {cl:Bool} {fr:WM} {h:WA} {Q:WM->WA->Prop},N0<=h.n->BW P tab m N0 aH ops g cl fr h Q->
  ∃ ae h',Q ae h'/\∀ (i:Nat) (ws:List (Nat×Nat)) (rs:List (Nat×Nat×Option (Nat×Nat×List Value))) (bs:List (Nat×Nat)),(∀ e∈ws,m<=e.2)->(cl=true->∀ e∈ws,aH e.2)->(∀ e∈bs,N0<=e.2)->
   ∃ bG,(∀ e∈bG,m<=e.2)/\Ev fun n=>yD P (BE P tab n) ops i g ws rs bs fr h=some (ae,h',bG):=by
 intro ops;induction ops with
 |nil=>intro g cl fr h Q _ hx;exact⟨fr,h,hx,fun i ws rs bs hw _ _=>⟨ws,hw,Ev.all fun n=>rfl⟩⟩
 |cons x ops cj=>
  intro g cl fr h Q hn hx;obtain⟨o,un⟩:=x;simp only[BW]at hx;have go:∀ {g':Nat} {bV:Bool} {a6:WM} {h1:WA},(g'=bif Nat.beq (zE o.op) 3 then g+1 else g)->(bV=true->cl=true/\∀ k∈h1.wr,aH k)->(Ev fun n=>yC P (BE P tab n) g o fr (inC h)=some (a6,h1))->ok7 m N0 aH un cl fr.tm o h h1->BW P tab m N0 aH ops g' bV a6 h1 Q->
    ∃ ae h',Q ae h'/\∀ (i:Nat) (ws:List (Nat×Nat)) (rs:List (Nat×Nat×Option (Nat×Nat×List Value))) (bs:List (Nat×Nat)),(∀ e∈ws,m<=e.2)->(cl=true->∀ e∈ws,aH e.2)->(∀ e∈bs,N0<=e.2)->
     ∃ bG,(∀ e∈bG,m<=e.2)/\Ev fun n=>yD P (BE P tab n) ((o,un)::ops) i g ws rs bs fr h=some (ae,h',bG):=by
   intro g' bV a6 h1 hg aO ev hk hx;obtain⟨ae,h',q,run⟩:=cj (QM hn hk.2.1) hx;refine⟨ae,h',q,fun i ws rs bs uu mc gP=> ?_⟩;obtain⟨bG,w1,w2⟩:=run (i+1) (h1.wr.map (fun g=>(i,g))++ws) (match zc fr.tm o with
     |some g=>(i,g,Y6 fr.tm h o.op)::rs
     |none=>rs) ((i,h.n)::bs) (fun e he=>by
      rcases Qf.1 he with he|he
      ·obtain⟨y,hy,rfl⟩:=Qw.1 he;exact hk.1 y hy
      ·exact uu e he) (fun hc e he=>by
      obtain⟨c1,c2⟩:=aO hc;rcases Qf.1 he with he|he
      ·obtain⟨y,hy,rfl⟩:=Qw.1 he;exact c2 y hy
      ·exact mc c1 e he) (fun e he=>by
      rcases Qt.1 he with rfl|he
      ·exact hn
      ·exact gP e he)
   refine⟨bG,w1,(ev.and w2).mono fun n ⟨e1,e2⟩=> ?_⟩;simp only[yD];have pX:yC P (BE P tab n) g o fr {h with mark:=h.n,wr:=[]}=some (a6,h1):=e1;rw[pX];have aS:=zOd hk mc gP rs;exact(congrArg (fun b:Bool=>bif b then yD P (BE P tab n) ops (i+1) (bif Nat.beq (zE o.op) 3 then g+1 else g) (h1.wr.map (fun g=>(i,g))++ws) (match zc fr.tm o with
     |some g=>(i,g,Y6 fr.tm h o.op)::rs
     |none=>rs) ((i,h.n)::bs) a6 h1 else none) aS).trans (by rw[cond_true,<-hg];exact e2)
  by_cases hk:Nat.beq (zE o.op) 3=true
  ·rw[QJ hk]at hx;obtain⟨rfl,⟨hw,hm,ob,f,aG,bV,aO,hx⟩|⟨hw,hx⟩⟩:=hx;case inr=>
    refine go (g':=g+1) (bV:=cl) (by rw[hk];rfl) (fun h=>⟨h,fun k hk=>(by cases hk)⟩) (Ev.all fun n=> ?_) (h1:=inC h) ⟨fun x hx=>(by cases hx),(show h.n<=h.n from QF _),.inl rfl⟩ hx;unfold yC;simp only[hk,hw,cond_true,QU]
   refine go (g':=g+1) (bV:=bV) (by rw[hk];rfl) (fun h=>⟨(aO h).1,fun k hk=> ?_⟩) (Ev.all fun n=> ?_) (h1:=(inC h).lay g ob) ⟨fun x hx=> ?_,(show h.n<=h.n from QF _),.inl rfl⟩ hx
   ·rcases yj hk with rfl|hk
    ·exact(aO h).2
    ·cases hk
   ·unfold yC;simp only[hk,hw,aG,cond_true]
   ·rcases yj hx with rfl|hx
    ·exact hm
    ·cases hx
  ·rw[QC hk]at hx;have cF:Nat.beq (zE o.op) 3=false:=by cases hb:Nat.beq (zE o.op) 3 with
    |false=>rfl
    |true=>exact absurd hb hk
   unfold WO at hx;obtain⟨a6,h1,⟨q1,bV,aO,q2⟩,ev⟩:=hx;refine go (g':=g) (bV:=bV) (by rw[cF];rfl) aO (ev.mono fun n e=> ?_) q1 q2;unfold yC;simp only[cF,QU];simp only[yd]at e;cases ha:yO P (BE P tab n) o fr (inC h)with
   |none=>rw[ha]at e;cases e
   |some p=>rw[ha]at e;exact e
def Vh{ops:List (WE×List Nat)}{fr:WM}{h:WA}{K:WL->WM->WA->Prop}(aH:Nat->Prop)(k:Nat)(hk:zEV ops=k)(ah:ops.isEmpty=false)
  (hx:BW P tab h.mark (h.n+k) aH ops h.n true fr (inC (zB k h)) (SJ K h)):WX P tab (.regionC ops) fr h K:=by
 subst hk;have eS:BW P tab h.mark (h.n+zEV ops) aH ops h.n true fr (zB (zEV ops) h) (SJ K h):=by
  cases ops with
  |nil=>cases ah
  |cons x ops=>exact hx
 obtain⟨ae,h',q,run⟩:=BW.run (h:=zB (zEV ops) h) (QF _) eS;obtain⟨bG,w1,w2⟩:=run 0 [] [] [] (fun e he=>by cases he) (fun _ e he=>by cases he) (fun e he=>by cases he);unfold WX;refine⟨.normal,ae,_,q,Ev.up (w2.mono fun n e=> ?_)⟩;rw[zx];simp only[zo,YZ];have e':yD P (BE P tab n) ops 0 h.n [] [] [] fr {h with n:=h.n+(ops.filter fun x=>Nat.beq (zE x.1.op) 3).length}=some (ae,h',bG):=e;rw[e'];have:((bG.map (·.2)).filter fun g=> !Nat.ble h.mark g)=[]:=by
  rw[List.filter_eq_nil_iff];intro g hg;obtain⟨y,hy,rfl⟩:=Qw.1 hg;have:Nat.ble h.mark y.2=true:=QK (w1 y hy);simp[this]
 simp[this,z9]
def V6{m N0:Nat}{aH:Nat->Prop}:∀ {l:List (WE×List Nat)} {g:Nat} {cl:Bool} {fr:WM} {h:WA} {Q:WM->WA->Prop},Wb P tab m N0 l g false fr h Q->BW P tab m N0 aH l g cl fr h Q:=by
 have key:∀ (l:List (WE×List Nat)) (c1:Bool) (g:Nat) (cl:Bool) (fr:WM) (h:WA) (Q:WM->WA->Prop),c1=false->Wb P tab m N0 l g c1 fr h Q->BW P tab m N0 aH l g cl fr h Q:=by
  intro l;induction l with
  |nil=>intro c1 g cl fr h Q _ hx;exact hx
  |cons x l ih=>
   intro c1 g cl fr h Q hc hx;obtain⟨o,un⟩:=x;simp only[Wb]at hx;simp only[BW];split
   ·rename_i hk;rw[QJ hk]at hx;obtain⟨hu,⟨hw,hm,ob,f,aG,hx⟩|⟨hw,hx⟩⟩:=hx
    ·exact⟨hu,.inl ⟨hw,hm,ob,f,aG,false,(fun h=>by cases h),ih false _ _ _ _ _ rfl hx⟩⟩
    ·exact⟨hu,.inr ⟨hw,ih c1 _ _ _ _ _ hc hx⟩⟩
   ·rename_i hk;rw[QC hk]at hx;exact hx.mono fun ae h' ⟨⟨a,b,c⟩,k⟩=>⟨⟨a,b,c.elim .inl fun c=>by rw[hc]at c;cases c.1⟩,false,(fun h=>by cases h),ih _ _ _ _ _ _ (by rw[hc];rfl) k⟩
 intro l g cl fr h Q hx;exact key l false g cl fr h Q rfl hx
end
section
variable {P:Program}{tab:Ws}{m N0:Nat}{aH:Nat->Prop}{l:List (WE×List Nat)}{o:WE}{un:List Nat}{g:Nat}{cl:Bool}{fr:WM}{h h0 h':WA}{Q:WM->WA->Prop}{K:WL->WM->WA->Prop}{t:WG Value}
def uK7(P:Program)(tab:Ws)(m N0:Nat)(aH:Nat->Prop)(un:List Nat)(t:WG Value)(o:WE)(h:WA)(l:List (WE×List Nat))(g:Nat)(cl:Bool)(Q:WM->WA->Prop):WM->WA->Prop:=
 fun ae h'=>ok7 m N0 aH un cl t o h h'/\∃ bV,(bV=true->cl=true/\∀ k∈h'.wr,aH k)/\BW P tab m N0 aH l g bV ae h' Q
def BW.q(hk:Nat.beq (zE o.op) 3=false)(hx:WO P tab [o] fr (inC h) (uK7 P tab m N0 aH un fr.tm o h l g cl Q)):BW P tab m N0 aH ((o,un)::l) g cl fr (inC h) Q:=by
 simp only[BW];rw[QC (by rw[hk];exact Bool.noConfusion)];exact hx
def zUs(hx:BW P tab m N0 aH l g cl fr (inC h) Q):uK7 P tab m N0 aH [] t o h l g cl Q fr (inC h):=
 ⟨⟨fun g hg=>(by cases hg),QF _,.inl rfl⟩,cl,fun h=>⟨h,fun k hk=>by cases hk⟩,hx⟩
def zQu{d:Option Nat}{agg:Bool}{n k:Nat}{x:Operand}{a:Addr}(hb:¬aH a.block)(hn:a.block<N0)(hx:BW P tab m N0 aH l g true fr (inC h) Q)(hr:WN t x (yJ (.pointer (some a)) k):=by exact zO):uK7 P tab m N0 aH un t ⟨d,none,.load agg n x⟩ h l g true Q fr (inC h):=by
 refine⟨⟨fun g hg=>(by cases hg),QF _,.inr ⟨rfl,rfl,fun g hg=> ?_⟩⟩,true,fun h=>⟨h,fun k hk=>by cases hk⟩,hx⟩;unfold WN yJ at hr;simp only[zc,zP,cond_true,hr,QA]at hg;rw[<-hg];exact⟨hb,hn⟩
def UR{α:Type}{c b d1 d2:Nat}{R:WA->List Value->α->Prop}{hS:WA}{v w:Value}{xs:List α}{cs zero:List Value}{ds:List Deferred}{rd:Option Nat}(a:α)(Dn:Nat->Prop){x y:Operand}
  (o:WR c R b hS v xs) (hm:m<=b) (dC:b<=hS.n) (a8:0<c) (hl:xs.length<=100000) (d:B6 R hS cs a Dn) (hD:∀ k,Dn k->b<=k/\k<hS.n) (hv:∀ g n k,v=.slice (some ⟨g,0,none⟩) n k->¬Dn g) (jU:∀ k,b<=k->aH k)
  (k:∀ X v' lit,X.n=hS.n+2->(∀ k,k<hS.n->(∀ n k',v≠ .slice (some ⟨k,0,none⟩) n k')->X.get k=hS.get k)->WR c R b X v' (xs++[a])->zB3 hS v'->(Wf hS->Wf X)->BW P tab m N0 aH l (hS.n+1) true ⟨(t.set d1 lit).set d2 v',ds,rd⟩ (Am.inC X) Q)
  (hx:WN t x w:=by exact zO) (hw:w.cells=cs.toArray:=by rfl) (hc:cs.length=c:=by rfl) (h1:zK cs=true:=by rfl) (hz:zero.length=c:=by rfl) (hy:∀ u,WN (t.set d1 u) y v:=by intro u;exact zO) (ah:l≠[]:=by exact List.cons_ne_nil _ _):
  BW P tab m N0 aH ((⟨some d1,none,.buildSlice 1 c zero [(0,c,x)]⟩,[])::(⟨some d2,none,.append c y (.tmp d1)⟩,[])::l) hS.n true ⟨t,ds,rd⟩ (Am.inC (zB 1 hS)) Q:=by
 have hx:ev t x=w:=hx;rw[BW,QJ (show Nat.beq (zE (Wz.buildSlice 1 c zero [(0,c,x)])) 3=true from rfl)];refine⟨rfl,.inl ⟨rfl,QM hm dC,.row cs true 0,_,by simp only[yh,zr,Qi,Gc,hx,YB hw hc hz,QL];rfl,true,fun _=>⟨rfl,jU _ dC⟩,?_⟩⟩;generalize iu:(Am.inC (Am.inC (zB 1 hS))).lay hS.n (.row cs true 0)=H1;have n1:H1.n=hS.n+1:=by rw[<-iu];rfl
 have aV:∀ c',H1.get c'=if c'=hS.n then some (.row cs true 0)else hS.get c':=fun c'=>by rw[<-iu];exact zU _ _ _ _
 have jT:WR c R b (Am.inC H1) v xs:=o.upd (fun k _ hk=>by show H1.get k=_;rw[aV,QC ω]) (by show hS.n<=H1.n;omega);have qd:B6 R (Am.inC H1) cs a Dn:=d.mono (fun _ h=>h) (fun k o hd e=>by
  show H1.get k=_;have:=(hD k hd).2;rw[aV,QC ω];exact e) (by show hS.n<=H1.n;omega)
 obtain⟨v',H2,q1,q2,q3,q4,q5,q6,q7,q8,n',k',g',q9,nL⟩:=YJ (H:=Am.inC H1) (gl:=hS.n) jT hc a8 h1 hl (by show b<=H1.n;omega) qd (fun k hd=>⟨(hD k hd).1,by have:=(hD k hd).2;show k<H1.n;omega⟩) hv (QF _) (by show hS.n<H1.n;omega) (fun _ _=>rfl) (by show H1.get hS.n=_;rw[aV,QJ rfl]);rw[BW,QC (show ¬Nat.beq (zE (Wz.append c y (.tmp d1))) 3=true from Bool.noConfusion)];have gO:ev (t.set d1 (.slice (some ⟨hS.n,0,none⟩) 1 c)) y=v:=hy _;have e1:ev (t.set d1 (.slice (some ⟨hS.n,0,none⟩) 1 c)) (.tmp d1)=.slice (some ⟨hS.n,0,none⟩) 1 c:=by simp only[ev,zg,Qz]
 refine WO.op v' H2 rfl (by simp only[WK,gO,e1,q1]) ?_;have uz:∀ k∈H2.wr,b<=k:=fun k hk=>by
  rcases q6 k hk with h|h
  ·cases h
  ·exact h
 have LK:H2.n=hS.n+2:=by rw[q3];show H1.n+1=_;omega
 refine WO.nil ⟨⟨fun k hk=>QM hm (uz k hk),by show H1.n<=H2.n;omega,.inl rfl⟩,true,fun h=>⟨rfl,fun k hk=>jU k (uz k hk)⟩,?_⟩;have fin:=k H2 v' (.slice (some ⟨hS.n,0,none⟩) 1 c) LK (fun k hk jS=>by
  rw[q4 k (by show k<H1.n;omega) jS];show H1.get k=_;rw[aV,QC ω]) q2 (fun j hj=>by subst q9;cases hj;have h1:H1.n<=g':=nL;show hS.n<=g';omega) (fun w=>q8 fun g hg=>by
  have hg:H1.n<=g:=hg;show H1.get g=none;rw[aV,QC ω];exact w g ω)
 cases l with
 |nil=>exact absurd rfl ah
 |cons z l=>
  obtain⟨z1,z2⟩:=z;simp only[BW]at fin |-;exact fin
def goW{G' G:Prop}(k:G')(r:Wrap G'->G:=by
  intro fe;first|with_reducible show BW _ _ _ _ _ (_::_) _ _ _ _ _|refine go ?_
  repeat (first|((apply BW.q;rfl);refine go ?_)|refine zUs ?_)
  first|with_reducible show BW _ _ _ _ _ (_::_) _ _ _ _ _|refine go ?_
  exact fe.out):G:=r ⟨k⟩
end
def cutX(id:Nat)(M:WG Value->WA->Prop)(ds:List Deferred)(rd:Option Nat)(K:WL->WM->WA->Prop):WL->WM->WA->Prop
 | .normal,fr,h=>fr.dfs=ds/\fr.round=rd/\M fr.tm h
 | .exit i,fr,h=>if i=id then fr.dfs=ds/\fr.round=rd/\M fr.tm h else K (.exit i) fr h
 | .goto l,fr,h=>K (.goto l) fr h
 | .ret,fr,h=>K .ret fr h
section
variable {P:Program}{tab:Ws}{t:WG Value}{ds:List Deferred}{rd:Option Nat}
def zHd{id:Nat}{M:WG Value->WA->Prop}{K:WL->WM->WA->Prop}{h:WA}(hx:M t h):cutX id M ds rd K (.exit id) ⟨t,ds,rd⟩ h:=by
 show if id=id then ds=ds/\rd=rd/\M t h else K (.exit id) ⟨t,ds,rd⟩ h;rw[QJ rfl];exact⟨rfl,rfl,hx⟩
def WX.cutX{c:WT}{h:WA}{id:Nat}{K:WL->WM->WA->Prop}{ws:List Nat}(M:WG Value->WA->Prop)(h1:WX P tab c ⟨t,ds,rd⟩ h (Am.cutX id M ds rd (YK id K)))(h2:∀ t' h',zDg ws t t'->M t' h'->YK id K .normal ⟨t',ds,rd⟩ h')(hw:yL c=ws:=by conv=>(lhs;reduce)):WX P tab c ⟨t,ds,rd⟩ h (YK id K):=
 (WX.frame h1).mono fun e fr h ⟨hf,hx⟩=>by
  have hs:zDg ws t fr.tm:=fun j hj=>hf j (by rw[hw];intro hc;have:=ZQ hj;simp[hc]at this);obtain⟨t',dT,uk⟩:=fr;cases e with
  |normal=>
   have hx:dT=ds/\uk=rd/\M t' h:=hx;obtain⟨e1,e2,e3⟩:=hx;subst e1 e2;exact h2 _ _ hs e3
  |exit i=>
   have hx:if i=id then dT=ds/\uk=rd/\M t' h else YK id K (.exit i) ⟨t',dT,uk⟩ h:=hx;split at hx
   ·rename_i hi;obtain⟨e1,e2,e3⟩:=hx;subst e1 e2;have h3:=h2 _ _ hs e3;unfold YK at h3 |-;simp only[hi,Qz];exact h3
   ·exact hx
  |goto i=>exact hx
  |ret=>exact hx
end
section
variable {P:Program}{tab:Ws}{t:WG Value}{ds:List Deferred}{rd:Option Nat}{m g:Nat}{aH:Nat->Prop}{un:List Nat}{l:List (WE×List Nat)}{Q:WM->WA->Prop}{K:WL->WM->WA->Prop}
section
variable {hS X:WA}{q off n:Nat}{row cs:List Value}{x y:Operand}{u:Value}
end
end
section
variable {P:Program}{tab:Ws}{t:WG Value}{h:WA}{ds:List Deferred}{rd:Option Nat}{l:List WE}{Q:WM->WA->Prop}
end
section
variable {P:Program}{tab:Ws}{t:WG Value}{ds:List Deferred}{rd:Option Nat}{l:List (WE×List Nat)}{Q:WM->WA->Prop}{α:Type}{c b d1 d2 m N0:Nat}{cl:Bool}{R:WA->List Value->α->Prop}{hB hS X:WA}{v w:Value}{xs ys:List α}{cs zero:List Value}{x y:Operand}
end
end Go.Am
