/- A part of the machine and of its soundness; proves no statement. -/
import Derived.Test.YtmejfcakhpihlaaGreatDoorAmU
set_option linter.all false
namespace Go.Am
section
variable {P:Program}{tab:Wy}
def BR(P:Program)(tab:Wy)(m:Nat)(aP:Nat->Prop):List (WF×List Nat)->Nat->WR->WA->(WR->WA->Prop)->Prop
 |[],_,fr,h,Q=>Q fr h
 |(o,un)::l,g,fr,h,Q=>
  if Nat.beq (zI o.op) 3=true then
   un=[]/\zV fr.tm o.guard=true/\m<=g/\zl fr.tm o=none/\∃ ob f,yi fr.tm o.op=some (ob,f)/\BR P tab m aP l (g+1) (val o.dst fr (f g)) ((inC h).lay g ob) Q
  else WO P tab [o] fr (inC h) fun af h'=>(∀ g∈h'.wr,m<=g)/\(un=[]\/(zl fr.tm o=none/\∀ g∈h'.wr,aP g))/\(∀ g,zl fr.tm o=some g->¬aP g)/\BR P tab m aP l g af h' Q
theorem zK6{aP:Nat->Prop}{un:List Nat}{t:WG Value}{o:WF}{h':WA}(hk:un=[]\/(zl t o=none/\∀ g∈h'.wr,aP g))(ws:List (Nat×Nat))(bs:List (Nat×Nat)){rs:List (Nat×Nat×Option (Nat×Nat×List Value))}(hr:∀ e∈rs,¬aP e.2.1):
  ((match zl t o with
   |some g=>(ws.all fun x=> !(Nat.beq g x.2&&un.contains x.1))&&bs.all fun x=> !un.contains x.1||Nat.ble (g+1) x.2
   |none=>true)&&rs.all fun x=> !(un.contains x.1&&h'.wr.contains x.2.1)||zCh h' x.2.1 x.2.2)=true:=by
 rcases hk with rfl|⟨h1,h2⟩
 ·exact zJs o ws rs bs t h'
 ·rw[h1];simp only[Qe];rw[QX];intro x hx;have:h'.wr.contains x.2.1=false:=by
   cases hc:h'.wr.contains x.2.1 with
   |false=>rfl
   |true=>exact absurd (h2 _ (List.contains_iff_mem.1 hc)) (hr x hx)
  rw[this,Qt];rfl
theorem BR.run{m:Nat}{aP:Nat->Prop}:∀ {ops:List (WF×List Nat)} {g:Nat} {fr:WR} {h:WA} {Q:WR->WA->Prop},BR P tab m aP ops g fr h Q->
  ∃ af h',Q af h'/\∀ (i:Nat) (ws:List (Nat×Nat)) (rs:List (Nat×Nat×Option (Nat×Nat×List Value))) (bs:List (Nat×Nat)),(∀ e∈ws,m<=e.2)->(∀ e∈rs,¬aP e.2.1)->
   ∃ cj,(∀ e∈cj,m<=e.2)/\Ev fun n=>yH P (BI P tab n) ops i g ws rs bs fr h=some (af,h',cj):=by
 intro ops;induction ops with
 |nil=>intro g fr h Q hx;exact⟨fr,h,hx,fun i ws rs bs hw _=>⟨ws,hw,Ev.all fun n=>rfl⟩⟩
 |cons x ops cI=>
  intro g fr h Q hx;obtain⟨o,un⟩:=x;simp only[BR]at hx;have go:∀ {g':Nat} {bB:WR} {h1:WA},(g'=bif Nat.beq (zI o.op) 3 then g+1 else g)->(Ev fun n=>yT P (BI P tab n) g o fr (inC h)=some (bB,h1))->(∀ x∈h1.wr,m<=x)->(un=[]\/(zl fr.tm o=none/\∀ g∈h1.wr,aP g))->(∀ g,zl fr.tm o=some g->¬aP g)->BR P tab m aP ops g' bB h1 Q->
    ∃ af h',Q af h'/\∀ (i:Nat) (ws:List (Nat×Nat)) (rs:List (Nat×Nat×Option (Nat×Nat×List Value))) (bs:List (Nat×Nat)),(∀ e∈ws,m<=e.2)->(∀ e∈rs,¬aP e.2.1)->
     ∃ cj,(∀ e∈cj,m<=e.2)/\Ev fun n=>yH P (BI P tab n) ((o,un)::ops) i g ws rs bs fr h=some (af,h',cj):=by
   intro g' bB h1 hg ev hw hk hb hx;obtain⟨af,h',q,run⟩:=cI hx;refine⟨af,h',q,fun i ws rs bs xp lS=> ?_⟩;obtain⟨cj,w1,w2⟩:=run (i+1) (h1.wr.map (fun g=>(i,g))++ws) (match zl fr.tm o with
     |some g=>(i,g,zAL fr.tm h o.op)::rs
     |none=>rs) ((i,h.n)::bs) (fun e he=>by
      rcases Qs.1 he with he|he
      ·obtain⟨y,hy,rfl⟩:=Qw.1 he;exact hw y hy
      ·exact xp e he) (fun e he=>by
      cases hr:zl fr.tm o with
      |none=>rw[hr]at he;exact lS e he
      |some k=>
       rw[hr]at he;rcases GG.1 he with rfl|he
       ·exact hb k hr
       ·exact lS e he)
   refine⟨cj,w1,(ev.and w2).mono fun n ⟨e1,e2⟩=> ?_⟩;simp only[yH];have sN:yT P (BI P tab n) g o fr {h with mark:=h.n,wr:=[]}=some (bB,h1):=e1;rw[sN];have a8:=zK6 hk ws bs lS;exact(congrArg (fun b:Bool=>bif b then yH P (BI P tab n) ops (i+1) (bif Nat.beq (zI o.op) 3 then g+1 else g) (h1.wr.map (fun g=>(i,g))++ws) (match zl fr.tm o with
     |some g=>(i,g,zAL fr.tm h o.op)::rs
     |none=>rs) ((i,h.n)::bs) bB h1 else none) a8).trans (by rw[cond_true,<-hg];exact e2)
  by_cases hk:Nat.beq (zI o.op) 3=true
  ·rw[QF hk]at hx;obtain⟨rfl,hw,hm,hr,ob,f,aO,hx⟩:=hx;refine go (g':=g+1) (by rw[hk];rfl) (Ev.all fun n=> ?_) (h1:=(inC h).lay g ob) (fun x hx=> ?_) (.inl rfl) (fun k aS=>by rw[hr]at aS;cases aS) hx
   ·unfold yT;simp only[hk,hw,aO,cond_true]
   ·rcases yc hx with rfl|hx
    ·exact hm
    ·cases hx
  ·rw[QC hk]at hx;have bK:Nat.beq (zI o.op) 3=false:=by cases hb:Nat.beq (zI o.op) 3 with
    |false=>rfl
    |true=>exact absurd hb hk
   unfold WO at hx;obtain⟨bB,h1,⟨q1,q2,q3,q4⟩,ev⟩:=hx;refine go (g':=g) (by rw[bK];rfl) (ev.mono fun n e=> ?_) q1 q2 q3 q4;unfold yT;simp only[bK,QU];simp only[ZA]at e;cases ha:yU P (BI P tab n) o fr (inC h)with
   |none=>rw[ha]at e;cases e
   |some p=>rw[ha]at e;exact e
theorem Vh{ops:List (WF×List Nat)}{fr:WR}{h:WA}{K:WP->WR->WA->Prop}(aP:Nat->Prop)(k:Nat)(hk:zDO ops=k)(aq:ops.isEmpty=false)
  (hx:BR P tab h.mark aP ops h.n fr (inC (zB k h)) (Bt K h)):WX P tab (.regionC ops) fr h K:=by
 subst hk;have fS:BR P tab h.mark aP ops h.n fr (zB (zDO ops) h) (Bt K h):=by
  cases ops with
  |nil=>cases aq
  |cons x ops=>exact hx
 obtain⟨af,h',q,run⟩:=BR.run (h:=zB (zDO ops) h) fS;obtain⟨cj,w1,w2⟩:=run 0 [] [] [] (fun e he=>by cases he) (fun e he=>by cases he);unfold WX;refine⟨.normal,af,_,q,Ev.up (w2.mono fun n e=> ?_)⟩;rw[zx];simp only[zv,Yo];have e':yH P (BI P tab n) ops 0 h.n [] [] [] fr {h with n:=h.n+(ops.filter fun x=>Nat.beq (zI x.1.op) 3).length}=some (af,h',cj):=e;rw[e'];have:((cj.map (·.2)).filter fun g=> !Nat.ble h.mark g)=[]:=by
  rw[List.filter_eq_nil_iff];intro g hg;obtain⟨y,hy,rfl⟩:=Qw.1 hg;have:Nat.ble h.mark y.2=true:=QH (w1 y hy);simp[this]
 simp[this,outC]
end
section
variable {P:Program}{tab:Wy}{m:Nat}{aP:Nat->Prop}{l:List (WF×List Nat)}{o:WF}{un:List Nat}{g:Nat}{fr:WR}{h h0 h':WA}{Q:WR->WA->Prop}{K:WP->WR->WA->Prop}{t:WG Value}
def uK6(P:Program)(tab:Wy)(m:Nat)(aP:Nat->Prop)(un:List Nat)(t:WG Value)(o:WF)(l:List (WF×List Nat))(g:Nat)(Q:WR->WA->Prop):WR->WA->Prop:=
 fun af h'=>(∀ g∈h'.wr,m<=g)/\(un=[]\/(zl t o=none/\∀ g∈h'.wr,aP g))/\(∀ g,zl t o=some g->¬aP g)/\BR P tab m aP l g af h' Q
theorem BR.q(hk:Nat.beq (zI o.op) 3=false)(hx:WO P tab [o] fr (inC h) (uK6 P tab m aP un fr.tm o l g Q)):BR P tab m aP ((o,un)::l) g fr (inC h) Q:=by
 simp only[BR];rw[QC (by rw[hk];exact Bool.noConfusion)];exact hx
theorem zQ7(hr:zl t o=none)(hx:BR P tab m aP l g fr (inC h) Q):uK6 P tab m aP [] t o l g Q fr (inC h):=
 ⟨fun g hg=>(by cases hg),.inl rfl,fun g hg=>(by rw[hr]at hg;cases hg),hx⟩
theorem zKB{d:Option Nat}{agg:Bool}{n k:Nat}{x:Operand}{a:Addr}(hr:WM t x (yE (.pointer (some a)) k))(hb:¬aP a.block)(hx:BR P tab m aP l g fr (inC h) Q):uK6 P tab m aP [] t ⟨d,none,.load agg n x⟩ l g Q fr (inC h):=by
 refine⟨fun g hg=>(by cases hg),.inl rfl,fun g hg=> ?_,hx⟩;unfold WM yE at hr;simp only[zl,zV,cond_true,hr,QA]at hg;rw[<-hg];exact hb
theorem BR.mk{d:Nat}{op:Wx}{ob:Ws}{f:Nat->Value}(hk:Nat.beq (zI op) 3=true)(hm:m<=g)(aO:yi t op=some (ob,f)){ds:List Deferred}{rd:Option Nat}(hx:BR P tab m aP l (g+1) ⟨t.set d (f g),ds,rd⟩ ((inC h).lay g ob) Q):BR P tab m aP ((⟨some d,none,op⟩,[])::l) g ⟨t,ds,rd⟩ (inC h) Q:=by
 simp only[BR];rw[QF hk];refine⟨by trivial,rfl,hm,?_,ob,f,aO,hx⟩;cases op<;>first|rfl|cases hk
end
structure AR(hB h:WA)(p:Value)(cells:List Value)(n:Nat)(A:Nat->List Int):Prop where
 own:WB hB h p cells
 len:cells.length=n
 all:∀ j,j<n->WL hB h (cells.getD j undef) (A j)
 apart:∀ i j g a b c d,i<n->j<n->i≠j->cells.getD i undef=.slice (some ⟨g,0,none⟩) a b->cells.getD j undef=.slice (some ⟨g,0,none⟩) c d->False
theorem AR.ext{hB h h':WA}{p:Value}{cells:List Value}{n:Nat}{A:Nat->List Int}(r:AR hB h p cells n A)(e:Ext h h'):AR hB h' p cells n A:=
 ⟨r.own.ext e,r.len,fun j hj=>(r.all j hj).ext e,r.apart⟩
theorem AR.off{hB h:WA}{p:Value}{cells:List Value}{n:Nat}{A:Nat->List Int}(r:AR hB h p cells n A){j:Nat}(hj:j<n){g gp a b:Nat}(hp:p=.pointer (some ⟨gp,0,none⟩))(hv:cells.getD j undef=.slice (some ⟨g,0,none⟩) a b):g≠gp:=by
 intro e;subst e;obtain⟨q,_,_,hq,hg⟩:=r.own;rw[hp]at hq;cases hq;rcases r.all j hj with⟨h1,_⟩|⟨q2,_,_,h2,h3⟩
 ·rw[h1]at hv;cases hv
 ·rw[h2]at hv;cases hv;rw[hg]at h3;have he:cells=(A j).map I:=by simpa using h3
  have:=congrArg (fun l=>l.getD j undef) he;simp only[h2]at this;have hlen:j<((A j).map I).length:=by rw[<-he,r.len];exact hj
  rw[QG,QB hlen]at this;simp at this
section
variable {P:Program}{tab:Wy}{t:WG Value}{ds:List Deferred}{rd:Option Nat}
theorem zF6{l:List Value}{i j:Nat}{v d:Value}(hi:i<l.length):(l.set i v).getD j d=if j=i then v else l.getD j d:=by
 simp only[QG,List.getElem?_set];by_cases h:i=j
 ·subst h;simp[hi]
 ·rw[QC h,QC (fun e=>h e.symm)]
theorem zBq{l:List Value}{i:Nat}{v:Value}(hi:i<l.length):zh l i [v]=l.set i v:=by
 unfold zh;rw[QV,List.set_eq_take_append_cons_drop,QF hi];simp
theorem zNH{cells:List Value}{i:Nat}(hi:i<cells.length):(cut cells i 1).bind (zO false)=some (cells.getD i undef):=by
 have h1:cells.drop i=cells[i]::cells.drop (i+1):=GU hi;have h2:cells.getD i undef=cells[i]:=by simp[List.getD,QB hi]
 have hc:cut cells i 1=some [cells[i]]:=(ZD (by omega)).trans (by rw[h1];rfl);rw[hc,h2];rfl
theorem zGu(a n k):(Value.slice a n k).cells=#[.slice a n k]:=rfl
theorem XI{d1 d2 d3 s i n:Nat}{x y z:Operand}{un:List Nat}{hB h:WA}{p v:Value}{cells:List Value}{A:Nat->List Int}{k:Int}{K:WP->WR->WA->Prop}
  (r:AR hB h p cells n A) (e0:Ext hB h) (hm:h.mark<=hB.n) (hi:i<n) (hv:cells.getD i undef=v) (hlen:(A i).length<=1000)
  (hy:WM t y (I k)) (hx:WM (t.set d1 (.slice (some ⟨h.n,0,none⟩) 1 1)) x v) (CT:Nat.beq d1 d2=false) (hs:∀ w,WM ((t.set d1 (.slice (some ⟨h.n,0,none⟩) 1 1)).set d2 w) (.tmp s) p) (hz:∀ w,WM ((t.set d1 (.slice (some ⟨h.n,0,none⟩) 1 1)).set d2 w) z (I (i:Int))) (gR:Nat.beq d2 d3=false)
  (kk:∀ h1 w t',(∀ j,Nat.beq j d1=false->Nat.beq j d2=false->Nat.beq j d3=false->zC t' j=zC t j)->Ext hB h1->AR hB h1 p (cells.set i w) n (fun j=>if j=i then A i++[k]else A j)->(∀ g,g<h.n->p≠ .pointer (some ⟨g,0,none⟩)->(∀ a b,v≠ .slice (some ⟨g,0,none⟩) a b)->h1.get g=h.get g)->h.n<=h1.n->K .normal ⟨t',ds,rd⟩ h1):
  BR P tab h.mark (fun g=>∃ a b,v=.slice (some ⟨g,0,none⟩) a b) [(⟨some d1,none,.buildSlice 1 1 [I 0] [(0,1,y)]⟩,[]),(⟨some d2,none,.append 1 x (.tmp d1)⟩,un),(⟨some d3,none,.idxArr n 1 (.tmp s) z⟩,[]),(⟨none,none,.store 1 (.tmp d3) (.tmp d2)⟩,[])] h.n ⟨t,ds,rd⟩ (inC (zB 1 h)) (Bt K h):=by
 have EI:=r.all i hi;rw[hv]at EI;obtain⟨gp,pw,sT,hp,qR⟩:=r.own;have aO:yi t (.buildSlice 1 1 [I 0] [(0,1,y)])=some (.row [I k] true 0,fun g=> .slice (some ⟨g,0,none⟩) 1 1):=by
  have hy:ev t y=I k:=hy;simp only[yi,zu,Qm,GP,hy];rfl
 refine BR.mk rfl (by have:=e0.n;omega) aO ?_;generalize fU:(inC (zB 1 h)).lay h.n (.row [I k] true 0)=H1;have n1:H1.n=h.n+1:=by rw[<-fU];rfl
 have aH:∀ c,H1.get c=if c=h.n then some (.row [I k] true 0)else h.get c:=fun c=>by rw[<-fU];exact zT _ _ _ _
 have sl:WQ (inC H1) (.slice (some ⟨h.n,0,none⟩) 1 1) [k]:=⟨rfl,.inr ⟨h.n,0,[I k],rfl,Za (own:=true) (lo:=0) (by have:=aH h.n;rw[QF rfl]at this;exact this),rfl,by show h.n<H1.n;omega⟩⟩;have aT:=YF sl;obtain⟨H2,ha,n2,bG,qS,vN,EJ⟩:∃ H2,yb 1 v (.slice (some ⟨h.n,0,none⟩) 1 1) (inC H1)=some (.slice (some ⟨h.n+1,0,none⟩) (A i++[k]).length 1,H2)/\H2.n=h.n+2/\H2.get (h.n+1)=some (.row ((A i++[k]).map I) true 0)/\
   (∀ c,c≠h.n+1->(∀ a b,v≠ .slice (some ⟨c,0,none⟩) a b)->H2.get c=H1.get c)/\(∀ c∈H2.wr,∃ a b,v=.slice (some ⟨c,0,none⟩) a b)/\(∀ c,h.n+2<=c->H1.get c=none->H2.get c=none):=by
  have a9:zL [I k]=true:=rfl;have ju:(inC H1).n=h.n+1:=n1;rcases EI with⟨rfl,hA⟩|⟨q,q1,q2,rfl,q3⟩
  ·refine⟨(inC H1).push (.row [I k] true 0),?_,?_,?_,fun c hc _=> ?_,fun c hc=>(by cases hc),fun c hc h0=> ?_⟩
   ·have:Nat.ble 1 room=true:=rfl;simp only[yb,aT,Qm,GP,a9,QW,QU,QV,Nat.div_one,this,cond_true,hA,GJ];rw[<-ju];rfl
   ·show(inC H1).n+1=_;omega
   ·rw[hA,<-ju,zS,QF rfl];rfl
   ·rw[zS,QC (by omega)];rfl
   ·rw[zS,QC (by omega)];exact h0
  ·have hq:(inC H1).get q=some (.row ((A i).map I) true 0):=by
    have:=aH q;rw[QC (by omega)]at this;exact this.trans q3
   refine⟨((inC H1).kill q).push (.row ((A i).map I++[I k]) true (0-0)),?_,?_,?_,fun c hc hv=> ?_,fun c hc=> ?_,fun c hc h0=> ?_⟩
   ·have h1:Nat.ble ((A i).length+1) room=true:=QH (by have:room=4294967296:=rfl;omega);have h2:cut ((A i).map I) 0 ((A i).length*1)=some ((A i).map I):=by rw[ZD (by simp)];simp[Q7]
    have h3:Nat.ble 0 (0+(A i).length*1)=true:=QH (QK _);simp only[yb,aT,Qm,GP,a9,QW,QU,QV,Nat.div_one,h1,h2,h3,hq,cond_true,ju,QM];rfl
   ·show(inC H1).n+1=_;omega
   ·have e:((inC H1).kill q).n=h.n+1:=n1;rw[<-e,zS,QF rfl];simp
   ·rw[zS,QC (by show c≠(inC H1).n;omega),yt,QC (fun e=>hv _ _ (by rw[e]))];rfl
   ·have eC:c∈(inC H1).log q:=hc;rcases yc eC with rfl|h
    ·exact⟨_,_,rfl⟩
    ·cases h
   ·rw[zS,QC (by show c≠(inC H1).n;omega),yt];split
    ·rfl
    ·exact h0
 have bQ:∀ c,(∃ a b,v=.slice (some ⟨c,0,none⟩) a b)->hB.n<=c/\c<h.n/\c≠gp:=by
  rintro c ⟨a,b,e⟩;have aq:=r.off hi hp (hv.trans e);rcases EI with⟨h1,_⟩|⟨q,q1,q2,h1,_⟩
  ·rw[e]at h1;cases h1
  ·rw[e]at h1;cases h1;exact⟨q1,q2,aq⟩
 have NB:∀ a b,v≠ .slice (some ⟨gp,0,none⟩) a b:=fun a b e=>(bQ gp ⟨a,b,e⟩).2.2 rfl;rw[BR,QC (show ¬Nat.beq (zI (Wx.append 1 x (.tmp d1))) 3=true from Bool.noConfusion)];have hx:ev (t.set d1 (.slice (some ⟨h.n,0,none⟩) 1 1)) x=v:=hx;have e1:ev (t.set d1 (.slice (some ⟨h.n,0,none⟩) 1 1)) (.tmp d1)=.slice (some ⟨h.n,0,none⟩) 1 1:=by simp only[ev,zb,Q6]
 refine WO.op (.slice (some ⟨h.n+1,0,none⟩) (A i++[k]).length 1) H2 rfl (by simp only[WN,hx,e1,ha]) ?_;refine WO.nil ⟨fun c hc=> ?_,.inr ⟨rfl,vN⟩,fun c hc=>(by cases hc),?_⟩
 ·have:=(bQ c (vN c hc)).1;omega
 rw[BR,QC (show ¬Nat.beq (zI (Wx.idxArr n 1 (.tmp s) z)) 3=true from Bool.noConfusion)];have ee:WB hB (inC H2) p cells:=by
  refine⟨gp,pw,by show gp<H2.n;omega,hp,?_⟩;show H2.get gp=_;rw[qS gp (by omega) NB,aH,QC (by omega)];exact qR
 have eW:=hs (.slice (some ⟨h.n+1,0,none⟩) (A i++[k]).length 1);have qF:=hz (.slice (some ⟨h.n+1,0,none⟩) (A i++[k]).length 1);have pz:=Vm (P:=P) (ih:=Ex.bot) (c:=1) (n:=n) (i:=i) eW (by have qF:ev _ z=I (i:Int):=qF;rw[qF];rfl) ee hi;rw[G4]at pz;refine WO.op _ (inC H2) rfl pz ?_;refine WO.nil ⟨fun c hc=>(by cases hc),?_,fun c hc=>(by cases hc),?_⟩
 ·exact .inr ⟨rfl,fun c hc=>(by cases hc)⟩
 rw[BR,QC (show ¬Nat.beq (zI (Wx.store 1 (.tmp d3) (.tmp d2))) 3=true from Bool.noConfusion)];have aX:zr (inC (inC H2)) ⟨gp,i,none⟩ [.slice (some ⟨h.n+1,0,none⟩) (A i++[k]).length 1]=some ((inC (inC H2)).set gp (.row (cells.set i (.slice (some ⟨h.n+1,0,none⟩) (A i++[k]).length 1)) true 0)):=by
  obtain⟨q,_,_,hq,hg⟩:=ee;rw[hp]at hq;cases hq;have jS:(inC (inC H2)).get gp=some (.row cells true 0):=hg;have h1:Nat.ble (i+1) cells.length=true:=QH (by rw[r.len];exact hi);have h0:Nat.ble 0 i=true:=QH (QK _);have h2:zL [.slice (some ⟨h.n+1,0,none⟩) (A i++[k]).length 1]=true:=rfl;simp only[zr,jS,QV,h1,h0,h2,Qv,zBq (show i<cells.length by rw[r.len];exact hi)];rfl
 have mb:¬d2=d3:=fun e=>by subst e;simp at gR
 refine VP undef ((inC (inC H2)).set gp (.row (cells.set i (.slice (some ⟨h.n+1,0,none⟩) (A i++[k]).length 1)) true 0)) rfl (by
  have a1:∀ tt:WG Value,ev (tt.set d3 (yE p i)) (.tmp d3)=.pointer (some ⟨gp,i,none⟩):=fun tt=>by
   simp only[ev,zb,Q6,hp,yE,GH]
  have a2:∀ w,ev (((t.set d1 (.slice (some ⟨h.n,0,none⟩) 1 1)).set d2 w).set d3 (yE p i)) (.tmp d2)=w:=fun w=>by
   simp only[ev,zb,QC mb,Q6]
  simp only[val,WN,a1,a2,zGu,Gc,QV,GR,aX,QJ,cond_true]) ?_
 refine WO.nil ⟨fun c hc=> ?_,.inl rfl,fun c hc=>(by cases hc),?_⟩
 ·have eC:c∈(inC (inC H2)).log gp:=hc;rcases yc eC with rfl|h
  ·omega
  ·cases h
 generalize hH:outC h ((inC (inC H2)).set gp (.row (cells.set i (.slice (some ⟨h.n+1,0,none⟩) (A i++[k]).length 1)) true 0))=H;have nH:H.n=h.n+2:=by rw[<-hH];exact n2
 have dy:∀ c,H.get c=if c=gp then some (.row (cells.set i (.slice (some ⟨h.n+1,0,none⟩) (A i++[k]).length 1)) true 0)else H2.get c:=fun c=>by rw[<-hH];exact zT _ _ _ _
 have dA:∀ c,c<h.n->c≠gp->(∀ a b,v≠ .slice (some ⟨c,0,none⟩) a b)->H.get c=h.get c:=fun c h1 h2 h3=>by
  rw[dy,QC h2,qS c (by omega) h3,aH,QC (by omega)]
 have EK:∀ c,c<hB.n->H.get c=h.get c:=fun c hc=>dA c (by have:=e0.n;omega) (by omega) (fun a b e=>by have:=(bQ c ⟨a,b,e⟩).1;omega);show K .normal _ _;rw[hH];refine kk H (.slice (some ⟨h.n+1,0,none⟩) (A i++[k]).length 1) _ (fun j a1 a2 a3=> ?_) ?_ ?_ (fun c h1 h2 h3=>dA c h1 (fun e=>h2 (by rw[hp,e])) h3) (by omega)
 ·have b1:¬j=d1:=fun e=>by subst e;simp at a1
  have b2:¬j=d2:=fun e=>by subst e;simp at a2
  have b3:¬j=d3:=fun e=>by subst e;simp at a3
  simp only[val,zb,QC b1,QC b2,QC b3]
 ·refine⟨by rw[nH];have:=e0.n;omega,fun c hc=>(EK c hc).trans (e0.get c hc),fun w c hc=> ?_,?_,fun cT=> ?_⟩
  ·rw[nH]at hc;rw[dy,QC (by omega)];exact EJ c hc (by rw[aH,QC (by omega)];exact e0.wf w c (by omega))
  ·rw[<-hH];exact e0.mark
  ·rw[<-hH];exact e0.wr cT
 ·refine⟨⟨gp,pw,by omega,hp,by rw[dy,QF rfl]⟩,by rw[Gh];exact r.len,fun j hj=> ?_,fun j1 j2 g a b c d gK gh aq e1 e2=> ?_⟩
  ·rw[zF6 (by rw[r.len];exact hi)];by_cases e:j=i
   ·rw[QF e];simp only[QF e];exact .inr ⟨h.n+1,by have:=e0.n;omega,by omega,rfl,by rw[dy,QC (by omega)];exact bG⟩
   ·rw[QC e];simp only[QC e];rcases r.all j hj with h1|⟨q,q1,q2,h1,q3⟩
    ·exact .inl h1
    ·refine .inr ⟨q,q1,by omega,h1,?_⟩;rw[dA q q2 (r.off hj hp h1) (fun a b e2=>r.apart j i q _ _ a b hj hi e h1 (hv.trans e2))];exact q3
  ·rw[zF6 (by rw[r.len];exact hi)]at e1 e2;have fC:∀ j a b,j<n->cells.getD j undef=.slice (some ⟨g,0,none⟩) a b->g<h.n:=fun j a b hj e=>by
    rcases r.all j hj with⟨h1,_⟩|⟨q,_,q2,h1,_⟩
    ·rw[e]at h1;cases h1
    ·rw[e]at h1;cases h1;exact q2
   by_cases f1:j1=i
   ·rw[QF f1]at e1;cases e1;by_cases f2:j2=i
    ·exact aq (f1.trans f2.symm)
    ·rw[QC f2]at e2;have:=fC j2 _ _ gh e2;omega
   ·rw[QC f1]at e1;by_cases f2:j2=i
    ·rw[QF f2]at e2;cases e2;have:=fC j1 _ _ gK e1;omega
    ·rw[QC f2]at e2;exact r.apart j1 j2 g a b c d gK gh aq e1 e2
theorem AR.one{hB h:WA}{p:Value}{cells:List Value}{n:Nat}{A:Nat->List Int}(r:AR hB h p cells n A):zL cells=true:=by
 unfold zL;rw[QX];intro x hx;obtain⟨j,hj,rfl⟩:=JI.1 hx;have e:cells.getD j undef=cells[j]:=by simp[List.getD,QB hj]
 have:=r.all j (by rw[<-r.len];exact hj);rw[e]at this;rcases this with⟨h,_⟩|⟨_,_,_,h,_⟩<;>rw[h]
theorem AR.updC{hB h h':WA}{p:Value}{cells:List Value}{n:Nat}{A:Nat->List Int}(r:AR hB h p cells n A)(o:WB hB h' p cells)(u:Wm p h h'):AR hB h' p cells n A:=by
 refine⟨o,r.len,fun j hj=> ?_,r.apart⟩;rcases r.all j hj with h1|⟨q,q1,q2,h1,q3⟩
 ·exact .inl h1
 ·refine .inr ⟨q,q1,QI q2 u.1,h1,(u.2 q q2 fun e=> ?_).trans q3⟩;exact r.off hj e h1 rfl
theorem zKa{cells:List Value}{n:Nat}(hn:cells.length=n):(cut cells 0 n).bind (zO true)=some (.agg cells.toArray):=by
 subst hn;rw[ZD (by omega)];simp[Q7,zO]
theorem XD{d i:Nat}{x:Operand}{p:Value}{cells:List Value}{h0 h:WA}{l:List WF}{Q:WR->WA->Prop}(o:WB h0 h p cells)(hi:i<cells.length)(k:WO P tab l ⟨t.set d (cells.getD i undef),ds,rd⟩ h Q)(hx:WM t x (yE p i):=by exact zi):WO P tab (⟨some d,none,.load false 1 x⟩::l) ⟨t,ds,rd⟩ h Q:=
 Xv (WB.load hx o (zNH hi)) k
theorem Xg{d n:Nat}{x:Operand}{p:Value}{cells:List Value}{h0 h:WA}{l:List WF}{Q:WR->WA->Prop}(o:WB h0 h p cells)(hn:cells.length=n)(k:WO P tab l ⟨t.set d (.agg cells.toArray),ds,rd⟩ h Q)(hx:WM t x p:=by exact zi):WO P tab (⟨some d,none,.load true n x⟩::l) ⟨t,ds,rd⟩ h Q:=
 Xv (Vl hx o (zKa hn)) k
end
section
variable {P:Program}{tab:Wy}{ds:List Deferred}{rd:Option Nat}{h:WA}{l:List WF}{t:WG Value}
theorem goV{G' G:Prop}(k:G')(r:Wrap G'->G:=by
  intro fY;first|with_reducible show BR _ _ _ _ (_::_) _ _ _ _|refine go ?_
  repeat (first|((apply BR.q;rfl);refine go ?_)|refine zQ7 rfl ?_|(apply zKB;(exact zQ);(assumption)))
  first|with_reducible show BR _ _ _ _ (_::_) _ _ _ _|refine go ?_
  exact fY.out):G:=r ⟨k⟩
end
section
variable {P:Program}{tab:Wy}{t:WG Value}{ds:List Deferred}{rd:Option Nat}
theorem zEG{h0 h:WA}{p:Value}{xs:List Int}{j:Nat}{a:Int}(o:WB h0 h p (xs.map I))(hj:j<xs.length):∃ g,h0.n<=g/\g<h.n/\p=.pointer (some ⟨g,0,none⟩)/\zr h ⟨g,j,none⟩ [I a]=some (h.set g (.row ((xs.set j a).map I) true 0)):=by
 obtain⟨g,g1,g2,hp,g3⟩:=o;refine⟨g,g1,g2,hp,?_⟩;have h1:Nat.ble (j+1) (xs.map I).length=true:=QH (by simp;omega);have h0:Nat.ble 0 j=true:=QH (QK _);have h2:zL [I a]=true:=rfl;simp only[zr,g3,QV,h1,h0,h2,Qv,zAh _ _ _ hj];rfl
theorem V6{x y:Operand}{p:Value}{xs:List Int}{j:Nat}{a:Int}{h0 h:WA}{l:List WF}{Q:WR->WA->Prop}(o:WB h0 h p (xs.map I))(e0:Ext h0 h)(hj:j<xs.length)
  (k:∀ h',Ext h0 h'->WB h0 h' p ((xs.set j a).map I)->Wm p h h'->WO P tab l ⟨t,ds,rd⟩ h' Q) (hx:WM t x (yE p j):=by exact zi) (hy:WM t y (I a):=by exact zi):WO P tab (⟨none,none,.store 1 x y⟩::l) ⟨t,ds,rd⟩ h Q:=by
 refine Vo hx hy (v:=I a) (cs:=[I a]) rfl rfl rfl o e0 (by simp;omega) fun h' a1 a2 a3=>k h' a1 ?_ a3;rw[zAh _ _ _ hj]at a2;exact a2
theorem UT{N0 g:Nat}{cl:Bool}{x y:Operand}{p:Value}{xs:List Int}{j:Nat}{a:Int}{h0 X:WA}{m:Nat}{w:WF×List Nat}{l:List (WF×List Nat)}{Q:WR->WA->Prop}(o:WB h0 X p (xs.map I))(hm:m<=h0.n)(hj:j<xs.length)
  (k:∀ X',X'.n=X.n->WB h0 X' p ((xs.set j a).map I)->Wm p X X'->(Wf X->Wf X')->Wb P tab m N0 (w::l) g false ⟨t,ds,rd⟩ (inC X') Q) (hx:WM t x (yE p j):=by exact zi) (hy:WM t y (I a):=by exact zi):
  Wb P tab m N0 ((⟨none,none,.store 1 x y⟩,[])::w::l) g cl ⟨t,ds,rd⟩ (inC X) Q:=by
 obtain⟨q,q1,q2,hp,aX⟩:=zEG (a:=a) o hj;rw[Wb,QC (show ¬Nat.beq (zI (Wx.store 1 x y)) 3=true from Bool.noConfusion)];have sU:zr (inC (inC X)) ⟨q,j,none⟩ [I a]=some ((inC (inC X)).set q (.row ((xs.set j a).map I) true 0)):=by
  have:WB h0 (inC (inC X)) p (xs.map I):=o;obtain⟨q',_,_,f9,h⟩:=zEG (a:=a) this hj;rw[hp]at f9;cases f9;exact h
 have hx:ev t x=yE p j:=hx;have hy:ev t y=I a:=hy;have hc:(I a).cells=#[I a]:=rfl;refine VP undef ((inC (inC X)).set q (.row ((xs.set j a).map I) true 0)) rfl (by
  simp only[WN,hx,hp,yE,GH,hy,hc,sU,QJ];rfl) ?_
 have EL:(inC (inC X)).log q=[q]:=by
  have:Nat.ble X.n q=false:=by
   cases hb:Nat.ble X.n q with
   |false=>rfl
   |true=>have:=QS hb;omega
  show(bif Nat.ble X.n q then[]else q::[])=_;rw[this];rfl
 have xu:((inC (inC X)).set q (.row ((xs.set j a).map I) true 0)).wr=[q]:=EL;refine WO.nil ⟨⟨fun c hc=> ?_,QE _,.inl rfl⟩,?_⟩
 ·rw[xu]at hc;rw[QZ]at hc;subst hc;omega
 ·rw[xu,show(cl&&[q].isEmpty)=false by cases cl<;>rfl];have:=k ((inC (inC X)).set q (.row ((xs.set j a).map I) true 0)) rfl ⟨q,q1,q2,hp,by rw[zg,QF rfl]⟩ ⟨QE _,fun c _ hc=>by rw[zg,QC (fun e=>hc (by rw[hp,e]))];rfl⟩ (fun wf c hc=>by have hc:X.n<=c:=hc;rw[zg,QC (by omega)];exact wf c hc);obtain⟨o2,un2⟩:=w;unfold Wb at this |-;exact this
theorem Ua{N0 g:Nat}{cl:Bool}{x y:Operand}{p:Value}{xs:List Int}{j:Nat}{a:Int}{h0 hS X:WA}{K:WP->WR->WA->Prop}(o:WB h0 X p (xs.map I))(e0:Ext h0 hS)(hm:hS.mark<=h0.n)(hn:X.n=hS.n)(u:Wm p hS X)(wf:Wf hS->Wf X)(hj:j<xs.length)
  (k:∀ h1,Ext h0 h1->WB h0 h1 p ((xs.set j a).map I)->Wm p hS h1->K .normal ⟨t,ds,rd⟩ h1) (hx:WM t x (yE p j):=by exact zi) (hy:WM t y (I a):=by exact zi):
  Wb P tab hS.mark N0 [(⟨none,none,.store 1 x y⟩,[])] g cl ⟨t,ds,rd⟩ (inC X) (Bt K hS):=by
 obtain⟨q,q1,q2,hp,_⟩:=zEG (a:=a) o hj;rw[Wb,QC (show ¬Nat.beq (zI (Wx.store 1 x y)) 3=true from Bool.noConfusion)];have sU:zr (inC (inC X)) ⟨q,j,none⟩ [I a]=some ((inC (inC X)).set q (.row ((xs.set j a).map I) true 0)):=by
  have:WB h0 (inC (inC X)) p (xs.map I):=o;obtain⟨q',_,_,f9,h⟩:=zEG (a:=a) this hj;rw[hp]at f9;cases f9;exact h
 have hx:ev t x=yE p j:=hx;have hy:ev t y=I a:=hy;have hc:(I a).cells=#[I a]:=rfl;refine VP undef ((inC (inC X)).set q (.row ((xs.set j a).map I) true 0)) rfl (by
  simp only[WN,hx,hp,yE,GH,hy,hc,sU,QJ];rfl) ?_
 refine WO.nil ⟨⟨fun c hc=> ?_,QE _,.inl rfl⟩,?_⟩
 ·have eC:c∈(inC (inC X)).log q:=hc;rcases yc eC with rfl|h
  ·omega
  ·cases h
 have bG:∀ c,(outC hS ((inC (inC X)).set q (.row ((xs.set j a).map I) true 0))).get c=if c=q then some (.row ((xs.set j a).map I) true 0)else X.get c:=fun c=>zT _ _ _ _;refine k (outC hS ((inC (inC X)).set q (.row ((xs.set j a).map I) true 0))) ?_ ⟨q,q1,q2,hp,by rw[bG,QF rfl]⟩ ⟨by show hS.n<=X.n;omega,fun c hc hv=>by rw[bG,QC (fun e=>hv (by rw[hp,e]))];exact u.2 c hc hv⟩;refine⟨by show h0.n<=X.n;rw[hn];exact e0.n,fun c hc=> ?_,fun w c hc=> ?_,e0.mark,fun cT=>e0.wr cT⟩
 ·rw[bG,QC (by omega)];exact(u.2 c (by have:=e0.n;omega) (fun e=>by rw[hp]at e;cases e;omega)).trans (e0.get c hc)
 ·have hc:X.n<=c:=hc;rw[bG,QC (by omega)];exact wf (e0.wf w) c hc
theorem zL3{xs:List Int}{j n:Nat}(h:j+n<=xs.length):(cut (xs.map I) j n).bind (zO true)=some (.agg (((xs.drop j).take n).map I).toArray):=by
 rw[ZD (by simp;omega)];simp[zO]
theorem Vn{d j n:Nat}{x:Operand}{p:Value}{xs:List Int}{h0 h:WA}{l:List WF}{Q:WR->WA->Prop}(o:WB h0 h p (xs.map I))(hn:j+n<=xs.length)(k:WO P tab l ⟨t.set d (.agg (((xs.drop j).take n).map I).toArray),ds,rd⟩ h Q)(hx:WM t x (yE p j):=by exact zi):WO P tab (⟨some d,none,.load true n x⟩::l) ⟨t,ds,rd⟩ h Q:=
 Xv (WB.load hx o (zL3 hn)) k
theorem zMj{e:TypeId}{kk:IntKind}{d:Nat}(he:P.underlying e=some (.int kk))(ha:zc P (isAgg e)=some false){xs ys:List Int}(hl:xs.length=ys.length):∀ (m i:Nat),i+m=xs.length->
  zc P (do
   let s <-(forIn (List.range' i m) (none,()) fun f (__s:Option Bool×Unit)=>do
           let __do_lift <-part e (xs.map I).toArray (f*1)
           let __do_lift_1 <-part e (ys.map I).toArray (f*1)
           let __do_lift <-Op.equalIn (d+1) e __do_lift __do_lift_1
           if(!__do_lift)=true then pure (ForInStep.done (some false,()))
            else pure (ForInStep.yield (none,())):Sem (Option Bool×Unit))
   match s.fst with
        |some r=>pure r
        |none=>pure true)=some (decide (xs.drop i=ys.drop i)):=by
 intro m;induction m with
 |zero=>
  intro i hi;have h1:xs.drop i=[]:=List.drop_eq_nil_of_le (by omega);have h2:ys.drop i=[]:=List.drop_eq_nil_of_le (by omega);rw[h1,h2];rfl
 |succ m ih=>
  intro i hi;have hx:i<xs.length:=by omega
  have hy:i<ys.length:=by omega
  have px:zc P (part e (xs.map I).toArray (i*1))=some (I xs[i]):=zCk (by rw[ha]) (by simp[hx]);have py:zc P (part e (ys.map I).toArray (i*1))=some (I ys[i]):=zCk (by rw[ha]) (by simp[hy]);have heq:zc P (Op.equalIn (d+1) e (I xs[i]) (I ys[i]))=some (decide (xs[i]=ys[i])):=by
   rw[Op.equalIn,zN,yp he];simp only[Qb,Q6,zHF];congr 1
  rw[List.range'_succ,List.forIn_cons];simp only[bind_assoc,zN,px,py,Qb,heq];have e1:(xs.drop i=ys.drop i)↔(xs[i]=ys[i]/\xs.drop (i+1)=ys.drop (i+1)):=by rw[GU hx,GU hy,List.cons.injEq]
  by_cases h:xs[i]=ys[i]
  ·have:=ih (i+1) (by omega);rw[Qc h,show decide (xs.drop i=ys.drop i)=decide (xs.drop (i+1)=ys.drop (i+1))from decide_eq_decide.2 (e1.trans ⟨fun h=>h.2,fun k=>⟨h,k⟩⟩),<-this,zN];rfl
  ·rw[QY h,show decide (xs.drop i=ys.drop i)=false from QY fun k=>h (e1.1 k).1];rfl
theorem zQe{t e:TypeId}{kk:IntKind}{n:Nat}{xs ys:List Int}{x y:Operand}(ht:P.underlying t=some (.array n e))(he:P.underlying e=some (.int kk))(ha:zc P (isAgg e)=some false)(hs:zc P (sizeOf e)=some 1)(hg:P.eqGuardType P.depth t=false)(hx:xs.length=n)(hy:ys.length=n):
  zc P (do eqGuard .eql t x y (.agg (xs.map I).toArray) (.agg (ys.map I).toArray);binOp .eql t (.agg (xs.map I).toArray) (.agg (ys.map I).toArray))=some (.bool (decide (xs=ys))):=by
 have h1:zc P (eqGuard .eql t x y (.agg (xs.map I).toArray) (.agg (ys.map I).toArray))=some ():=by
  unfold eqGuard;simp only[QW,Qa,Gb];rw[zN,yV];simp only[Qb];rw[zN,yV];simp only[Qb,hg,Qh,Q6];rfl
 rw[zN,h1];simp only[Qb];unfold binOp;simp only[];rw[zN];have h2:zc P (Op.equal t (.agg (xs.map I).toArray) (.agg (ys.map I).toArray))=some (decide (xs=ys)):=by
  unfold Op.equal Op.maxDepth;rw[show(10000:Nat)=9999+1 from rfl,Op.equalIn,zN,yp ht];simp only[Qb];rw[zN,hs];simp only[Qb];have:=zMj (P:=P) (d:=9998) he ha (xs:=xs) (ys:=ys) (by omega) n 0 (by omega);rw[Q2,Q2]at this;rw[<-this,zN,zN];first|rw[Std.Legacy.Range.forIn_eq_forIn_range']|rw[Std.Range.forIn_eq_forIn_range']
  have hsz:(Std.Legacy.Range.size [:n])=n:=by simp[Std.Legacy.Range.size]
  rw[hsz];congr 1;funext a;obtain⟨a,_⟩:=a;cases a<;>rfl
 rw[h2];rfl
noncomputable def zPy(P:Program)(t:TypeId)(n:Nat):Bool:=
 (match P.underlying t with
 |some (.array m e)=>Nat.beq m n&&(match P.underlying e with|some (.int _)=>true|_=>false)&&(match zc P (isAgg e)with|some false=>true|_=>false)&&(match zc P (sizeOf e)with|some 1=>true|_=>false)
 |_=>false)&& !P.eqGuardType P.depth t
theorem zOi{t:TypeId}{n:Nat}{xs ys:List Int}{x y:Operand}(h:zPy P t n=true)(hx:xs.length=n)(hy:ys.length=n):
  zc P (do eqGuard .eql t x y (.agg (xs.map I).toArray) (.agg (ys.map I).toArray);binOp .eql t (.agg (xs.map I).toArray) (.agg (ys.map I).toArray))=some (.bool (decide (xs=ys))):=by
 unfold zPy at h;rw[QN]at h;obtain⟨h,hg⟩:=h;have hg:P.eqGuardType P.depth t=false:=by cases hh:P.eqGuardType P.depth t with|false=>rfl|true=>rw[hh]at hg;cases hg
 split at h
 ·rename_i m e ht;simp only[QN]at h;obtain⟨⟨⟨h1,h2⟩,h3⟩,h4⟩:=h;have hm:=QO h1;subst hm;split at h2
  ·rename_i kk he;refine zQe ht he ?_ ?_ hg hx hy
   ·split at h3
    ·assumption
    ·cases h3
   ·split at h4
    ·assumption
    ·cases h4
  ·cases h2
 ·cases h
def zKC(K:WP->WR->WA->Prop):WP->WR->WA->Prop
 | .normal,fr,h=>K .normal fr h
 | .exit i,fr,h=>K (.exit i) fr h
 | .goto _,_,_=>False
 | .ret,fr,h=>K .ret fr h
theorem zH4{K fr h}(hx:K .ret fr h):zKC K .ret fr h:=hx
theorem V2{b fr h K}(hx:WX P tab b fr h (zKC K)):WX P tab (.scope b) fr h K:=by
 unfold WX at hx |-;obtain⟨e,af,h',k,ev⟩:=hx;have run:∀ n,(BI P tab n).exec b fr h=some (e,af,h')->(∀ l,e≠ .goto l)->Ya (BI P tab n) zP0 b b fr h=some (e,af,h'):=fun n h1 h2=>by
  show Ya (BI P tab n) (4294967295+1) b b fr h=_;rw[Ya,h1];cases e with
  |goto l=>exact absurd rfl (h2 l)
  |_=>rfl
 cases e with
 |goto l=>exact k.elim
 |normal=>exact⟨_,_,_,k,Ev.up (ev.mono fun n e=>by rw[zx];simp only[zv];exact run n e (fun l h=>by cases h))⟩
 |exit i=>exact⟨_,_,_,k,Ev.up (ev.mono fun n e=>by rw[zx];simp only[zv];exact run n e (fun l h=>by cases h))⟩
 |ret=>exact⟨_,_,_,k,Ev.up (ev.mono fun n e=>by rw[zx];simp only[zv];exact run n e (fun l h=>by cases h))⟩
end
def Ba{α:Type}(R:WA->List Value->α->Prop)(h:WA)(cs:List Value)(a:α)(D:Nat->Prop):Prop:=
 ∀ hx:WA,(∀ k o,D k->h.get k=some o->hx.get k=some o)->h.n<=hx.n->R hx cs a
def OwnR{α:Type}(c:Nat)(R:WA->List Value->α->Prop)(b:Nat)(h:WA)(v:Value)(xs:List α):Prop:=
 (v=.slice none 0 0/\xs=[])\/∃ g cells D,b<=g/\g<h.n/\v=.slice (some ⟨g,0,none⟩) xs.length c/\h.get g=some (.row cells true 0)/\cells.length=xs.length*c/\¬D g/\(∀ k,D k->b<=k/\k<h.n)/\
  ∀ (i:Nat) (a:α),xs[i]?=some a->Ba R h ((cells.drop (i*c)).take c) a D
section
variable {α:Type}{c b:Nat}{R:WA->List Value->α->Prop}{h h':WA}{v:Value}{xs:List α}
theorem Ba.self{cs:List Value}{a:α}{D:Nat->Prop}(d:Ba R h cs a D):R h cs a:=d h (fun _ _ _ e=>e) (QE _)
theorem Ba.mono{cs:List Value}{a:α}{D E:Nat->Prop}(d:Ba R h cs a D)(hE:∀ k,D k->E k)(hk:∀ k o,D k->h.get k=some o->h'.get k=some o)(hn:h.n<=h'.n):Ba R h' cs a E:=
 fun hx h1 h2=>d hx (fun k o hd e=>h1 k o (hE k hd) (hk k o hd e)) (QP hn h2)
theorem OwnR.nil:OwnR c R b h (.slice none 0 0) ([]:List α):= .inl ⟨rfl,rfl⟩
theorem OwnR.upd(o:OwnR c R b h v xs)(hk:∀ k,b<=k->k<h.n->h'.get k=h.get k)(hn:h.n<=h'.n):OwnR c R b h' v xs:=by
 rcases o with o|⟨g,cells,D,g1,g2,g3,g4,g5,g6,g7,g8⟩
 ·exact .inl o
 ·exact .inr ⟨g,cells,D,g1,QI g2 hn,g3,(hk g g1 g2).trans g4,g5,g6,fun k hd=>⟨(g7 k hd).1,QI (g7 k hd).2 hn⟩,fun i a ha=>(g8 i a ha).mono (fun _ h=>h) (fun k o hd e=>(hk k (g7 k hd).1 (g7 k hd).2).trans e) hn⟩
theorem OwnR.ext(o:OwnR c R b h v xs)(e:Ext h h'):OwnR c R b h' v xs:=o.upd (fun k _ hk=>e.get k hk) e.n
theorem OwnR.dep(o:OwnR c R b h v xs){hx:WA}(hk:∀ k o,b<=k->k<h.n->h.get k=some o->hx.get k=some o)(hn:h.n<=hx.n):BE c R hx v xs:=by
 rcases o with⟨rfl,rfl⟩|⟨g,cells,D,g1,g2,rfl,g4,g5,g6,g7,g8⟩
 ·exact BE.nil
 ·refine⟨cells,⟨g5,.inr ⟨g,0,cells,rfl,Za (hk g _ g1 g2 g4),?_,QI g2 hn⟩⟩,fun i a ha=>g8 i a ha hx (fun k o hd e=>hk k o (g7 k hd).1 (g7 k hd).2 e) hn⟩;rw[ZD (by omega)];simp[<-g5]
theorem OwnR.sl(o:OwnR c R b h v xs):BE c R h v xs:=o.dep (fun _ _ _ _ e=>e) (QE _)
theorem OwnR.base{b':Nat}(o:OwnR c R b h v xs)(hb:b'<=b):OwnR c R b' h v xs:=by
 rcases o with o|⟨g,cells,D,g1,g2,g3,g4,g5,g6,g7,g8⟩
 ·exact .inl o
 ·exact .inr ⟨g,cells,D,QP hb g1,g2,g3,g4,g5,g6,fun k hd=>⟨QP hb (g7 k hd).1,(g7 k hd).2⟩,g8⟩
theorem WL.depI{hb:WA}{w:Value}{l:List Int}(o:WL hb h w l){hx:WA}(hk:∀ k o,hb.n<=k->k<h.n->h.get k=some o->hx.get k=some o)(hn:h.n<=hx.n):WQ hx w l:=by
 rcases o with⟨rfl,rfl⟩|⟨g,g1,g2,rfl,g4⟩
 ·exact WQ.nil hx
 ·exact WQ.own (QI g2 hn) (hk g _ g1 g2 g4)
theorem zNJ{cells cs:List Value}{n i:Nat}(hl:cells.length=n*c)(hc:cs.length=c)(hi:i<n):(((cells++cs).drop (i*c)).take c)=(cells.drop (i*c)).take c:=by
 have h1:i*c+c<=n*c:=by rw[<-G8];exact GK _ hi
 rw[List.drop_append,List.take_append_of_le_length];rw[List.length_drop];omega
theorem zLH{cells cs:List Value}{n:Nat}(hl:cells.length=n*c)(hc:cs.length=c):(((cells++cs).drop (n*c)).take c)=cs:=by
 rw[List.drop_append,List.drop_eq_nil_of_le (by omega),GJ,hl,Nat.sub_self,Q2,Q7 (by omega)]
theorem OwnR.snoc(o:OwnR c R b h v xs){cs:List Value}{a:α}{Dn:Nat->Prop}{g':Nat}{eQ:List Value}(hc:cs.length=c)(d:Ba R h cs a Dn)(hD:∀ k,Dn k->b<=k/\k<h.n)(hv:∀ g n k,v=.slice (some ⟨g,0,none⟩) n k->¬Dn g)
  (hold:∀ g n k,v=.slice (some ⟨g,0,none⟩) n k->h.get g=some (.row eQ true 0)) (ef:v=.slice none 0 0->eQ=[])
  (hg:h.n<=g') (hb:b<=g') (nO:g'<h'.n) (bq:h'.get g'=some (.row (eQ++cs) true 0)) (keep:∀ k,b<=k->k<h.n->(∀ n k',v≠ .slice (some ⟨k,0,none⟩) n k')->h'.get k=h.get k):
  OwnR c R b h' (.slice (some ⟨g',0,none⟩) (xs++[a]).length c) (xs++[a]):=by
 rcases o with⟨rfl,rfl⟩|⟨g,cells,D,g1,g2,rfl,g4,g5,g6,g7,g8⟩
 ·have:=ef rfl;subst this;refine .inr ⟨g',cs,Dn,hb,nO,rfl,by simpa using bq,by simp[hc],fun hd=>by have:=(hD _ hd).2;omega,fun k hd=>⟨(hD k hd).1,by have:=(hD k hd).2;omega⟩,fun i x hx=> ?_⟩;have hi:i=0:=by
   have:=(QR.1 hx).1;simp at this;omega
  subst hi;simp at hx;subst hx;rw[Nat.zero_mul,Q2,Q7 (by omega)];exact d.mono (fun _ h=>h) (fun k o hd e=>(keep k (hD k hd).1 (hD k hd).2 (fun _ _ e=>by cases e)).trans e) (by omega)
 ·have:=hold g _ _ rfl;rw[g4]at this;cases this;refine .inr ⟨g',eQ++cs,fun k=>D k\/Dn k,hb,nO,rfl,bq,by rw[QM,QM,QV,G8,g5,hc],fun hd=> ?_,fun k hd=> ?_,fun i x hx=> ?_⟩
  ·rcases hd with hd|hd
   ·have:=(g7 _ hd).2;omega
   ·have:=(hD _ hd).2;omega
  ·rcases hd with hd|hd
   ·exact⟨(g7 k hd).1,by have:=(g7 k hd).2;omega⟩
   ·exact⟨(hD k hd).1,by have:=(hD k hd).2;omega⟩
  ·by_cases hi:i<xs.length
   ·rw[Qy hi]at hx;rw[zNJ g5 hc hi];refine(g8 i x hx).mono (fun k h=> .inl h) (fun k o hd e=>(keep k (g7 k hd).1 (g7 k hd).2 (fun n k' e2=> ?_)).trans e) (by omega);cases e2;exact g6 hd
   ·rw[GD (by omega)]at hx;have dt:i=xs.length:=by
     have:=(QR.1 hx).1;simp at this;omega
    subst dt;simp at hx;subst hx;rw[zLH g5 hc];refine d.mono (fun k h=> .inr h) (fun k o hd e=>(keep k (hD k hd).1 (hD k hd).2 (fun n k' e2=> ?_)).trans e) (by omega);exact hv k n k' e2 hd
end
section
variable {P:Program}{tab:Wy}{t:WG Value}{h:WA}{ds:List Deferred}{rd:Option Nat}{l:List WF}{Q:WR->WA->Prop}
theorem Zz{zero cs:List Value}{v:Value}{c:Nat}(hv:v.cells=cs.toArray)(hc:cs.length=c)(hz:zero.length=c):Zy (zo zero 1) [(0,c,v)]=some cs:=by
 have h1:zo zero 1=zero:=by simp[zo]
 have h2:Nat.beq v.cells.size c=true:=by rw[hv];simp[hc]
 have h3:Nat.ble (0+c) zero.length=true:=QH (by omega);rw[h1];simp only[Zy,h2,h3,Qv,cond_true,hv];congr 1;simp[zh,hc,hz]
theorem Z0{α:Type}{c b gl:Nat}{R:WA->List Value->α->Prop}{h H:WA}{v:Value}{xs:List α}{cs:List Value}{a:α}{Dn:Nat->Prop}(o:OwnR c R b h v xs)(hc:cs.length=c)(aW:0<c)(h1:zL cs=true)(hl:xs.length<=100000)(eF:b<=h.n)
  (d:Ba R h cs a Dn) (hD:∀ k,Dn k->b<=k/\k<h.n) (hv:∀ g n k,v=.slice (some ⟨g,0,none⟩) n k->¬Dn g) (hH:h.n<=H.n) (xv:gl<H.n) (dw:∀ k,k<h.n->H.get k=h.get k) (EM:H.get gl=some (.row cs true 0)):
  ∃ v' H',yb c v (.slice (some ⟨gl,0,none⟩) 1 c) H=some (v',H')/\OwnR c R b H' v' (xs++[a])/\H'.n=H.n+1/\(∀ k,k<H.n->(∀ n k',v≠ .slice (some ⟨k,0,none⟩) n k')->H'.get k=H.get k)/\H'.mark=H.mark/\(∀ k∈H'.wr,k∈H.wr\/b<=k)/\
   (H.mark<=b->H'.wr=H.wr)/\(Wf H->Wf H')/\(∃ n k g,v'=.slice (some ⟨g,0,none⟩) n k/\H.n<=g):=by
 obtain⟨y,ys,rfl⟩:∃ y ys,cs=y::ys:=by
  cases cs with
  |nil=>simp at hc;omega
  |cons y ys=>exact⟨y,ys,rfl⟩
 have aT:yg c H (.slice (some ⟨gl,0,none⟩) 1 c)=some (y::ys):=by
  have e1:yj H gl=some (y::ys):=Za EM;have e2:cut (y::ys) 0 (1*c)=some (y::ys):=by rw[ZD (by omega)];simp[<-hc]
  have e3:Nat.beq 1 0=false:=rfl;rw[Nat.one_mul]at e2;simp only[yg,e1,e3,Nat.one_mul,e2,GR,Qp,Qv,cond_true,QU]
 have hdiv:(y::ys).length / c=1:=by rw[hc];exact Nat.div_self aW
 have a6:room=4294967296:=rfl;rcases id o with⟨rfl,rfl⟩|⟨g,cells,D,g1,g2,rfl,g4,g5,g6,g7,g8⟩
 ·have cZ:Nat.ble 1 room=true:=rfl;refine⟨.slice (some ⟨H.n,0,none⟩) 1 c,H.push (.row (y::ys) true 0),?_,?_,rfl,fun k hk _=> ?_,rfl,fun k hk=> .inl hk,fun _=>rfl,fun w k hk=> ?_,⟨_,_,_,rfl,QE _⟩⟩
  ·simp only[yb,aT,h1,QW,QU,hdiv,cZ,cond_true];rfl
  ·have:=o.snoc (h':=H.push (.row (y::ys) true 0)) (g':=H.n) (eQ:=[]) hc d hD hv (fun g n k e=>by cases e) (fun _=>rfl) hH (QP eF hH) (Q4 _) (zX _ _) (fun k _ hk _=>by rw[zS,QC (by omega)];exact dw k hk);exact this
  ·rw[zS,QC (by omega)]
  ·have hk:H.n+1<=k:=hk;rw[zS,QC (by omega)];exact w k (by omega)
 ·have cZ:Nat.ble (xs.length+1) room=true:=QH (by omega);have hq:H.get g=some (.row cells true 0):=(dw g g2).trans g4;have h2:cut cells 0 (xs.length*c)=some cells:=by rw[ZD (by omega)];simp[<-g5]
  have h3:Nat.ble 0 (0+xs.length*c)=true:=QH (QK _);have fZ:Nat.beq c 0=false:=by cases hz:Nat.beq c 0 with
   |false=>rfl
   |true=>have:=QO hz;omega
  have xw:(H.kill g).n=H.n:=rfl;refine⟨.slice (some ⟨H.n,0,none⟩) (xs.length+1) c,(H.kill g).push (.row (cells++y::ys) true (0-0)),?_,?_,rfl,fun k hk mc=> ?_,rfl,fun k hk=> ?_,fun hm=> ?_,fun w k hk=> ?_,⟨_,_,_,rfl,QE _⟩⟩
  ·simp only[yb,aT,h1,QW,QU,hdiv,cZ,fZ,GR,hq,h2,h3,cond_true,Qp,Qv]
  ·have:=o.snoc (h':=(H.kill g).push (.row (cells++y::ys) true (0-0))) (g':=H.n) (eQ:=cells) hc d hD hv (fun g n k e=>by cases e;exact g4) (fun e=>by cases e) hH (QP eF hH) (Q4 _) (zX (H.kill g) _) (fun k _ hk mc=>by
    rw[zS,QC (by rw[xw];omega),yt,QC (fun e=>mc _ _ (by rw[e]))];exact dw k hk)
   rw[QM,QV]at this;exact this
  ·rw[zS,QC (by rw[xw];omega),yt,QC (fun e=>mc _ _ (by rw[e]))]
  ·have aS:k∈H.log g:=hk;rcases yc aS with rfl|h
   ·exact .inr g1
   ·exact .inl h
  ·show H.log g=H.wr;exact zAO (by omega)
  ·have hk:H.n+1<=k:=hk;rw[zS,QC (by rw[xw];omega),yt];split
   ·rfl
   ·exact w k (by omega)
theorem V7{α:Type}{c b d1 d2:Nat}{R:WA->List Value->α->Prop}{hB:WA}{v w:Value}{xs:List α}{cs zero:List Value}(a:α)(Dn:Nat->Prop){x y:Operand}(o:OwnR c R b h v xs)(e0:Ext hB h)(hb:hB.n<=b)(eF:b<=h.n)(aW:0<c)(hl:xs.length<=100000)
  (d:Ba R h cs a Dn) (hD:∀ k,Dn k->b<=k/\k<h.n) (hv:∀ g n k,v=.slice (some ⟨g,0,none⟩) n k->¬Dn g)
  (k:∀ v' h' lit,Ext hB h'->OwnR c R b h' v' (xs++[a])->h.n<=h'.n->(∀ k,k<h.n->(∀ n k',v≠ .slice (some ⟨k,0,none⟩) n k')->h'.get k=h.get k)->WO P tab l ⟨(t.set d1 lit).set d2 v',ds,rd⟩ h' Q)
  (hx:WM t x w:=by exact zi) (hw:w.cells=cs.toArray:=by rfl) (hc:cs.length=c:=by rfl) (h1:zL cs=true:=by rfl) (hz:zero.length=c:=by rfl) (hy:∀ u,WM (t.set d1 u) y v:=by intro u;exact zi):
  WO P tab (⟨some d1,none,.buildSlice 1 c zero [(0,c,x)]⟩::⟨some d2,none,.append c y (.tmp d1)⟩::l) ⟨t,ds,rd⟩ h Q:=by
 have hx:ev t x=w:=hx;refine WO.op (.slice (some ⟨h.n,0,none⟩) 1 c) (h.push (.row cs true 0)) rfl (by
  simp only[WN,zu,Qm,GP,hx,Zz hw hc hz,QJ];rfl) ?_
 obtain⟨v',H',q1,q2,q3,q4,q5,q6,q7,q8,q9⟩:=Z0 (H:=h.push (.row cs true 0)) (gl:=h.n) o hc aW h1 hl eF d hD hv (Qr _) (Q4 _) (fun k hk=>by rw[zS,QC (by omega)]) (zX _ _);have iT:ev (t.set d1 (.slice (some ⟨h.n,0,none⟩) 1 c)) y=v:=hy _;have e1:ev (t.set d1 (.slice (some ⟨h.n,0,none⟩) 1 c)) (.tmp d1)=.slice (some ⟨h.n,0,none⟩) 1 c:=by simp only[ev,zb,Q6]
 refine WO.op v' H' rfl (by simp only[WN,iT,e1,q1]) (k v' H' _ ?_ q2 (by rw[q3];show h.n<=h.n+1+1;omega) (fun k hk mc=> ?_))
 ·have sV:∀ k,k<hB.n->∀ n k',v≠ .slice (some ⟨k,0,none⟩) n k':=fun k hk n k' e=>by
   rcases o with⟨e2,_⟩|⟨g,_,_,g1,_,e2,_⟩
   ·rw[e2]at e;cases e
   ·rw[e2]at e;cases e;omega
  refine⟨by rw[q3];show hB.n<=h.n+1+1;have:=e0.n;omega,fun k hk=> ?_,fun w=>q8 ?_,q5.trans e0.mark,fun hm=> ?_⟩
  ·have:=e0.n;rw[q4 k (by show k<h.n+1;omega) (sV k hk),zS,QC (by omega)];exact e0.get k hk
  ·intro k hk;have hk:h.n+1<=k:=hk;rw[zS,QC (by omega)];exact e0.wf w k (by omega)
  ·rw[q7 (by show h.mark<=b;rw[e0.mark];omega)];exact e0.wr hm
 ·rw[q4 k (by show k<h.n+1;omega) mc,zS,QC (by omega)]
theorem UP{α:Type}{c b d1 d2 d3 s j m N0:Nat}{cl:Bool}{R:WA->List Value->α->Prop}{hB hS X:WA}{p v w:Value}{xs:List α}{cs zero cells:List Value}(a:α)(Dn:Nat->Prop){x y:Operand}{K:WP->WR->WA->Prop}
  (eX:Ext (inC (zB 1 hS)) X) (o:OwnR c R b hS v xs) (e0:Ext hB hS) (hm:hS.mark<=hB.n) (hb:hB.n<=b) (eF:b<=hS.n) (aW:0<c) (hl:xs.length<=100000) (op:WB hB hS p cells) (sW:∀ g,p=.pointer (some ⟨g,0,none⟩)->g<b)
  (d:Ba R X cs a Dn) (hD:∀ k,Dn k->b<=k/\k<X.n) (hv:∀ g n k,v=.slice (some ⟨g,0,none⟩) n k->¬Dn g) (xx:¬Dn hS.n) (hj:j<cells.length) (a7:zL cells=true)
  (k:∀ H v' t',zCB [d1,d2,d3] t t'->Ext hB H->WB hB H p (cells.set j v')->zL (cells.set j v')=true->OwnR c R b H v' (xs++[a])->(∀ k,k<hS.n->p≠ .pointer (some ⟨k,0,none⟩)->(∀ n k',v≠ .slice (some ⟨k,0,none⟩) n k')->H.get k=hS.get k)->hS.n<=H.n->K .normal ⟨t',ds,rd⟩ H)
  (hx:WM t x w:=by exact zi) (hw:w.cells=cs.toArray:=by rfl) (hc:cs.length=c:=by rfl) (h1:zL cs=true:=by rfl) (hz:zero.length=c:=by rfl) (hy:∀ u,WM (t.set d1 u) y v:=by intro u;exact zi) (hs:∀ u u',WM ((t.set d1 u).set d2 u') (.tmp s) p:=by intro u u';exact zi) (gR:Nat.beq d2 d3=false:=by rfl) (eo:m=hS.mark:=by rfl):
  Wb P tab m N0 [(⟨some d1,none,.buildSlice 1 c zero [(0,c,x)]⟩,[]),(⟨some d2,none,.append c y (.tmp d1)⟩,[]),(⟨some d3,none,.fld j (.tmp s)⟩,[]),(⟨none,none,.store 1 (.tmp d3) (.tmp d2)⟩,[])] hS.n cl ⟨t,ds,rd⟩ (inC X) (Bt K hS):=by
 subst eo;have hx:ev t x=w:=hx;have nP:hS.n+1<=X.n:=eX.n;obtain⟨gp,pw,sT,hp,qR⟩:=op;have EN:=sW gp hp;rw[Wb,QF (show Nat.beq (zI (Wx.buildSlice 1 c zero [(0,c,x)])) 3=true from rfl)];refine⟨rfl,.inl ⟨rfl,by have:=e0.n;omega,.row cs true 0,_,by simp only[yi,zu,Qm,GP,hx,Zz hw hc hz,QJ];rfl,?_⟩⟩;generalize fU:(inC (inC X)).lay hS.n (.row cs true 0)=H1;have n1:H1.n=X.n:=by rw[<-fU];rfl
 have aH:∀ c',H1.get c'=if c'=hS.n then some (.row cs true 0)else X.get c':=fun c'=>by rw[<-fU];exact zT _ _ _ _
 have cM:∀ k,k<hS.n->X.get k=hS.get k:=fun k hk=>eX.get k (by show k<hS.n+1;omega);have oX:OwnR c R b X v xs:=o.upd (fun k _ hk=>cM k hk) (by omega);have jU:OwnR c R b (inC H1) v xs:=by
  rcases o with o|⟨g,cm,D,g1,g2,g3,g4,g5,g6,g7,g8⟩
  ·exact .inl o
  ·refine .inr ⟨g,cm,D,g1,by show g<H1.n;omega,g3,?_,g5,g6,fun k hd=>⟨(g7 k hd).1,by have:=(g7 k hd).2;show k<H1.n;omega⟩,fun i a ha=>(g8 i a ha).mono (fun _ h=>h) (fun k o hd e=> ?_) (by show hS.n<=H1.n;omega)⟩
   ·show H1.get g=_;rw[aH,QC (by omega),cM g g2];exact g4
   ·have:=(g7 k hd).2;show H1.get k=_;rw[aH,QC (by omega),cM k this];exact e
 have pA:Ba R (inC H1) cs a Dn:=d.mono (fun _ h=>h) (fun k o hd e=>by
  show H1.get k=_;rw[aH,QC (fun e2:k=hS.n=>by subst e2;exact xx hd)];exact e) (by show X.n<=H1.n;omega)
 obtain⟨v',H2,q1,q2,q3,q4,q5,q6,q7,q8,n',k',g',q9,me⟩:=Z0 (H:=inC H1) (gl:=hS.n) jU hc aW h1 hl (by show b<=H1.n;omega) pA (fun k hd=>⟨(hD k hd).1,by have:=(hD k hd).2;show k<H1.n;omega⟩) hv (QE _) (by show hS.n<H1.n;omega) (fun _ _=>rfl) (by show H1.get hS.n=_;rw[aH,QF rfl]);rw[Wb,QC (show ¬Nat.beq (zI (Wx.append c y (.tmp d1))) 3=true from Bool.noConfusion)];have iT:ev (t.set d1 (.slice (some ⟨hS.n,0,none⟩) 1 c)) y=v:=hy _;have e1:ev (t.set d1 (.slice (some ⟨hS.n,0,none⟩) 1 c)) (.tmp d1)=.slice (some ⟨hS.n,0,none⟩) 1 c:=by simp only[ev,zb,Q6]
 refine WO.op v' H2 rfl (by simp only[WN,iT,e1,q1]) ?_;refine WO.nil ⟨⟨fun c' bM=> ?_,by show H1.n<=H2.n;rw[q3];exact Qr _,.inl rfl⟩,?_⟩
 ·rcases q6 c' bM with h|h
  ·cases h
  ·omega
 have EO:∀ n k,v≠ .slice (some ⟨gp,0,none⟩) n k:=fun n k e=>by
  rcases o with⟨e2,_⟩|⟨g,_,_,g1,_,e2,_⟩
  ·rw[e2]at e;cases e
  ·rw[e2]at e;cases e;omega
 have ee:H2.get gp=some (.row cells true 0):=by
  rw[q4 gp (by show gp<H1.n;omega) EO];show H1.get gp=_;rw[aH,QC (by omega),cM gp sT];exact qR
 rw[Wb,QC (show ¬Nat.beq (zI (Wx.fld j (.tmp s))) 3=true from Bool.noConfusion)];have eW:ev ((t.set d1 (.slice (some ⟨hS.n,0,none⟩) 1 c)).set d2 v') (.tmp s)=p:=hs _ _;refine WO.op (.pointer (some ⟨gp,j,none⟩)) (inC H2) rfl (by simp only[WN,eW,hp,GH,Qp,cond_true]) ?_;refine WO.nil ⟨⟨fun c' bM=>(by cases bM),QE _,.inl rfl⟩,?_⟩;rw[Wb,QC (show ¬Nat.beq (zI (Wx.store 1 (.tmp d3) (.tmp d2))) 3=true from Bool.noConfusion)];have mf:zL [v']=true:=by rw[q9];rfl
 have gi:v'.cells=#[v']:=by rw[q9];rfl
 have aX:zr (inC (inC H2)) ⟨gp,j,none⟩ [v']=some ((inC (inC H2)).set gp (.row (cells.set j v') true 0)):=by
  have jS:(inC (inC H2)).get gp=some (.row cells true 0):=ee;have h1:Nat.ble (j+1) cells.length=true:=QH hj;have h0:Nat.ble 0 j=true:=QH (QK _);simp only[zr,jS,QV,h1,h0,mf,Qv,zBq hj];rfl
 have mb:¬d2=d3:=fun e=>by subst e;simp at gR
 refine VP undef ((inC (inC H2)).set gp (.row (cells.set j v') true 0)) rfl (by
  have a1:∀ tt:WG Value,ev (tt.set d3 (.pointer (some ⟨gp,j,none⟩))) (.tmp d3)=.pointer (some ⟨gp,j,none⟩):=fun tt=>by
   simp only[ev,zb,Q6]
  have a2:∀ w,ev (((t.set d1 (.slice (some ⟨hS.n,0,none⟩) 1 c)).set d2 w).set d3 (.pointer (some ⟨gp,j,none⟩))) (.tmp d2)=w:=fun w=>by
   simp only[ev,zb,QC mb,Q6]
  simp only[val,WN,a1,a2,gi,Gc,QV,GR,aX,QJ,cond_true]) ?_
 refine WO.nil ⟨⟨fun c' bM=> ?_,QE _,.inl rfl⟩,?_⟩
 ·have eC:c'∈(inC (inC H2)).log gp:=bM;rcases yc eC with rfl|h
  ·omega
  ·cases h
 generalize hH:outC hS ((inC (inC H2)).set gp (.row (cells.set j v') true 0))=H;have nH:H.n=X.n+1:=by rw[<-hH];show H2.n=_;rw[q3];show H1.n+1=_;omega
 have dy:∀ c',H.get c'=if c'=gp then some (.row (cells.set j v') true 0)else H2.get c':=fun c'=>by rw[<-hH];exact zT _ _ _ _
 have dA:∀ c',c'<hS.n->c'≠gp->(∀ n k,v≠ .slice (some ⟨c',0,none⟩) n k)->H.get c'=hS.get c':=fun c' h1 h2 h3=>by
  rw[dy,QC h2,q4 c' (by show c'<H1.n;omega) h3];show H1.get c'=_;rw[aH,QC (by omega),cM c' h1]
 have xy:∀ k,k<hB.n->∀ n k',v≠ .slice (some ⟨k,0,none⟩) n k':=fun k hk n k' e=>by
  rcases o with⟨e2,_⟩|⟨g,_,_,g1,_,e2,_⟩
  ·rw[e2]at e;cases e
  ·rw[e2]at e;cases e;omega
 have tc:zL (cells.set j v')=true:=by
  unfold zL at *;rw[QX]at *;intro z hz;rcases List.mem_or_eq_of_mem_set hz with h|h
  ·exact a7 z h
  ·subst h;rw[q9]
 show K .normal _ _;rw[hH];refine k H v' _ (fun i hi=> ?_) ?_ ⟨gp,pw,by rw[nH];omega,hp,by rw[dy,QF rfl]⟩ tc (q2.upd (fun k dj aS=>by rw[dy,QC (by omega)]) (by rw[nH,q3];show H1.n+1<=_;omega)) (fun c' h1 h2 h3=>dA c' h1 (fun e=>h2 (by rw[hp,e])) h3) (by rw[nH];omega)
 ·have hc:=ZJ hi;rw[List.contains_eq_mem,Gk]at hc;have b1:¬i=d1:=fun e=>hc (by simp[e]);have b2:¬i=d2:=fun e=>hc (by simp[e]);have b3:¬i=d3:=fun e=>hc (by simp[e]);simp only[val,zb,QC b1,QC b2,QC b3]
 ·have kz:=e0.n;refine⟨by rw[nH];omega,fun k hk=>(dA k (by omega) (by omega) (xy k hk)).trans (e0.get k hk),fun w k hk=> ?_,?_,fun cT=> ?_⟩
  ·rw[nH]at hk;rw[dy,QC (by omega)];refine q8 (fun k2 aS=> ?_) k (by rw[q3];show H1.n+1<=k;omega);have aS:H1.n<=k2:=aS;show H1.get k2=_;rw[aH,QC (by omega)];exact eX.wf (fun k3 cg=>e0.wf w k3 (by have:hS.n+1<=k3:=cg;omega)) k2 (by omega)
  ·rw[<-hH];exact e0.mark
  ·rw[<-hH];exact e0.wr cT
end
section
variable {P:Program}{tab:Wy}{m:Nat}{aP:Nat->Prop}{l:List (WF×List Nat)}{o:WF}{un:List Nat}{g:Nat}{fr:WR}{h h0 h':WA}{Q:WR->WA->Prop}{K:WP->WR->WA->Prop}{t:WG Value}{ds:List Deferred}{rd:Option Nat}
theorem zMl{d:Option Nat}{agg:Bool}{n j:Nat}{x:Operand}{v:Value}(hv:∃ a n k,v=.slice (some a) n k/\¬aP a.block)(hx:BR P tab m aP l g fr (inC h) Q)(hr:WM t x (yB v j):=by exact zi):uK6 P tab m aP [] t ⟨d,none,.load agg n x⟩ l g Q fr (inC h):=by
 obtain⟨a,n',k',rfl,hb⟩:=hv;exact zKB (a:=a) (k:=j) hr hb hx
theorem zJO{N0 j n:Nat}{d:Option Nat}{agg:Bool}{x:Operand}{v:Value}{un:List Nat}(hv:∃ a n k,v=.slice (some a) n k/\a.block<N0)(hx:Wb P tab m N0 l g true fr (inC h) Q)(hr:WM t x (yB v j):=by exact zi):
  uK2 P tab m N0 un t ⟨d,none,.load agg n x⟩ (inC h) l g true Q fr (inC h):=by
 obtain⟨a,n',k',rfl,hb⟩:=hv;refine zDw (fun k hk=> ?_) hx;unfold WM yB at hr;simp only[zl,zV,cond_true,hr,QA]at hk;omega
theorem YI{α:Type}{c i:Nat}{R:WA->List Value->α->Prop}{v:Value}{xs:List α}(s:BE c R h v xs)(hi:i<xs.length):∃ a n k,v=.slice (some a) n k/\a.block<h.n:=by
 obtain⟨cells,⟨h1,⟨h2,_⟩|⟨g,off,row,rfl,_,_,hg⟩⟩,_⟩:=s
 ·omega
 ·exact⟨_,_,_,rfl,hg⟩
theorem zBr{c i n:Nat}{h:WA}{v:Value}{cells:List Value}(a:Wi c h v n cells)(hi:i<n):Wp h v (i*c) ((cells.drop (i*c)).take c):=by
 have hlen:cells.length=n*c:=a.1;have hle:i*c+c<=cells.length:=by
  rw[hlen,<-G8];exact GK _ hi
 intro P ih t x agg k off r hx hn hr;cases hc:cut ((cells.drop (i*c)).take c) off k with
 |none=>rw[hc]at hr;cases hr
 |some m=>
  rw[hc]at hr;have h1:cut cells (i*c) c=Option.some ((cells.drop (i*c)).take c):=ZD hle;exact zEt a hx (zEm h1 hc) hn hr
theorem zP{α:Type}[Inhabited α]{c:Nat}{R:WA->List Value->α->Prop}{h:WA}{v:Value}{T:List α}{i:Nat}(s:BE c R h v T)(hi:i<T.length):∃ cs,R h cs (T.getD i default)/\(∀ h',Ext h h'->Wp h' v (i*c) cs/\Wp (inC h') v (i*c) cs)/\zIq v:=by
 have hs:=s.some hi;obtain⟨cells,a,b⟩:=s;refine⟨_,by simpa [List.getD,QB hi]using b i T[i] (QB hi),fun h' e=> ?_,hs⟩;have a':=a.ext e;exact⟨zBr a' hi,zBr (h:=inC h') a' hi⟩
theorem UH{d1 d2 n:Nat}{z1 z2 gj iy:List Value}{y1 y2:Operand}{v1 v2:Value}{u1 u2:List Nat}{hS:WA}(hm:hS.mark<=hS.n)
  (k:∀ H p1 p2,Ext hS H->WB hS H p1 gj->WB hS H p2 iy->K .normal ⟨(t.set d1 p1).set d2 p2,ds,rd⟩ H)
  (NC:∀ a b,WM ((t.set d1 a).set d2 b) y1 v1:=by intro a b;exact zi) (CU:∀ a b,WM ((t.set d1 a).set d2 b) y2 v2:=by intro a b;exact zi) (vI:v1.cells=gj.toArray:=by rfl) (lE:v2.cells=iy.toArray:=by rfl)
  (ND:z1.length=n:=by rfl) (qF:z2.length=n:=by rfl) (nB:gj.length=n:=by rfl) (eC:iy.length=n:=by rfl) (h1:zL gj=true:=by rfl) (h2:zL iy=true:=by rfl) (dB:Nat.beq d1 d2=false:=by rfl) (eo:m=hS.mark:=by rfl):
  BR P tab m (fun g=>g=hS.n\/g=hS.n+1) [(⟨some d1,none,.alloc z1⟩,[]),(⟨some d2,none,.alloc z2⟩,[]),(⟨none,none,.store n (.tmp d1) y1⟩,u1),(⟨none,none,.store n (.tmp d2) y2⟩,u2)] hS.n ⟨t,ds,rd⟩ (inC (zB 2 hS)) (Bt K hS):=by
 subst eo;have EP:¬d1=d2:=fun e=>by subst e;simp at dB
 rw[BR,QF (show Nat.beq (zI (Wx.alloc z1)) 3=true from rfl)];refine⟨rfl,rfl,hm,rfl,.row z1 true 0,fun g=> .pointer (some ⟨g,0,none⟩),rfl,?_⟩;rw[BR,QF (show Nat.beq (zI (Wx.alloc z2)) 3=true from rfl)];refine⟨rfl,rfl,by show hS.mark<=hS.n+1;omega,rfl,.row z2 true 0,fun g=> .pointer (some ⟨g,0,none⟩),rfl,?_⟩;generalize Kg:(inC ((inC (inC (zB 2 hS))).lay hS.n (.row z1 true 0))).lay (hS.n+1) (.row z2 true 0)=H2;have n2:H2.n=hS.n+2:=by rw[<-Kg];rfl
 have bG:∀ c,H2.get c=if c=hS.n+1 then some (.row z2 true 0)else if c=hS.n then some (.row z1 true 0)else hS.get c:=fun c=>by
  rw[<-Kg];refine(zT _ _ _ _).trans ?_;split
  ·rfl
  ·exact zT _ _ _ _
 have store:∀ (X:WA) (g:Nat) (z cs:List Value),X.get g=some (.row z true 0)->z.length=n->cs.length=n->zL cs=true->zr (inC X) ⟨g,0,none⟩ cs=some ((inC X).set g (.row cs true 0)):=fun X g z cs hg hz hc h1=>by
  have jS:(inC X).get g=some (.row z true 0):=hg;have h2:Nat.ble (0+cs.length) z.length=true:=QH (by omega);have h3:Nat.ble 0 0=true:=rfl;have h4:zh z 0 cs=cs:=by simp[zh,hz,hc]
  simp only[zr,jS,h2,h3,h1,h4,Qp,Qv,cond_true]
 have e1:∀ a b,ev ((t.set d1 a).set d2 b) (.tmp d1)=a:=fun a b=>by simp only[ev,zb,QC EP,Q6]
 have e2:∀ a b,ev ((t.set d1 a).set d2 b) (.tmp d2)=b:=fun a b=>by simp only[ev,zb,Q6]
 have NF:∀ a b,ev ((t.set d1 a).set d2 b) y1=v1:=NC;have NG:∀ a b,ev ((t.set d1 a).set d2 b) y2=v2:=CU;rw[BR,QC (show ¬Nat.beq (zI (Wx.store n (.tmp d1) y1)) 3=true from Bool.noConfusion)];refine VP undef ((inC H2).set hS.n (.row gj true 0)) rfl (by
  simp only[val,WN,e1,NF,vI,Gc,nB,GR,store H2 hS.n z1 gj (by rw[bG,QC (by omega),QF rfl]) ND nB h1,QJ,cond_true]) ?_
 refine WO.nil ⟨fun c hc=> ?_,.inr ⟨rfl,fun c hc=> ?_⟩,fun c hc=>(by cases hc),?_⟩
 ·have hc:c∈(inC H2).log hS.n:=hc;rcases yc hc with rfl|h
  ·exact hm
  ·cases h
 ·have hc:c∈(inC H2).log hS.n:=hc;rcases yc hc with rfl|h
  ·exact .inl rfl
  ·cases h
 generalize Kh:(inC H2).set hS.n (.row gj true 0)=H3;have n3:H3.n=hS.n+2:=by rw[<-Kh];exact n2
 have xz:∀ c,H3.get c=if c=hS.n then some (.row gj true 0)else H2.get c:=fun c=>by rw[<-Kh];exact zg _ _ _ _
 rw[BR,QC (show ¬Nat.beq (zI (Wx.store n (.tmp d2) y2)) 3=true from Bool.noConfusion)];refine VP undef ((inC H3).set (hS.n+1) (.row iy true 0)) rfl (by
  simp only[val,WN,e2,NG,lE,Gc,eC,GR,store H3 (hS.n+1) z2 iy (by rw[xz,QC (by omega),bG,QF rfl]) qF eC h2,QJ,cond_true]) ?_
 refine WO.nil ⟨fun c hc=> ?_,.inr ⟨rfl,fun c hc=> ?_⟩,fun c hc=>(by cases hc),?_⟩
 ·have hc:c∈(inC H3).log (hS.n+1):=hc;rcases yc hc with rfl|h
  ·omega
  ·cases h
 ·have hc:c∈(inC H3).log (hS.n+1):=hc;rcases yc hc with rfl|h
  ·exact .inr rfl
  ·cases h
 generalize xA:outC hS ((inC H3).set (hS.n+1) (.row iy true 0))=H4;have n4:H4.n=hS.n+2:=by rw[<-xA];exact n3
 have pB:∀ c,H4.get c=if c=hS.n+1 then some (.row iy true 0)else if c=hS.n then some (.row gj true 0)else hS.get c:=fun c=>by
  rw[<-xA];refine(zg (inC H3) _ _ _).trans ?_;split
  ·rfl
  ·rename_i aq;refine(xz c).trans ?_;split
   ·rfl
   ·rename_i ER;rw[bG,QC aq,QC ER]
 show K .normal _ _;rw[xA];refine k H4 (.pointer (some ⟨hS.n,0,none⟩)) (.pointer (some ⟨hS.n+1,0,none⟩)) ⟨by omega,fun c hc=>by rw[pB,QC (by omega),QC (by omega)],fun w c hc=> ?_,?_,fun cT=> ?_⟩ ⟨hS.n,QE _,by omega,rfl,by rw[pB,QC (by omega),QF rfl]⟩ ⟨hS.n+1,by omega,by omega,rfl,by rw[pB,QF rfl]⟩
 ·rw[pB,QC (by omega),QC (by omega)];exact w c (by omega)
 ·rw[<-xA];rfl
 ·rw[<-xA];rfl
def RBo(_:WA)(cs:List Value)(b:Bool):Prop:=cs=[.bool b]
abbrev zOk(h:WA)(v:Value)(l:List Bool):Prop:=BE 1 RBo h v l
def BD(h0 h:WA)(v:Value)(l:List Bool):Prop:=∃ g,h0.n<=g/\g<h.n/\v=.slice (some ⟨g,0,none⟩) l.length 1/\h.get g=some (.row (l.map .bool) true 0)
theorem BD.ext{h0 h h' v l}(o:BD h0 h v l)(e:Ext h h'):BD h0 h' v l:=by
 obtain⟨g,a,b,c,d⟩:=o;exact⟨g,a,QI b e.n,c,(e.get g b).trans d⟩
theorem BD.sl{h0 h v l}(o:BD h0 h v l):zOk h v l:=by
 obtain⟨g,a,b,rfl,d⟩:=o;refine⟨l.map .bool,Wi.own (own:=true) (lo:=0) b d (by simp),fun i x hx=> ?_⟩;obtain⟨hi,e⟩:=QR.1 hx;show((l.map Value.bool).drop (i*1)).take 1=_;rw[G4,GU (by simpa using hi)];simp[e]
theorem zJX(n:Nat):zo [.bool false] n=(List.replicate n false).map Value.bool:=by
 induction n with
 |zero=>rfl
 |succ n ih=>rw[zo,ih];rfl
theorem UQ{d n:Nat}{x y:Operand}{l:List WF}(hr:n<=100000)(k:∀ v h',Ext h h'->BD h h' v (List.replicate n false)->WO P tab l ⟨t.set d v,ds,rd⟩ h' Q)
  (hx:WM t x (I (n:Int)):=by exact zi) (hy:WM t y (I (n:Int)):=by exact zi):WO P tab (⟨some d,none,.mkSlice 1 [.bool false] x y⟩::l) ⟨t,ds,rd⟩ h Q:=by
 have h1:Nat.ble n room=true:=QH (by have:room=4294967296:=rfl;omega);have h2:Nat.ble n n=true:=QH (QE _);have hx:ev t x=I (n:Int):=hx;have hy:ev t y=I (n:Int):=hy;have hn:BO (I (n:Int))=some n:=rfl;refine WO.op _ _ rfl (by simp only[WN,hx,hy,hn,h1,h2,Qv,cond_true];rfl) (k _ _ (Z1 _ _) ⟨h.n,QE _,by simp[WA.push],by simp,?_⟩);rw[zX,zJX]
theorem Vw{N0 g:Nat}{cl:Bool}{x y:Operand}{v:Value}{bs:List Bool}{b:Bool}{i j:Nat}{hB hS X:WA}{m:Nat}(o:BD hB X v bs)(e0:Ext hB hS)(hm:hS.mark<=hB.n)(hX:outC hS X=hS)(hi:i<bs.length)
  (k:∀ h',Ext hB h'->BD hB h' v (bs.set i b)->(∀ k,k<hS.n->(∀ n k',v≠ .slice (some ⟨k,0,none⟩) n k')->h'.get k=hS.get k)->hS.n<=h'.n->K .normal ⟨t,ds,rd⟩ h')
  (hx:WM t x (yB v j):=by exact zi) (hy:WM t y (.bool b):=by exact zi) (hj:j=i*1:=by rfl) (eo:m=hS.mark:=by rfl):Wb P tab m N0 [(⟨none,none,.store 1 x y⟩,[])] g cl ⟨t,ds,rd⟩ (inC X) (Bt K hS):=by
 subst eo hj;rw[G4]at hx;obtain⟨q,q1,q2,rfl,q3⟩:=o;have hx:ev t x=.pointer (some ⟨q,0+i,none⟩):=hx;have hy:ev t y=.bool b:=hy;have gX:∀ c,X.get c=hS.get c:=fun c=>by have:=congrArg (fun h:WA=>h.get c) hX;exact this
 have nX:X.n=hS.n:=by have:=congrArg WA.n hX;exact this
 rw[Wb,QC (show ¬Nat.beq (zI (Wx.store 1 x y)) 3=true from Bool.noConfusion)];have aX:zr (inC (inC X)) ⟨q,0+i,none⟩ [.bool b]=some ((inC (inC X)).set q (.row ((bs.set i b).map .bool) true 0)):=by
  have sQ:(inC (inC X)).get q=some (.row (bs.map .bool) true 0):=q3;have h2:Nat.ble (0+i+1) (bs.map Value.bool).length=true:=QH (by simp;omega);have h3:Nat.ble 0 (0+i)=true:=QH (QK _);have h4:zh (bs.map Value.bool) (0+i) [.bool b]=(bs.set i b).map .bool:=by
   rw[GH,zBq (by simpa using hi),List.map_set]
  have h5:zL [Value.bool b]=true:=rfl;simp only[zr,sQ,QV,h2,h3,h4,h5,Qp,Qv,cond_true]
 have hc:(Value.bool b).cells=#[.bool b]:=rfl;refine VP undef ((inC (inC X)).set q (.row ((bs.set i b).map .bool) true 0)) rfl (by
  simp only[WN,hx,hy,hc,Gc,QV,GR,aX,QJ,cond_true]) ?_
 refine WO.nil ⟨⟨fun k hk=> ?_,QE _,.inl rfl⟩,?_⟩
 ·have aS:k∈(inC (inC X)).log q:=hk;rcases yc aS with rfl|cg
  ·omega
  ·cases cg
 have bG:∀ k,(outC hS ((inC (inC X)).set q (.row ((bs.set i b).map .bool) true 0))).get k=if k=q then some (.row ((bs.set i b).map .bool) true 0)else hS.get k:=fun k=>by
  have e1:((inC (inC X)).set q (.row ((bs.set i b).map .bool) true 0)).get k=if k=q then some (.row ((bs.set i b).map .bool) true 0)else(inC (inC X)).get k:=zg ..;refine e1.trans ?_;split
  ·rfl
  ·exact gX k
 refine k (outC hS ((inC (inC X)).set q (.row ((bs.set i b).map .bool) true 0))) ?_ ⟨q,q1,q2,by simp,by rw[bG,QF rfl]⟩ (fun c hc hv=>by rw[bG,QC (fun e=>hv _ _ (by rw[e]))]) (by show hS.n<=X.n;omega);refine⟨by show hB.n<=X.n;rw[nX];exact e0.n,fun c hc=>by rw[bG,QC (by omega)];exact e0.get c hc,fun w c hc=> ?_,e0.mark,fun cT=>e0.wr cT⟩;have hc:X.n<=c:=hc;rw[bG,QC (by omega)];exact e0.wf w c (by omega)
end
section
variable {P:Program}{tab:Wy}{t:WG Value}{h:WA}{ds:List Deferred}{rd:Option Nat}{l:List WF}{Q:WR->WA->Prop}
theorem XX{x y:Operand}{p v:Value}{cells cs:List Value}{n:Nat}{h0:WA}(o:WB h0 h p cells)(e0:Ext h0 h)(k:∀ h',Ext h0 h'->WB h0 h' p cs->Wm p h h'->(∀ k∈h'.wr,k∈h.wr\/h0.n<=k)->WO P tab l ⟨t,ds,rd⟩ h' Q)
  (hx:WM t x p:=by exact zi) (hy:WM t y v:=by exact zi) (hv:v.cells=cs.toArray:=by rfl) (hn:cs.length=n:=by rfl) (hl:cells.length=n:=by rfl) (h1:zL cs=true:=by rfl):WO P tab (⟨none,none,.store n x y⟩::l) ⟨t,ds,rd⟩ h Q:=by
 obtain⟨g,g1,g2,rfl,g3⟩:=o;have hx:ev t x=.pointer (some ⟨g,0,none⟩):=hx;have hy:ev t y=v:=hy;have e:zh cells 0 cs=cs:=by simp[zh,hn,hl]
 have aX:zr h ⟨g,0,none⟩ cs=some (h.set g (.row cs true 0)):=by
  have h2:Nat.ble (0+cs.length) cells.length=true:=QH (by omega);have h0:Nat.ble 0 0=true:=rfl;simp only[zr,g3,h2,h0,h1,Qv,e];rfl
 have qD:Nat.beq cs.length n=true:=by rw[hn];exact GR _
 refine VP undef (h.set g (.row cs true 0)) rfl ?_ (k _ (e0.set g1 g2 _) ⟨g,g1,g2,rfl,by rw[zg,QF rfl]⟩ ⟨QE _,fun k _ hk=> ?_⟩ fun k hk=> ?_)
 ·simp only[WN,hx,hy,hv,Gc,qD,aX,QJ,cond_true]
 ·rw[zg,QC (fun e=>hk (by rw[e]))]
 ·have hk:k∈h.log g:=hk;rcases yc hk with rfl|h
  ·exact .inr g1
  ·exact .inl h
end
section
variable {P:Program}{tab:Wy}{m N0:Nat}{l:List (WF×List Nat)}{o:WF}{g:Nat}{cl:Bool}{fr:WR}{h h0 h':WA}{Q:WR->WA->Prop}{K:WP->WR->WA->Prop}{x:WF×List Nat}{t:WG Value}
theorem zRE(hw:∀ k∈h'.wr,m<=k)(hn:h.n<=h'.n)(hx:K .normal fr (outC h0 h')):uK2 P tab m N0 [] t o (inC h) [] g cl (Bt K h0) fr h':=⟨⟨hw,hn,.inl rfl⟩,hx⟩
theorem zMy(hw:∀ k∈h'.wr,m<=k)(hn:h.n<=h'.n)(hx:∀ cm,Wb P tab m N0 (x::l) g cm fr (inC h') Q):uK2 P tab m N0 [] t o (inC h) (x::l) g cl Q fr h':=⟨⟨hw,hn,.inl rfl⟩,by
 have:=hx (cl&&h'.wr.isEmpty);obtain⟨y,un⟩:=x;unfold Wb at this |-;exact this⟩
theorem zEP{j n:Nat}{d:Option Nat}{gd:Option (Nat×Bool)}{agg:Bool}{x:Operand}{v:Value}{un:List Nat}(hv:∃ a n k,v=.slice (some a) n k/\a.block<N0)(hx:Wb P tab m N0 l g true fr (inC h) Q)(hr:WM t x (yB v j):=by exact zi):
  uK2 P tab m N0 un t ⟨d,gd,.load agg n x⟩ (inC h) l g true Q fr (inC h):=by
 obtain⟨a,n',k',rfl,hb⟩:=hv;refine zDw (fun k hk=> ?_) hx;unfold WM yB at hr;cases hw:zV t gd with
 |false=>simp only[zl,hw,QU]at hk;cases hk
 |true=>
  simp only[zl,hw,cond_true,hr,QA]at hk;omega
theorem zQV{j n:Nat}{b:Bool}{d:Option Nat}{agg:Bool}{x:Operand}{un:List Nat}(hx:Wb P tab m N0 l g true fr (inC h) Q)(s:Wt t j (.bool b):=by exact Yq)(hb:b=true:=by exact zFh):
  uK2 P tab m N0 un t ⟨d,some (j,false),.load agg n x⟩ (inC h) l g true Q fr (inC h):=by
 refine zDw (fun k hk=> ?_) hx;unfold Wt at s;subst hb;have hw:zV t (some (j,false))=false:=by simp only[zV,s];rfl
 simp only[zl,hw,QU]at hk;cases hk
end
section
variable {α:Type}{c b:Nat}{R:WA->List Value->α->Prop}
theorem zPJ{cells:List Value}{n:Nat}(hc:0<c)(hl:cells.length=n*c)(h:∀ i,i<n->zL ((cells.drop (i*c)).take c)=true):zL cells=true:=by
 unfold zL at *;rw[QX];intro x hx;obtain⟨j,hj,rfl⟩:=JD hx;have hi:j / c<n:=by rw[Nat.div_lt_iff_lt_mul hc];omega
 have h1:=QX.1 (h (j / c) hi);refine h1 _ ?_;have hd:j / c*c+j % c=j:=by rw[Nat.mul_comm];exact Nat.div_add_mod ..
 have hm:j % c<c:=Nat.mod_lt _ hc;rw[JI];refine⟨j % c,by rw[Qn,List.length_drop];omega,?_⟩;rw[List.getElem_take,List.getElem_drop];congr 1
variable {P:Program}{tab:Wy}{t:WG Value}{h:WA}{ds:List Deferred}{rd:Option Nat}{l:List WF}{Q:WR->WA->Prop}
end
section
variable {α:Type}[Inhabited α]{c b:Nat}{R:WA->List Value->α->Prop}{h:WA}{v:Value}{xs:List α}
variable {P:Program}{tab:Wy}{t:WG Value}{ds:List Deferred}{rd:Option Nat}{l:List WF}{Q:WR->WA->Prop}
end
section
variable {P:Program}{tab:Wy}{t:WG Value}{h:WA}{ds:List Deferred}{rd:Option Nat}{l:List WF}{Q:WR->WA->Prop}
end
section
variable {P:Program}{tab:Wy}{t:WG Value}{h h0:WA}{ds:List Deferred}{rd:Option Nat}{l:List WF}{Q:WR->WA->Prop}
end
section
variable {P:Program}{tab:Wy}{N0 m g:Nat}{cl:Bool}{t:WG Value}{ds:List Deferred}{rd:Option Nat}{K:WP->WR->WA->Prop}
theorem V3{hS X:WA}{d n:Nat}{y:Operand}{v:Value}{zero cs:List Value}(eX:Ext (inC (zB 1 hS)) X)(hm:hS.mark<=hS.n)(k:∀ H p,Ext hS H->WB hS H p cs->K .normal ⟨t.set d p,ds,rd⟩ H)
  (hy:∀ p,WM (t.set d p) y v:=by intro p;exact zi) (hv:v.cells=cs.toArray:=by rfl) (hz:zero.length=n:=by rfl) (hn:cs.length=n:=by rfl) (h1:zL cs=true:=by rfl) (eo:m=hS.mark:=by rfl) (hg0:g=hS.n:=by rfl):
  Wb P tab m N0 [(⟨some d,none,.alloc zero⟩,[]),(⟨none,none,.store n (.tmp d) y⟩,[])] g cl ⟨t,ds,rd⟩ (inC X) (Bt K hS):=by
 subst eo hg0;have aL:hS.n<X.n:=eX.n;refine XL hm aL ?_ (hy _) hv hz hn h1;have e6:=zIW (o:= .row zero true 0) (o':= .row cs true 0) (k:=0) eX;have o6:=zHP (cs:=cs) (o:= .row zero true 0) eX;exact k _ _ e6 o6
theorem Wb.mk{h:WA}{d:Nat}{gd:Option (Nat×Bool)}{op:Wx}{ob:Ws}{f:Nat->Value}{l:List (WF×List Nat)}{Q:WR->WA->Prop}(hm:m<=g)(aO:yi t op=some (ob,f))(hx:Wb P tab m N0 l (g+1) false ⟨t.set d (f g),ds,rd⟩ ((inC h).lay g ob) Q)(hk:Nat.beq (zI op) 3=true:=by rfl)(hw:zV t gd=true:=by rfl):
  Wb P tab m N0 ((⟨some d,gd,op⟩,[])::l) g cl ⟨t,ds,rd⟩ (inC h) Q:=by
 rw[Wb,QF hk];exact⟨rfl,.inl ⟨hw,hm,ob,f,aO,hx⟩⟩
theorem Wb.no{h:WA}{d j:Nat}{b want:Bool}{op:Wx}{l:List (WF×List Nat)}{Q:WR->WA->Prop}(hx:Wb P tab m N0 l (g+1) cl ⟨t.set d undef,ds,rd⟩ (inC h) Q)(hk:Nat.beq (zI op) 3=true:=by rfl)(s:Wt t j (.bool b):=by exact Yq)(hb:(b == want)=false:=by rfl):
  Wb P tab m N0 ((⟨some d,some (j,want),op⟩,[])::l) g cl ⟨t,ds,rd⟩ (inC h) Q:=by
 rw[Wb,QF hk];have s:zC t j=.bool b:=s;exact⟨rfl,.inr ⟨by simp only[zV,s,hb],hx⟩⟩
theorem zLU{j:Nat}{b want:Bool}(s:Wt t j (.bool b))(hb:(b == want)=true):zV t (some (j,want))=true:=by
 have s:zC t j=.bool b:=s;simp only[zV,s,hb]
theorem Wb.inC{h:WA}{fr:WR}{x:WF×List Nat}{l:List (WF×List Nat)}{Q:WR->WA->Prop}(hx:Wb P tab m N0 (x::l) g cl fr (Am.inC h) Q):Wb P tab m N0 (x::l) g cl fr h Q:=by
 obtain⟨o,un⟩:=x;unfold Wb at hx |-;exact hx
theorem zPd(h:WA)(g:Nat)(o:Ws)(j:Nat):((Am.inC h).lay g o).get j=if j=g then some o else h.get j:=zT _ _ _ _
theorem XH{X:WA}{d:Nat}{gd:Option (Nat×Bool)}{op:Wx}{ob:Ws}{f:Nat->Value}{x:WF×List Nat}{l:List (WF×List Nat)}{Q:WR->WA->Prop}(hm:m<=g)(aO:yi t op=some (ob,f))
  (k:∀ X',X'.n=X.n->(∀ j,X'.get j=if j=g then some ob else X.get j)->Wb P tab m N0 (x::l) (g+1) false ⟨t.set d (f g),ds,rd⟩ (Am.inC X') Q) (hk:Nat.beq (zI op) 3=true) (hw:zV t gd=true:=by rfl):Wb P tab m N0 ((⟨some d,gd,op⟩,[])::x::l) g cl ⟨t,ds,rd⟩ (Am.inC X) Q:=
 Wb.mk hm aO (Wb.inC (k _ rfl fun j=>zPd X g ob j)) hk hw
theorem Vg{X:WA}{d n:Nat}{gd:Option (Nat×Bool)}{zero:List Value}{parts:List (Nat×Nat×Operand)}{vs:List (Nat×Nat×Value)}{x:WF×List Nat}{l:List (WF×List Nat)}{Q:WR->WA->Prop}(xs:List Int)(hm:m<=g)
  (k:∀ X',X'.n=X.n->(∀ j,X'.get j=if j=g then some (.row (xs.map I) true 0)else X.get j)->Wb P tab m N0 (x::l) (g+1) false ⟨t.set d (.slice (some ⟨g,0,none⟩) xs.length 1),ds,rd⟩ (Am.inC X') Q)
  (hp:BA t parts vs:=by(repeat (apply BA.cons;(exact zQ)));exact BA.nil) (hn:xs.length=n:=by rfl) (hf:Zy (zo zero n) vs=some (xs.map I):=by rfl) (hw:zV t gd=true:=by first|rfl|exact zLU Yq rfl):
  Wb P tab m N0 ((⟨some d,gd,.buildSlice n 1 zero parts⟩,[])::x::l) g cl ⟨t,ds,rd⟩ (Am.inC X) Q:=by
 subst hn;have hp:zu t parts=vs:=hp;exact XH (f:=fun g=> .slice (some ⟨g,0,none⟩) xs.length 1) hm (by simp only[yi,hp,hf,QJ]) k rfl hw
theorem XY{X:WA}{d:Nat}{x:Operand}{v:Value}{cs:List Value}{o:WF×List Nat}{l:List (WF×List Nat)}{Q:WR->WA->Prop}(hm:m<=g)
  (k:∀ X',X'.n=X.n->(∀ j,X'.get j=if j=g then some (.row cs true 0)else X.get j)->Wb P tab m N0 (o::l) (g+1) false ⟨t.set d (.pointer (some ⟨g,0,none⟩)),ds,rd⟩ (Am.inC X') Q) (hx:WM t x v:=by exact zi) (hv:v.cells.toList=cs:=by rfl):
  Wb P tab m N0 ((⟨some d,none,.box x⟩,[])::o::l) g cl ⟨t,ds,rd⟩ (Am.inC X) Q:=by
 have hx:ev t x=v:=hx;subst hv;exact XH (f:=fun g=> .pointer (some ⟨g,0,none⟩)) hm (by simp only[yi,hx]) k rfl
end
theorem zGB{h:WA}{q off:Nat}{row cs:List Value}(hq:h.get q=some (.row row true 0))(hl:off+cs.length<=row.length)(h1:zL cs=true):zr h ⟨q,off,none⟩ cs=some (h.set q (.row (zh row off cs) true 0)):=by
 have h2:Nat.ble (off+cs.length) row.length=true:=QH hl;have h3:Nat.ble 0 off=true:=QH (QK _);simp only[zr,hq,h2,h3,h1,Qp,Qv,cond_true]
section
variable {P:Program}{tab:Wy}{t:WG Value}{ds:List Deferred}{rd:Option Nat}
variable {m N0 g:Nat}{cl:Bool}{K:WP->WR->WA->Prop}{hS X:WA}{q off n:Nat}{row cs:List Value}{x y:Operand}{u:Value}
theorem XG{h:WA}{Q:WR->WA->Prop}{l:List WF}(hq:h.get q=some (.row row true 0))(hl:off+cs.length<=row.length)(hx:WM t x (.pointer (some ⟨q,off,none⟩)))(hy:WM t y u)(hu:u.cells=cs.toArray)(hn:cs.length=n)(h1:zL cs=true)
  (k:WO P tab l ⟨t,ds,rd⟩ (h.set q (.row (zh row off cs) true 0)) Q):WO P tab (⟨none,none,.store n x y⟩::l) ⟨t,ds,rd⟩ h Q:=by
 have hx:ev t x=_:=hx;have hy:ev t y=u:=hy;have qD:Nat.beq cs.length n=true:=by rw[hn];exact GR _
 exact VP undef _ rfl (by simp only[WN,hx,hy,hu,Gc,qD,zGB hq hl h1,QJ,cond_true]) k
theorem zNj{h:WA}{q m:Nat}(hm:m<=q)(hw:h.wr=[]):∀ k∈(h.log q),m<=k:=fun k hk=>by
 rcases yc hk with rfl|h2
 ·exact hm
 ·rw[hw]at h2;cases h2
theorem Uo{o:WF×List Nat}{l:List (WF×List Nat)}{Q:WR->WA->Prop}(hq:X.get q=some (.row row true 0))(hm:m<=q)(k:∀ X',X'.n=X.n->(∀ j,j≠q->X'.get j=X.get j)->X'.get q=some (.row (zh row off cs) true 0)->(Wf X->Wf X')->∀ cm,Wb P tab m N0 (o::l) g cm ⟨t,ds,rd⟩ (Am.inC X') Q)
  (hl:off+cs.length<=row.length) (hx:WM t x (.pointer (some ⟨q,off,none⟩)):=by exact zi) (hy:WM t y u:=by exact zi) (hu:u.cells=cs.toArray:=by rfl) (hn:cs.length=n:=by rfl) (h1:zL cs=true:=by rfl):
  Wb P tab m N0 ((⟨none,none,.store n x y⟩,[])::o::l) g cl ⟨t,ds,rd⟩ (Am.inC X) Q:=by
 refine Wb.q rfl ?_;refine XG hq hl hx hy hu hn h1 ?_;refine WO.nil (zMy (zNj hm rfl) (QE _) fun cm=>k ((Am.inC X).set q (.row (zh row off cs) true 0)) rfl (fun j hj=> ?_) ?_ (fun w j hj=> ?_) cm)
 ·exact(zg _ _ _ _).trans (QC hj)
 ·exact(zg _ _ _ _).trans (QF rfl)
 ·have hj:X.n<=j:=hj;by_cases e:j=q
  ·subst e;have:=w.lt hq;omega
  ·exact(zg _ _ _ _).trans ((QC e).trans (w j hj))
theorem Ut(hq:X.get q=some (.row row true 0))(hm:m<=q)(k:∀ H,H.n=X.n->(∀ j,j≠q->H.get j=X.get j)->H.get q=some (.row (zh row off cs) true 0)->(Wf X->Wf H)->H.mark=hS.mark->H.wr=hS.wr->K .normal ⟨t,ds,rd⟩ H)
  (hl:off+cs.length<=row.length) (hx:WM t x (.pointer (some ⟨q,off,none⟩)):=by exact zi) (hy:WM t y u:=by exact zi) (hu:u.cells=cs.toArray:=by rfl) (hn:cs.length=n:=by rfl) (h1:zL cs=true:=by rfl):
  Wb P tab m N0 [(⟨none,none,.store n x y⟩,[])] g cl ⟨t,ds,rd⟩ (Am.inC X) (Bt K hS):=by
 refine Wb.q rfl ?_;refine XG hq hl hx hy hu hn h1 ?_;refine WO.nil (zRE (zNj hm rfl) (QE _) (k _ rfl (fun j hj=> ?_) ?_ (fun w j hj=> ?_) rfl rfl))
 ·exact(zg _ _ _ _).trans (QC hj)
 ·exact(zg _ _ _ _).trans (QF rfl)
 ·have hj:X.n<=j:=hj;by_cases e:j=q
  ·subst e;have:=w.lt hq;omega
  ·exact(zg _ _ _ _).trans ((QC e).trans (w j hj))
theorem XJ{o:WF×List Nat}{l:List (WF×List Nat)}{Q:WR->WA->Prop}{hB:WA}{p:Value}{cells:List Value}{j:Nat}(oc:WB hB X p cells)(hm:m<=hB.n)(k:∀ X',X'.n=X.n->(∀ j,p≠ .pointer (some ⟨j,0,none⟩)->X'.get j=X.get j)->WB hB X' p (zh cells j cs)->(Wf X->Wf X')->∀ cm,Wb P tab m N0 (o::l) g cm ⟨t,ds,rd⟩ (Am.inC X') Q)
  (hl:j+cs.length<=cells.length:=by decide) (hx:WM t x (yE p j):=by exact zi) (hy:WM t y u:=by exact zi) (hu:u.cells=cs.toArray:=by rfl) (hn:cs.length=n:=by rfl) (h1:zL cs=true:=by rfl):
  Wb P tab m N0 ((⟨none,none,.store n x y⟩,[])::o::l) g cl ⟨t,ds,rd⟩ (Am.inC X) Q:=by
 obtain⟨q,q1,q2,rfl,q3⟩:=oc;rw[show yE (.pointer (some ⟨q,0,none⟩)) j=.pointer (some ⟨q,j,none⟩) by show Value.pointer (some ⟨q,0+j,none⟩)=_;rw[GH]]at hx;exact Uo q3 (QP hm q1) (fun X' n1 k1 g1 w1=>k X' n1 (fun j hj=>k1 j fun e=>hj (by rw[e])) ⟨q,q1,n1▸q2,rfl,g1⟩ w1) hl hx hy hu hn h1
theorem XK{hB:WA}{p:Value}{cells:List Value}{j:Nat}(oc:WB hB X p cells)(hm:m<=hB.n)(k:∀ H,H.n=X.n->(∀ j,p≠ .pointer (some ⟨j,0,none⟩)->H.get j=X.get j)->WB hB H p (zh cells j cs)->(Wf X->Wf H)->H.mark=hS.mark->H.wr=hS.wr->K .normal ⟨t,ds,rd⟩ H)
  (hl:j+cs.length<=cells.length:=by decide) (hx:WM t x (yE p j):=by exact zi) (hy:WM t y u:=by exact zi) (hu:u.cells=cs.toArray:=by rfl) (hn:cs.length=n:=by rfl) (h1:zL cs=true:=by rfl):
  Wb P tab m N0 [(⟨none,none,.store n x y⟩,[])] g cl ⟨t,ds,rd⟩ (Am.inC X) (Bt K hS):=by
 obtain⟨q,q1,q2,rfl,q3⟩:=oc;rw[show yE (.pointer (some ⟨q,0,none⟩)) j=.pointer (some ⟨q,j,none⟩) by show Value.pointer (some ⟨q,0+j,none⟩)=_;rw[GH]]at hx;exact Ut q3 (QP hm q1) (fun X' n1 k1 g1 w1=>k X' n1 (fun j hj=>k1 j fun e=>hj (by rw[e])) ⟨q,q1,n1▸q2,rfl,g1⟩ w1) hl hx hy hu hn h1
section
variable {α:Type}[Inhabited α]{R:WA->List Value->α->Prop}{c b i:Nat}{v:Value}{xs:List α}{a:α}
end
theorem zIb{c g off len n:Nat}(hn:n<=len):Zp c (.slice (some ⟨g,off,none⟩) len c) (some n) none none=some (.slice (some ⟨g,off+n*c,none⟩) (len-n) c):=by
 have b1:Nat.ble n len=true:=QH hn;have b2:Nat.ble len len=true:=QH (QE _);simp only[Zp,Gu,GB,b1,b2,Qp,Qv,cond_true,GR]
theorem Uk{h:WA}{Q:WR->WA->Prop}{l:List WF}{d c n:Nat}{zero:List Value}(hr:n<=100000)(k:∀ h',Ext h h'->h'.n=h.n+1->h'.get h.n=some (.row (zo zero n) true 0)->WO P tab l ⟨t.set d (.slice (some ⟨h.n,0,none⟩) n c),ds,rd⟩ h' Q)
  (hx:WM t x (I (n:Int)):=by exact zi) (hy:WM t y (I (n:Int)):=by exact zi):WO P tab (⟨some d,none,.mkSlice c zero x y⟩::l) ⟨t,ds,rd⟩ h Q:=by
 have h1:Nat.ble n room=true:=QH (by have:room=4294967296:=rfl;omega);have h2:Nat.ble n n=true:=QH (QE _);have hx:ev t x=I (n:Int):=hx;have hy:ev t y=I (n:Int):=hy;have hn:BO (I (n:Int))=some n:=rfl;exact WO.op _ _ rfl (by simp only[WN,hx,hy,hn,h1,h2,Qv,cond_true]<;>rfl) (k _ (Z1 _ _) rfl (zX _ _))
end
section
variable {P:Program}{tab:Wy}{t:WG Value}{ds:List Deferred}{rd:Option Nat}
variable {q off n:Nat}{row:List Value}{x y:Operand}
theorem UA{h:WA}{Q:WR->WA->Prop}{l:List WF}{d c k m:Nat}{w:Value}{ys:List Value}(hq:h.get q=some (.row row true 0))(s:Wi c h w k ys)(hc:0<c)(hk:min k n=m)(hl:off+m*c<=row.length)(h1:zL ys=true)
  (hX:∀ h',h'.n=h.n->(∀ j,j≠q->h'.get j=h.get j)->h'.get q=some (.row (zh row off (ys.take (m*c))) true 0)->(Wf h->Wf h')->h'.mark=h.mark->(h.mark<=q->h'.wr=h.wr)->(∀ j∈h'.wr,j=q\/j∈h.wr)->WO P tab l ⟨t.set d (I m),ds,rd⟩ h' Q)
  (hx:WM t x (.slice (some ⟨q,off,none⟩) n c):=by exact zi) (hy:WM t y w:=by exact zi):WO P tab (⟨some d,none,.copy c x y⟩::l) ⟨t,ds,rd⟩ h Q:=by
 have hx:ev t x=_:=hx;have hy:ev t y=_:=hy;have hs:=YF s;have hlen:ys.length / c=k:=by rw[s.1];exact Nat.mul_div_cancel _ hc
 have jQ:min (ys.length / c) n=m:=by rw[hlen];exact hk
 have td:(ys.take (m*c)).length=m*c:=by
  rw[Qn,s.1];have:m*c<=k*c:=GK _ (by omega);omega
 by_cases h0:m=0
 ·subst h0;refine WO.op (I (0:Nat)) h rfl ?_ (hX h rfl (fun _ _=>rfl) ?_ id rfl (fun _=>rfl) fun j hj=> .inr hj)
  ·simp only[WN,hx,hy,hs,jQ];rfl
  ·rw[hq];simp[zh]
 ·have hb:Nat.beq m 0=false:=by cases hb:Nat.beq m 0 with
   |false=>rfl
   |true=>exact absurd (QO hb) h0
  have h2:zL (ys.take (m*c))=true:=by
   unfold zL at *;rw[QX]at *;exact fun a ha=>h1 a (Q5 ha)
  refine WO.op (I m) (h.set q (.row (zh row off (ys.take (m*c))) true 0)) rfl ?_ (hX _ rfl (fun j hj=>by rw[zg,QC hj]) (by rw[zg,QF rfl]) (fun wf j hj=> ?_) rfl (fun hm=>zAO hm) fun j hj=>yc hj)
  ·simp only[WN,hx,hy,hs,jQ,hb,QU,GR,Qp,Qv,cond_true,zGB hq (by rw[td];exact hl) h2,QJ]
  ·have hj:h.n<=j:=hj;by_cases e:j=q
   ·subst e;have:=wf.lt hq;omega
   ·rw[zg,QC e];exact wf j hj
theorem zPT{h h0:WA}{v w:Value}{xs ys:List Int}(o:WL h0 h v xs)(s:WQ h w ys)(e0:Ext h0 h)(aq:ys≠[])(hr:xs.length+ys.length<=4294967296):
  ∃ v' h',yb 1 v w h=some (v',h')/\Ext h0 h'/\Wq h h' v' (xs++ys)/\Bh v h h':=by
 have aT:=YF s;have a6:room=4294967296:=rfl;obtain⟨z,zs,rfl⟩:∃ z zs,ys=z::zs:=by
  cases ys with
  |nil=>exact absurd rfl aq
  |cons z zs=>exact⟨z,zs,rfl⟩
 have a9:zL (I z::zs.map I)=true:=zC7 (z::zs);have hlen:(I z::zs.map I).length / 1=(z::zs).length:=by simp
 rcases o with⟨rfl,rfl⟩|⟨g,g1,g2,rfl,g3⟩
 ·have h1:Nat.ble (z::zs).length room=true:=QH (by rw[a6];simpa using hr);refine⟨.slice (some ⟨h.n,0,none⟩) (z::zs).length 1,h.push (.row ((z::zs).map I) true 0),?_,e0.push _,⟨h.n,QE _,by simp[WA.push],rfl,zX _ _⟩,⟨Qr _,fun k hk _=> ?_⟩⟩
  ·simp only[yb,aT,Qm,a9,hlen,h1,QW,cond_true,QU];rfl
  ·rw[zS,QC (by omega)]
 ·have h1:Nat.ble (xs.length+(z::zs).length) room=true:=QH (by rw[a6];exact hr);have h2:cut (xs.map I) 0 (xs.length*1)=some (xs.map I):=by rw[ZD (by simp)];simp[Q7]
  have hn:(h.kill g).n=h.n:=rfl;have h3:Nat.ble 0 (0+xs.length*1)=true:=QH (QK _);refine⟨.slice (some ⟨h.n,0,none⟩) (xs.length+(z::zs).length) 1,(h.kill g).push (.row (xs.map I++(z::zs).map I) true (0-0)),?_,(e0.kill g1).push _,⟨h.n,QE _,by simp[WA.push,WA.kill],by simp,?_⟩,⟨Qr _,fun k hk hv=> ?_⟩⟩
  ·simp only[yb,aT,Qm,a9,hlen,h1,g3,h2,h3,QW,cond_true,QU];rfl
  ·have:=zX (h.kill g) (.row (xs.map I++(z::zs).map I) true (0-0));rw[hn]at this;rw[this];simp
  ·rw[zS,QC (by rw[hn];omega),yt,QC (fun e=>hv _ _ _ rfl e.symm)]
theorem V8{h h0:WA}{Q:WR->WA->Prop}{l:List WF}{d:Nat}{v w:Value}{xs ys:List Int}(o:WL h0 h v xs)(s:WQ h w ys)(e0:Ext h0 h)(aq:ys≠[])(hr:xs.length+ys.length<=4294967296)(k:∀ v' h',Ext h0 h'->Wq h h' v' (xs++ys)->Bh v h h'->WO P tab l ⟨t.set d v',ds,rd⟩ h' Q)
  (hx:WM t x v:=by exact zi) (hy:WM t y w:=by exact zi):WO P tab (⟨some d,none,.append 1 x y⟩::l) ⟨t,ds,rd⟩ h Q:=by
 have hx:ev t x=v:=hx;have hy:ev t y=w:=hy;obtain⟨v',h',a,b,c,u⟩:=zPT o s e0 aq hr;exact WO.op v' h' rfl (by simp only[WN,hx,hy,a]) (k v' h' b c u)
theorem UO{α:Type}{c b d1 d2:Nat}{R:WA->List Value->α->Prop}{h hB:WA}{Q:WR->WA->Prop}{l:List WF}{v w:Value}{xs:List α}{cs zero:List Value}(a:α)(Dn:Nat->Prop)(o:OwnR c R b h v xs)(e0:Ext hB h)(hb:hB.n<=b)(eF:b<=h.n)(aW:0<c)(hl:xs.length<=100000)
  (d:Ba R h cs a Dn) (hD:∀ k,Dn k->b<=k/\k<h.n) (hv:∀ g n k,v=.slice (some ⟨g,0,none⟩) n k->¬Dn g)
  (k:∀ v' h' lit,Ext hB h'->OwnR c R b h' v' (xs++[a])->h.n<=h'.n->(∀ k,k<h.n->(∀ n k',v≠ .slice (some ⟨k,0,none⟩) n k')->h'.get k=h.get k)->(∃ n k g,v'=.slice (some ⟨g,0,none⟩) n k/\h.n<=g)->WO P tab l ⟨(t.set d1 lit).set d2 v',ds,rd⟩ h' Q)
  (hx:WM t x w:=by exact zi) (hw:w.cells=cs.toArray:=by rfl) (hc:cs.length=c:=by rfl) (h1:zL cs=true:=by rfl) (hz:zero.length=c:=by rfl) (hy:∀ u,WM (t.set d1 u) y v:=by intro u;exact zi):
  WO P tab (⟨some d1,none,.buildSlice 1 c zero [(0,c,x)]⟩::⟨some d2,none,.append c y (.tmp d1)⟩::l) ⟨t,ds,rd⟩ h Q:=by
 have hx:ev t x=w:=hx;refine WO.op (.slice (some ⟨h.n,0,none⟩) 1 c) (h.push (.row cs true 0)) rfl (by
  simp only[WN,zu,Qm,GP,hx,Zz hw hc hz,QJ];rfl) ?_
 obtain⟨v',H',q1,q2,q3,q4,q5,q6,q7,q8,q9⟩:=Z0 (H:=h.push (.row cs true 0)) (gl:=h.n) o hc aW h1 hl eF d hD hv (Qr _) (Q4 _) (fun k hk=>by rw[zS,QC (by omega)]) (zX _ _);have iT:ev (t.set d1 (.slice (some ⟨h.n,0,none⟩) 1 c)) y=v:=hy _;have e1:ev (t.set d1 (.slice (some ⟨h.n,0,none⟩) 1 c)) (.tmp d1)=.slice (some ⟨h.n,0,none⟩) 1 c:=by simp only[ev,zb,Q6]
 refine WO.op v' H' rfl (by simp only[WN,iT,e1,q1]) (k v' H' _ ?_ q2 (by rw[q3];show h.n<=h.n+1+1;omega) (fun k hk mc=> ?_) (let⟨n,k,g,e,hg⟩:=q9;⟨n,k,g,e,QP (Qr _) hg⟩))
 ·have sV:∀ k,k<hB.n->∀ n k',v≠ .slice (some ⟨k,0,none⟩) n k':=fun k hk n k' e=>by
   rcases o with⟨e2,_⟩|⟨g,_,_,g1,_,e2,_⟩
   ·rw[e2]at e;cases e
   ·rw[e2]at e;cases e;omega
  refine⟨by rw[q3];show hB.n<=h.n+1+1;have:=e0.n;omega,fun k hk=> ?_,fun w=>q8 ?_,q5.trans e0.mark,fun hm=> ?_⟩
  ·have:=e0.n;rw[q4 k (by show k<h.n+1;omega) (sV k hk),zS,QC (by omega)];exact e0.get k hk
  ·intro k hk;have hk:h.n+1<=k:=hk;rw[zS,QC (by omega)];exact e0.wf w k (by omega)
  ·rw[q7 (by show h.mark<=b;rw[e0.mark];omega)];exact e0.wr hm
 ·rw[q4 k (by show k<h.n+1;omega) mc,zS,QC (by omega)]
end
def Bm:Value->Option Nat
 | .slice (some a) _ _=>some a.block
 | .pointer (some a)=>some a.block
 |_=>none
def WU(v w:Value):Prop:=∀ b,Bm v=some b->Bm w≠some b
theorem WU.symm{v w:Value}(o:WU v w):WU w v:=fun b h k=>o b k h
def UpB(v:Value)(h h':WA):Prop:=h.n<=h'.n/\∀ g,g<h.n->Bm v≠some g->h'.get g=h.get g
theorem Bh.upB{v:Value}{h h':WA}(u:Bh v h h'):UpB v h h':=⟨u.1,fun g hg hv=>u.2 g hg fun a n c e he=>hv (by rw[e,<-he];rfl)⟩
theorem Wm.upB{v:Value}{h h':WA}(u:Wm v h h'):UpB v h h':=⟨u.1,fun g hg hv=>u.2 g hg fun e=>hv (by rw[e];rfl)⟩
theorem zPk{v:Value}{h h':WA}(hn:h.n<=h'.n)(u:∀ k,k<h.n->(∀ n k',v≠ .slice (some ⟨k,0,none⟩) n k')->h'.get k=h.get k):UpB v h h':=⟨hn,fun g hg hv=>u g hg fun n k e=>hv (by rw[e];rfl)⟩
def zBI(h:WA)(v:Value):Prop:=∀ b,Bm v=some b->h.n<=b
def zGk(h:WA)(v:Value):Prop:=∀ b,Bm v=some b->b<h.n
theorem VG{h:WA}{v w:Value}(a:zBI h v)(b:zGk h w):WU v w:=fun k hk hw=>by have:=a k hk;have:=b k hw;omega
section
variable {hB h h':WA}{v w p:Value}{l:List Int}{cs:List Value}
theorem WL.within(o:WL hB h w l):zGk h w:=fun b hb=>by
 rcases o with⟨rfl,_⟩|⟨g,_,g2,rfl,_⟩
 ·cases hb
 ·cases hb;exact g2
theorem WL.since'(o:WL hB h w l):zBI hB w:=fun b hb=>by
 rcases o with⟨rfl,_⟩|⟨g,g1,_,rfl,_⟩
 ·cases hb
 ·cases hb;exact g1
theorem WB.within(o:WB hB h p cs):zGk h p:=fun b hb=>by obtain⟨g,_,g2,rfl,_⟩:=o;cases hb;exact g2
theorem WB.since'(o:WB hB h p cs):zBI hB p:=fun b hb=>by obtain⟨g,g1,_,rfl,_⟩:=o;cases hb;exact g1
theorem WL.upB(o:WL hB h w l)(u:UpB v h h')(d:WU v w):WL hB h' w l:=by
 rcases o with o|⟨g,g1,g2,rfl,g3⟩
 ·exact .inl o
 ·exact .inr ⟨g,g1,QI g2 u.1,rfl,(u.2 g g2 fun e=>d _ e rfl).trans g3⟩
theorem WB.upB(o:WB hB h p cs)(u:UpB v h h')(d:WU v p):WB hB h' p cs:=by
 obtain⟨g,g1,g2,rfl,g3⟩:=o;exact⟨g,g1,QI g2 u.1,rfl,(u.2 g g2 fun e=>d _ e rfl).trans g3⟩
section
variable {α:Type}{c b:Nat}{R:WA->List Value->α->Prop}{xs:List α}
theorem OwnR.within(o:OwnR c R b h w xs):zGk h w:=fun b hb=>by
 rcases o with⟨rfl,_⟩|⟨g,_,_,_,g2,rfl,_⟩
 ·cases hb
 ·cases hb;exact g2
theorem OwnR.upB(hi:∀ h h' cs a,R h cs a->R h' cs a)(o:OwnR c R b h w xs)(u:UpB v h h')(d:WU v w):OwnR c R b h' w xs:=by
 rcases o with o|⟨g,cells,D,g1,g2,rfl,g3,g4,_,_,g7⟩
 ·exact .inl o
 ·exact .inr ⟨g,cells,fun _=>False,g1,QI g2 u.1,rfl,(u.2 g g2 fun e=>d _ e rfl).trans g3,g4,id,fun _ h=>h.elim,fun i a ha hx _ _=>hi _ _ _ _ (g7 i a ha).self⟩
end
theorem yZ{P:Program}{tab:Wy}{t:WG Value}{m N0 n g j:Nat}{un:List Nat}{d:Option Nat}{gd:Option (Nat×Bool)}{agg:Bool}{x:Operand}{p:Value}{cs:List Value}{h0 hs h:WA}{l:List (WF×List Nat)}{fr:WR}{Q:WR->WA->Prop}(o:WB h0 hs p cs)(hN:hs.n<=N0)(hx:Wb P tab m N0 l g true fr (inC h) Q)
  (hr:WM t x (yE p j):=by exact zi):uK2 P tab m N0 un t ⟨d,gd,.load agg n x⟩ (inC h) l g true Q fr (inC h):=by
 refine zDw (fun k hk=> ?_) hx;obtain⟨q,q1,q2,rfl,q3⟩:=o;have hr:ev t x=_:=hr;unfold yE at hr;cases hw:zV t gd with
 |false=>simp only[zl,hw,QU]at hk;cases hk
 |true=>
  simp only[zl,hw,cond_true,hr,QA]at hk;omega
theorem zAq{P:Program}{tab:Wy}{t:WG Value}{m N0 n g:Nat}{un:List Nat}{d:Option Nat}{gd:Option (Nat×Bool)}{agg:Bool}{x:Operand}{p:Value}{cs:List Value}{h0 hs h:WA}{l:List (WF×List Nat)}{fr:WR}{Q:WR->WA->Prop}(o:WB h0 hs p cs)(hN:hs.n<=N0)(hx:Wb P tab m N0 l g true fr (inC h) Q)
  (hr:WM t x p:=by exact zi):uK2 P tab m N0 un t ⟨d,gd,.load agg n x⟩ (inC h) l g true Q fr (inC h):=
 yZ (j:=0) o hN hx (by rw[<-o.at0];exact hr)
theorem Uv{P:Program}{tab:Wy}{t:WG Value}{ds:List Deferred}{rd:Option Nat}{Q:WR->WA->Prop}{l:List WF}{d c:Nat}{zero cs:List Value}{x:Operand}{w:Value}
  (k:∀ h',Ext h h'->h'.n=h.n+1->Wi c h' (.slice (some ⟨h.n,0,none⟩) 1 c) 1 cs->h'.get h.n=some (.row cs true 0)->WO P tab l ⟨t.set d (.slice (some ⟨h.n,0,none⟩) 1 c),ds,rd⟩ h' Q)
  (hx:WM t x w:=by exact zi) (hw:w.cells=cs.toArray:=by rfl) (hc:cs.length=c:=by rfl) (hz:zero.length=c:=by rfl):WO P tab (⟨some d,none,.buildSlice 1 c zero [(0,c,x)]⟩::l) ⟨t,ds,rd⟩ h Q:=by
 have hx:ev t x=w:=hx;refine WO.op (.slice (some ⟨h.n,0,none⟩) 1 c) (h.push (.row cs true 0)) rfl (by
  simp only[WN,zu,Qm,GP,hx,Zz hw hc hz,QJ];rfl) (k _ (Z1 _ _) rfl (Wi.own (Q4 _) (zX _ _) (by rw[hc,Nat.one_mul])) (zX _ _))
end
section
variable {P:Program}{tab:Wy}{t:WG Value}{h:WA}{ds:List Deferred}{rd:Option Nat}{l:List WF}{Q:WR->WA->Prop}
theorem XA{α:Type}{c b d1 d2 d0 d3 s j m N0:Nat}{cl:Bool}{R:WA->List Value->α->Prop}{hB hS X:WA}{p v w:Value}{xs:List α}{cs zero cells:List Value}(a:α)(Dn:Nat->Prop){x y:Operand}{K:WP->WR->WA->Prop}
  (eX:Ext (Am.inC (zB 1 hS)) X) (o:OwnR c R b hS v xs) (e0:Ext hB hS) (hm:hS.mark<=hB.n) (hb:hB.n<=b) (eF:b<=hS.n) (aW:0<c) (hl:xs.length<=100000) (op:WB hB hS p cells) (sW:∀ g,p=.pointer (some ⟨g,0,none⟩)->g<b)
  (d:Ba R X cs a Dn) (hD:∀ k,Dn k->b<=k/\k<X.n) (hv:∀ g n k,v=.slice (some ⟨g,0,none⟩) n k->¬Dn g) (xx:¬Dn hS.n) (hj:j<cells.length) (a7:zL cells=true)
  (k:∀ H v' t',zCB [d1,d2,d0,d3] t t'->Ext hB H->WB hB H p (cells.set j v')->zL (cells.set j v')=true->OwnR c R b H v' (xs++[a])->zBI hS v'->(∀ k,k<hS.n->p≠ .pointer (some ⟨k,0,none⟩)->(∀ n k',v≠ .slice (some ⟨k,0,none⟩) n k')->H.get k=hS.get k)->hS.n<=H.n->K .normal ⟨t',ds,rd⟩ H)
  (hx:WM t x w:=by exact zi) (hw:w.cells=cs.toArray:=by rfl) (hc:cs.length=c:=by rfl) (h1:zL cs=true:=by rfl) (hz:zero.length=c:=by rfl) (hy:∀ u,WM (t.set d1 u) y v:=by intro u;exact zi) (hs:∀ u u',WM ((t.set d1 u).set d2 u') (.tmp s) p:=by intro u u';exact zi) (gR:Nat.beq d2 d3=false:=by rfl) (ES:Nat.beq d2 d0=false:=by rfl) (eo:m=hS.mark:=by rfl):
  Wb P tab m N0 [(⟨some d1,none,.buildSlice 1 c zero [(0,c,x)]⟩,[]),(⟨some d2,none,.append c y (.tmp d1)⟩,[]),(⟨some d0,none,.nilCheck (.tmp s)⟩,[]),(⟨some d3,none,.fld j (.tmp d0)⟩,[]),(⟨none,none,.store 1 (.tmp d3) (.tmp d2)⟩,[])] hS.n cl ⟨t,ds,rd⟩ (Am.inC X) (Bt K hS):=by
 subst eo;have hx:ev t x=w:=hx;have nP:hS.n+1<=X.n:=eX.n;obtain⟨gp,pw,sT,hp,qR⟩:=op;have EN:=sW gp hp;rw[Wb,QF (show Nat.beq (zI (Wx.buildSlice 1 c zero [(0,c,x)])) 3=true from rfl)];refine⟨rfl,.inl ⟨rfl,by have:=e0.n;omega,.row cs true 0,_,by simp only[yi,zu,Qm,GP,hx,Zz hw hc hz,QJ];rfl,?_⟩⟩;generalize fU:(Am.inC (Am.inC X)).lay hS.n (.row cs true 0)=H1;have n1:H1.n=X.n:=by rw[<-fU];rfl
 have aH:∀ c',H1.get c'=if c'=hS.n then some (.row cs true 0)else X.get c':=fun c'=>by rw[<-fU];exact zT _ _ _ _
 have cM:∀ k,k<hS.n->X.get k=hS.get k:=fun k hk=>eX.get k (by show k<hS.n+1;omega);have oX:OwnR c R b X v xs:=o.upd (fun k _ hk=>cM k hk) (by omega);have jU:OwnR c R b (Am.inC H1) v xs:=by
  rcases o with o|⟨g,cm,D,g1,g2,g3,g4,g5,g6,g7,g8⟩
  ·exact .inl o
  ·refine .inr ⟨g,cm,D,g1,by show g<H1.n;omega,g3,?_,g5,g6,fun k hd=>⟨(g7 k hd).1,by have:=(g7 k hd).2;show k<H1.n;omega⟩,fun i a ha=>(g8 i a ha).mono (fun _ h=>h) (fun k o hd e=> ?_) (by show hS.n<=H1.n;omega)⟩
   ·show H1.get g=_;rw[aH,QC (by omega),cM g g2];exact g4
   ·have:=(g7 k hd).2;show H1.get k=_;rw[aH,QC (by omega),cM k this];exact e
 have pA:Ba R (Am.inC H1) cs a Dn:=d.mono (fun _ h=>h) (fun k o hd e=>by
  show H1.get k=_;rw[aH,QC (fun e2:k=hS.n=>by subst e2;exact xx hd)];exact e) (by show X.n<=H1.n;omega)
 obtain⟨v',H2,q1,q2,q3,q4,q5,q6,q7,q8,n',k',g',q9,me⟩:=Z0 (H:=Am.inC H1) (gl:=hS.n) jU hc aW h1 hl (by show b<=H1.n;omega) pA (fun k hd=>⟨(hD k hd).1,by have:=(hD k hd).2;show k<H1.n;omega⟩) hv (QE _) (by show hS.n<H1.n;omega) (fun _ _=>rfl) (by show H1.get hS.n=_;rw[aH,QF rfl]);rw[Wb,QC (show ¬Nat.beq (zI (Wx.append c y (.tmp d1))) 3=true from Bool.noConfusion)];have iT:ev (t.set d1 (.slice (some ⟨hS.n,0,none⟩) 1 c)) y=v:=hy _;have e1:ev (t.set d1 (.slice (some ⟨hS.n,0,none⟩) 1 c)) (.tmp d1)=.slice (some ⟨hS.n,0,none⟩) 1 c:=by simp only[ev,zb,Q6]
 refine WO.op v' H2 rfl (by simp only[WN,iT,e1,q1]) ?_;refine WO.nil ⟨⟨fun c' bM=> ?_,by show H1.n<=H2.n;rw[q3];exact Qr _,.inl rfl⟩,?_⟩
 ·rcases q6 c' bM with h|h
  ·cases h
  ·omega
 have EO:∀ n k,v≠ .slice (some ⟨gp,0,none⟩) n k:=fun n k e=>by
  rcases o with⟨e2,_⟩|⟨g,_,_,g1,_,e2,_⟩
  ·rw[e2]at e;cases e
  ·rw[e2]at e;cases e;omega
 have ee:H2.get gp=some (.row cells true 0):=by
  rw[q4 gp (by show gp<H1.n;omega) EO];show H1.get gp=_;rw[aH,QC (by omega),cM gp sT];exact qR
 rw[Wb,QC (show ¬Nat.beq (zI (Wx.nilCheck (.tmp s))) 3=true from Bool.noConfusion)];have eW:ev ((t.set d1 (.slice (some ⟨hS.n,0,none⟩) 1 c)).set d2 v') (.tmp s)=p:=hs _ _;refine WO.op p (Am.inC H2) rfl (by simp only[WN,eW,hp];rfl) ?_;refine WO.nil ⟨⟨fun c' bM=>(by cases bM),QE _,.inl rfl⟩,?_⟩;rw[Wb,QC (show ¬Nat.beq (zI (Wx.fld j (.tmp d0))) 3=true from Bool.noConfusion)];have xB:∀ tt:WG Value,ev (tt.set d0 p) (.tmp d0)=p:=fun tt=>by simp only[ev,zb,Q6]
 refine WO.op (.pointer (some ⟨gp,j,none⟩)) (Am.inC H2) rfl (by simp only[val,WN,xB];simp only[hp,GH,Qp,cond_true];rfl) ?_;refine WO.nil ⟨⟨fun c' bM=>(by cases bM),QE _,.inl rfl⟩,?_⟩;rw[Wb,QC (show ¬Nat.beq (zI (Wx.store 1 (.tmp d3) (.tmp d2))) 3=true from Bool.noConfusion)];have mf:zL [v']=true:=by rw[q9];rfl
 have gi:v'.cells=#[v']:=by rw[q9];rfl
 have aX:zr (Am.inC (Am.inC H2)) ⟨gp,j,none⟩ [v']=some ((Am.inC (Am.inC H2)).set gp (.row (cells.set j v') true 0)):=by
  have jS:(Am.inC (Am.inC H2)).get gp=some (.row cells true 0):=ee;have h1:Nat.ble (j+1) cells.length=true:=QH hj;have h0:Nat.ble 0 j=true:=QH (QK _);simp only[zr,jS,QV,h1,h0,mf,Qv,zBq hj];rfl
 have mb:¬d2=d3:=fun e=>by subst e;simp at gR
 have ET:¬d2=d0:=fun e=>by subst e;simp at ES
 refine VP undef ((Am.inC (Am.inC H2)).set gp (.row (cells.set j v') true 0)) rfl (by
  have a1:∀ tt:WG Value,ev (tt.set d3 (.pointer (some ⟨gp,j,none⟩))) (.tmp d3)=.pointer (some ⟨gp,j,none⟩):=fun tt=>by
   simp only[ev,zb,Q6]
  have a2:∀ w,ev ((((t.set d1 (.slice (some ⟨hS.n,0,none⟩) 1 c)).set d2 w).set d0 p).set d3 (.pointer (some ⟨gp,j,none⟩))) (.tmp d2)=w:=fun w=>by
   simp only[ev,zb,QC mb,QC ET,Q6]
  simp only[val,WN,a1,a2,gi,Gc,QV,GR,aX,QJ,cond_true]) ?_
 refine WO.nil ⟨⟨fun c' bM=> ?_,QE _,.inl rfl⟩,?_⟩
 ·have eC:c'∈(Am.inC (Am.inC H2)).log gp:=bM;rcases yc eC with rfl|h
  ·omega
  ·cases h
 generalize hH:outC hS ((Am.inC (Am.inC H2)).set gp (.row (cells.set j v') true 0))=H;have nH:H.n=X.n+1:=by rw[<-hH];show H2.n=_;rw[q3];show H1.n+1=_;omega
 have dy:∀ c',H.get c'=if c'=gp then some (.row (cells.set j v') true 0)else H2.get c':=fun c'=>by rw[<-hH];exact zT _ _ _ _
 have dA:∀ c',c'<hS.n->c'≠gp->(∀ n k,v≠ .slice (some ⟨c',0,none⟩) n k)->H.get c'=hS.get c':=fun c' h1 h2 h3=>by
  rw[dy,QC h2,q4 c' (by show c'<H1.n;omega) h3];show H1.get c'=_;rw[aH,QC (by omega),cM c' h1]
 have xy:∀ k,k<hB.n->∀ n k',v≠ .slice (some ⟨k,0,none⟩) n k':=fun k hk n k' e=>by
  rcases o with⟨e2,_⟩|⟨g,_,_,g1,_,e2,_⟩
  ·rw[e2]at e;cases e
  ·rw[e2]at e;cases e;omega
 have tc:zL (cells.set j v')=true:=by
  unfold zL at *;rw[QX]at *;intro z hz;rcases List.mem_or_eq_of_mem_set hz with h|h
  ·exact a7 z h
  ·subst h;rw[q9]
 show K .normal _ _;rw[hH];refine k H v' _ (fun i hi=> ?_) ?_ ⟨gp,pw,by rw[nH];omega,hp,by rw[dy,QF rfl]⟩ tc (q2.upd (fun k dj aS=>by rw[dy,QC (by omega)]) (by rw[nH,q3];show H1.n+1<=_;omega)) (fun c hc=>by rw[q9]at hc;cases hc;have:H1.n<=g':=me;show hS.n<=g';omega) (fun c' h1 h2 h3=>dA c' h1 (fun e=>h2 (by rw[hp,e])) h3) (by rw[nH];omega)
 ·have hc:=ZJ hi;rw[List.contains_eq_mem,Gk]at hc;have b1:¬i=d1:=fun e=>hc (by simp[e]);have b2:¬i=d2:=fun e=>hc (by simp[e]);have b3:¬i=d3:=fun e=>hc (by simp[e]);have b0:¬i=d0:=fun e=>hc (by simp[e]);simp only[val,zb,QC b1,QC b2,QC b3,QC b0]
 ·have kz:=e0.n;refine⟨by rw[nH];omega,fun k hk=>(dA k (by omega) (by omega) (xy k hk)).trans (e0.get k hk),fun w k hk=> ?_,?_,fun cT=> ?_⟩
  ·rw[nH]at hk;rw[dy,QC (by omega)];refine q8 (fun k2 aS=> ?_) k (by rw[q3];show H1.n+1<=k;omega);have aS:H1.n<=k2:=aS;show H1.get k2=_;rw[aH,QC (by omega)];exact eX.wf (fun k3 cg=>e0.wf w k3 (by have:hS.n+1<=k3:=cg;omega)) k2 (by omega)
  ·rw[<-hH];exact e0.mark
  ·rw[<-hH];exact e0.wr cT
def RI(_:WA)(cs:List Value)(a:Int):Prop:=cs=[I a]
theorem zCc{hB h:WA}{b:Nat}{v:Value}{l:List Int}(o:OwnR 1 RI b h v l)(hb:hB.n<=b):WL hB h v l:=by
 rcases o with⟨rfl,rfl⟩|⟨g,cells,D,g1,g2,rfl,g4,g5,_,_,g8⟩
 ·exact .inl ⟨rfl,rfl⟩
 ·refine .inr ⟨g,QP hb g1,g2,rfl,?_⟩;rw[g4];congr 2;refine G6 (by simp[g5]) fun i h1 h2=> ?_;have h3:i<l.length:=by simpa using h2
  have:=(g8 i l[i] (QB h3)).self;unfold RI at this;have h4:=congrArg (fun q=>q[0]?) this;simpa [GM,h1]using h4
end
section
variable {P:Program}{tab:Wy}
def ok7(m N0:Nat)(aP:Nat->Prop)(un:List Nat)(cl:Bool)(t:WG Value)(o:WF)(h h':WA):Prop:=
 (∀ k∈h'.wr,m<=k)/\h.n<=h'.n/\(un=[]\/(cl=true/\h'.wr=[]/\∀ g,zl t o=some g->¬aP g/\g<N0))
def Bd(P:Program)(tab:Wy)(m N0:Nat)(aP:Nat->Prop):List (WF×List Nat)->Nat->Bool->WR->WA->(WR->WA->Prop)->Prop
 |[],_,_,fr,h,Q=>Q fr h
 |(o,un)::l,g,cl,fr,h,Q=>
  if Nat.beq (zI o.op) 3=true then
   un=[]/\((zV fr.tm o.guard=true/\m<=g/\∃ ob f,yi fr.tm o.op=some (ob,f)/\∃ cm,(cm=true->cl=true/\aP g)/\Bd P tab m N0 aP l (g+1) cm (val o.dst fr (f g)) ((inC h).lay g ob) Q)\/
    (zV fr.tm o.guard=false/\Bd P tab m N0 aP l (g+1) cl (val o.dst fr undef) (inC h) Q))
  else WO P tab [o] fr (inC h) fun af h'=>ok7 m N0 aP un cl fr.tm o h h'/\∃ cm,(cm=true->cl=true/\∀ k∈h'.wr,aP k)/\Bd P tab m N0 aP l g cm af h' Q
theorem zLR{m N0:Nat}{aP:Nat->Prop}{un:List Nat}{cl:Bool}{t:WG Value}{o:WF}{h h':WA}(hk:ok7 m N0 aP un cl t o h h'){ws:List (Nat×Nat)}(hw:cl=true->∀ e∈ws,aP e.2){bs:List (Nat×Nat)}(hb:∀ e∈bs,N0<=e.2)(rs:List (Nat×Nat×Option (Nat×Nat×List Value))):
  ((match zl t o with
   |some g=>(ws.all fun x=> !(Nat.beq g x.2&&un.contains x.1))&&bs.all fun x=> !un.contains x.1||Nat.ble (g+1) x.2
   |none=>true)&&rs.all fun x=> !(un.contains x.1&&h'.wr.contains x.2.1)||zCh h' x.2.1 x.2.2)=true:=by
 obtain⟨_,_,rfl|⟨h1,h2,h3⟩⟩:=hk
 ·exact zJs o ws rs bs t h'
 ·rw[h2];have e2:(rs.all fun x=> !(un.contains x.1&&([]:List Nat).contains x.2.1)||zCh h' x.2.1 x.2.2)=true:=by simp
  rw[e2,Qq];cases hr:zl t o with
  |none=>rfl
  |some g=>
   obtain⟨hg,hn⟩:=h3 g hr;have e3:(ws.all fun x=> !(Nat.beq g x.2&&un.contains x.1))=true:=by
    rw[QX];intro x hx;have:Nat.beq g x.2=false:=by
     cases hb:Nat.beq g x.2 with
     |false=>rfl
     |true=>exact absurd (QO hb▸hw h1 x hx) hg
    rw[this];rfl
   simp only[e3,Qe];rw[QX];intro x hx;have:Nat.ble (g+1) x.2=true:=QH (QI hn (hb x hx));rw[this,Q8]
theorem Bd.run{m N0:Nat}{aP:Nat->Prop}:∀ {ops:List (WF×List Nat)} {g:Nat} {cl:Bool} {fr:WR} {h:WA} {Q:WR->WA->Prop},N0<=h.n->Bd P tab m N0 aP ops g cl fr h Q->
  ∃ af h',Q af h'/\∀ (i:Nat) (ws:List (Nat×Nat)) (rs:List (Nat×Nat×Option (Nat×Nat×List Value))) (bs:List (Nat×Nat)),(∀ e∈ws,m<=e.2)->(cl=true->∀ e∈ws,aP e.2)->(∀ e∈bs,N0<=e.2)->
   ∃ cj,(∀ e∈cj,m<=e.2)/\Ev fun n=>yH P (BI P tab n) ops i g ws rs bs fr h=some (af,h',cj):=by
 intro ops;induction ops with
 |nil=>intro g cl fr h Q _ hx;exact⟨fr,h,hx,fun i ws rs bs hw _ _=>⟨ws,hw,Ev.all fun n=>rfl⟩⟩
 |cons x ops cI=>
  intro g cl fr h Q hn hx;obtain⟨o,un⟩:=x;simp only[Bd]at hx;have go:∀ {g':Nat} {cm:Bool} {bB:WR} {h1:WA},(g'=bif Nat.beq (zI o.op) 3 then g+1 else g)->(cm=true->cl=true/\∀ k∈h1.wr,aP k)->(Ev fun n=>yT P (BI P tab n) g o fr (inC h)=some (bB,h1))->ok7 m N0 aP un cl fr.tm o h h1->Bd P tab m N0 aP ops g' cm bB h1 Q->
    ∃ af h',Q af h'/\∀ (i:Nat) (ws:List (Nat×Nat)) (rs:List (Nat×Nat×Option (Nat×Nat×List Value))) (bs:List (Nat×Nat)),(∀ e∈ws,m<=e.2)->(cl=true->∀ e∈ws,aP e.2)->(∀ e∈bs,N0<=e.2)->
     ∃ cj,(∀ e∈cj,m<=e.2)/\Ev fun n=>yH P (BI P tab n) ((o,un)::ops) i g ws rs bs fr h=some (af,h',cj):=by
   intro g' cm bB h1 hg a7 ev hk hx;obtain⟨af,h',q,run⟩:=cI (QP hn hk.2.1) hx;refine⟨af,h',q,fun i ws rs bs xp sF iU=> ?_⟩;obtain⟨cj,w1,w2⟩:=run (i+1) (h1.wr.map (fun g=>(i,g))++ws) (match zl fr.tm o with
     |some g=>(i,g,zAL fr.tm h o.op)::rs
     |none=>rs) ((i,h.n)::bs) (fun e he=>by
      rcases Qs.1 he with he|he
      ·obtain⟨y,hy,rfl⟩:=Qw.1 he;exact hk.1 y hy
      ·exact xp e he) (fun hc e he=>by
      obtain⟨c1,c2⟩:=a7 hc;rcases Qs.1 he with he|he
      ·obtain⟨y,hy,rfl⟩:=Qw.1 he;exact c2 y hy
      ·exact sF c1 e he) (fun e he=>by
      rcases GG.1 he with rfl|he
      ·exact hn
      ·exact iU e he)
   refine⟨cj,w1,(ev.and w2).mono fun n ⟨e1,e2⟩=> ?_⟩;simp only[yH];have sN:yT P (BI P tab n) g o fr {h with mark:=h.n,wr:=[]}=some (bB,h1):=e1;rw[sN];have a8:=zLR hk sF iU rs;exact(congrArg (fun b:Bool=>bif b then yH P (BI P tab n) ops (i+1) (bif Nat.beq (zI o.op) 3 then g+1 else g) (h1.wr.map (fun g=>(i,g))++ws) (match zl fr.tm o with
     |some g=>(i,g,zAL fr.tm h o.op)::rs
     |none=>rs) ((i,h.n)::bs) bB h1 else none) a8).trans (by rw[cond_true,<-hg];exact e2)
  by_cases hk:Nat.beq (zI o.op) 3=true
  ·rw[QF hk]at hx;obtain⟨rfl,⟨hw,hm,ob,f,aO,cm,a7,hx⟩|⟨hw,hx⟩⟩:=hx;case inr=>
    refine go (g':=g+1) (cm:=cl) (by rw[hk];rfl) (fun h=>⟨h,fun k hk=>(by cases hk)⟩) (Ev.all fun n=> ?_) (h1:=inC h) ⟨fun x hx=>(by cases hx),(show h.n<=h.n from QE _),.inl rfl⟩ hx;unfold yT;simp only[hk,hw,cond_true,QU]
   refine go (g':=g+1) (cm:=cm) (by rw[hk];rfl) (fun h=>⟨(a7 h).1,fun k hk=> ?_⟩) (Ev.all fun n=> ?_) (h1:=(inC h).lay g ob) ⟨fun x hx=> ?_,(show h.n<=h.n from QE _),.inl rfl⟩ hx
   ·rcases yc hk with rfl|hk
    ·exact(a7 h).2
    ·cases hk
   ·unfold yT;simp only[hk,hw,aO,cond_true]
   ·rcases yc hx with rfl|hx
    ·exact hm
    ·cases hx
  ·rw[QC hk]at hx;have bK:Nat.beq (zI o.op) 3=false:=by cases hb:Nat.beq (zI o.op) 3 with
    |false=>rfl
    |true=>exact absurd hb hk
   unfold WO at hx;obtain⟨bB,h1,⟨q1,cm,a7,q2⟩,ev⟩:=hx;refine go (g':=g) (cm:=cm) (by rw[bK];rfl) a7 (ev.mono fun n e=> ?_) q1 q2;unfold yT;simp only[bK,QU];simp only[ZA]at e;cases ha:yU P (BI P tab n) o fr (inC h)with
   |none=>rw[ha]at e;cases e
   |some p=>rw[ha]at e;exact e
theorem XB{ops:List (WF×List Nat)}{fr:WR}{h:WA}{K:WP->WR->WA->Prop}(aP:Nat->Prop)(k:Nat)(hk:zDO ops=k)(aq:ops.isEmpty=false)
  (hx:Bd P tab h.mark (h.n+k) aP ops h.n true fr (inC (zB k h)) (Bt K h)):WX P tab (.regionC ops) fr h K:=by
 subst hk;have fS:Bd P tab h.mark (h.n+zDO ops) aP ops h.n true fr (zB (zDO ops) h) (Bt K h):=by
  cases ops with
  |nil=>cases aq
  |cons x ops=>exact hx
 obtain⟨af,h',q,run⟩:=Bd.run (h:=zB (zDO ops) h) (QE _) fS;obtain⟨cj,w1,w2⟩:=run 0 [] [] [] (fun e he=>by cases he) (fun _ e he=>by cases he) (fun e he=>by cases he);unfold WX;refine⟨.normal,af,_,q,Ev.up (w2.mono fun n e=> ?_)⟩;rw[zx];simp only[zv,Yo];have e':yH P (BI P tab n) ops 0 h.n [] [] [] fr {h with n:=h.n+(ops.filter fun x=>Nat.beq (zI x.1.op) 3).length}=some (af,h',cj):=e;rw[e'];have:((cj.map (·.2)).filter fun g=> !Nat.ble h.mark g)=[]:=by
  rw[List.filter_eq_nil_iff];intro g hg;obtain⟨y,hy,rfl⟩:=Qw.1 hg;have:Nat.ble h.mark y.2=true:=QH (w1 y hy);simp[this]
 simp[this,outC]
theorem UE{m N0:Nat}{aP:Nat->Prop}:∀ {l:List (WF×List Nat)} {g:Nat} {cl:Bool} {fr:WR} {h:WA} {Q:WR->WA->Prop},Wb P tab m N0 l g false fr h Q->Bd P tab m N0 aP l g cl fr h Q:=by
 have key:∀ (l:List (WF×List Nat)) (c1:Bool) (g:Nat) (cl:Bool) (fr:WR) (h:WA) (Q:WR->WA->Prop),c1=false->Wb P tab m N0 l g c1 fr h Q->Bd P tab m N0 aP l g cl fr h Q:=by
  intro l;induction l with
  |nil=>intro c1 g cl fr h Q _ hx;exact hx
  |cons x l ih=>
   intro c1 g cl fr h Q hc hx;obtain⟨o,un⟩:=x;simp only[Wb]at hx;simp only[Bd];split
   ·rename_i hk;rw[QF hk]at hx;obtain⟨hu,⟨hw,hm,ob,f,aO,hx⟩|⟨hw,hx⟩⟩:=hx
    ·exact⟨hu,.inl ⟨hw,hm,ob,f,aO,false,(fun h=>by cases h),ih false _ _ _ _ _ rfl hx⟩⟩
    ·exact⟨hu,.inr ⟨hw,ih c1 _ _ _ _ _ hc hx⟩⟩
   ·rename_i hk;rw[QC hk]at hx;exact hx.mono fun af h' ⟨⟨a,b,c⟩,k⟩=>⟨⟨a,b,c.elim .inl fun c=>by rw[hc]at c;cases c.1⟩,false,(fun h=>by cases h),ih _ _ _ _ _ _ (by rw[hc];rfl) k⟩
 intro l g cl fr h Q hx;exact key l false g cl fr h Q rfl hx
end
section
variable {P:Program}{tab:Wy}{m N0:Nat}{aP:Nat->Prop}{l:List (WF×List Nat)}{o:WF}{un:List Nat}{g:Nat}{cl:Bool}{fr:WR}{h h0 h':WA}{Q:WR->WA->Prop}{K:WP->WR->WA->Prop}{t:WG Value}
def uK7(P:Program)(tab:Wy)(m N0:Nat)(aP:Nat->Prop)(un:List Nat)(t:WG Value)(o:WF)(h:WA)(l:List (WF×List Nat))(g:Nat)(cl:Bool)(Q:WR->WA->Prop):WR->WA->Prop:=
 fun af h'=>ok7 m N0 aP un cl t o h h'/\∃ cm,(cm=true->cl=true/\∀ k∈h'.wr,aP k)/\Bd P tab m N0 aP l g cm af h' Q
theorem Bd.q(hk:Nat.beq (zI o.op) 3=false)(hx:WO P tab [o] fr (inC h) (uK7 P tab m N0 aP un fr.tm o h l g cl Q)):Bd P tab m N0 aP ((o,un)::l) g cl fr (inC h) Q:=by
 simp only[Bd];rw[QC (by rw[hk];exact Bool.noConfusion)];exact hx
theorem zRL(hx:Bd P tab m N0 aP l g cl fr (inC h) Q):uK7 P tab m N0 aP [] t o h l g cl Q fr (inC h):=
 ⟨⟨fun g hg=>(by cases hg),QE _,.inl rfl⟩,cl,fun h=>⟨h,fun k hk=>by cases hk⟩,hx⟩
theorem zRC{d:Option Nat}{agg:Bool}{n k:Nat}{x:Operand}{a:Addr}(hb:¬aP a.block)(hn:a.block<N0)(hx:Bd P tab m N0 aP l g true fr (inC h) Q)(hr:WM t x (yE (.pointer (some a)) k):=by exact zi):uK7 P tab m N0 aP un t ⟨d,none,.load agg n x⟩ h l g true Q fr (inC h):=by
 refine⟨⟨fun g hg=>(by cases hg),QE _,.inr ⟨rfl,rfl,fun g hg=> ?_⟩⟩,true,fun h=>⟨h,fun k hk=>by cases hk⟩,hx⟩;unfold WM yE at hr;simp only[zl,zV,cond_true,hr,QA]at hg;rw[<-hg];exact⟨hb,hn⟩
theorem UW{α:Type}{c b d1 d2:Nat}{R:WA->List Value->α->Prop}{hS:WA}{v w:Value}{xs:List α}{cs zero:List Value}{ds:List Deferred}{rd:Option Nat}(a:α)(Dn:Nat->Prop){x y:Operand}
  (o:OwnR c R b hS v xs) (hm:m<=b) (eF:b<=hS.n) (aW:0<c) (hl:xs.length<=100000) (d:Ba R hS cs a Dn) (hD:∀ k,Dn k->b<=k/\k<hS.n) (hv:∀ g n k,v=.slice (some ⟨g,0,none⟩) n k->¬Dn g) (xC:∀ k,b<=k->aP k)
  (k:∀ X v' lit,X.n=hS.n+2->(∀ k,k<hS.n->(∀ n k',v≠ .slice (some ⟨k,0,none⟩) n k')->X.get k=hS.get k)->OwnR c R b X v' (xs++[a])->zBI hS v'->(Wf hS->Wf X)->Bd P tab m N0 aP l (hS.n+1) true ⟨(t.set d1 lit).set d2 v',ds,rd⟩ (Am.inC X) Q)
  (hx:WM t x w:=by exact zi) (hw:w.cells=cs.toArray:=by rfl) (hc:cs.length=c:=by rfl) (h1:zL cs=true:=by rfl) (hz:zero.length=c:=by rfl) (hy:∀ u,WM (t.set d1 u) y v:=by intro u;exact zi) (aq:l≠[]:=by exact List.cons_ne_nil _ _):
  Bd P tab m N0 aP ((⟨some d1,none,.buildSlice 1 c zero [(0,c,x)]⟩,[])::(⟨some d2,none,.append c y (.tmp d1)⟩,[])::l) hS.n true ⟨t,ds,rd⟩ (Am.inC (zB 1 hS)) Q:=by
 have hx:ev t x=w:=hx;rw[Bd,QF (show Nat.beq (zI (Wx.buildSlice 1 c zero [(0,c,x)])) 3=true from rfl)];refine⟨rfl,.inl ⟨rfl,QP hm eF,.row cs true 0,_,by simp only[yi,zu,Qm,GP,hx,Zz hw hc hz,QJ];rfl,true,fun _=>⟨rfl,xC _ eF⟩,?_⟩⟩;generalize fU:(Am.inC (Am.inC (zB 1 hS))).lay hS.n (.row cs true 0)=H1;have n1:H1.n=hS.n+1:=by rw[<-fU];rfl
 have aH:∀ c',H1.get c'=if c'=hS.n then some (.row cs true 0)else hS.get c':=fun c'=>by rw[<-fU];exact zT _ _ _ _
 have jU:OwnR c R b (Am.inC H1) v xs:=o.upd (fun k _ hk=>by show H1.get k=_;rw[aH,QC (by omega)]) (by show hS.n<=H1.n;omega);have pA:Ba R (Am.inC H1) cs a Dn:=d.mono (fun _ h=>h) (fun k o hd e=>by
  show H1.get k=_;have:=(hD k hd).2;rw[aH,QC (by omega)];exact e) (by show hS.n<=H1.n;omega)
 obtain⟨v',H2,q1,q2,q3,q4,q5,q6,q7,q8,n',k',g',q9,me⟩:=Z0 (H:=Am.inC H1) (gl:=hS.n) jU hc aW h1 hl (by show b<=H1.n;omega) pA (fun k hd=>⟨(hD k hd).1,by have:=(hD k hd).2;show k<H1.n;omega⟩) hv (QE _) (by show hS.n<H1.n;omega) (fun _ _=>rfl) (by show H1.get hS.n=_;rw[aH,QF rfl]);rw[Bd,QC (show ¬Nat.beq (zI (Wx.append c y (.tmp d1))) 3=true from Bool.noConfusion)];have iT:ev (t.set d1 (.slice (some ⟨hS.n,0,none⟩) 1 c)) y=v:=hy _;have e1:ev (t.set d1 (.slice (some ⟨hS.n,0,none⟩) 1 c)) (.tmp d1)=.slice (some ⟨hS.n,0,none⟩) 1 c:=by simp only[ev,zb,Q6]
 refine WO.op v' H2 rfl (by simp only[WN,iT,e1,q1]) ?_;have xu:∀ k∈H2.wr,b<=k:=fun k hk=>by
  rcases q6 k hk with h|h
  ·cases h
  ·exact h
 have Ki:H2.n=hS.n+2:=by rw[q3];show H1.n+1=_;omega
 refine WO.nil ⟨⟨fun k hk=>QP hm (xu k hk),by show H1.n<=H2.n;omega,.inl rfl⟩,true,fun h=>⟨rfl,fun k hk=>xC k (xu k hk)⟩,?_⟩;have fin:=k H2 v' (.slice (some ⟨hS.n,0,none⟩) 1 c) Ki (fun k hk mc=>by
  rw[q4 k (by show k<H1.n;omega) mc];show H1.get k=_;rw[aH,QC (by omega)]) q2 (fun j hj=>by subst q9;cases hj;have h1:H1.n<=g':=me;show hS.n<=g';omega) (fun w=>q8 fun g hg=>by
  have hg:H1.n<=g:=hg;show H1.get g=none;rw[aH,QC (by omega)];exact w g (by omega))
 cases l with
 |nil=>exact absurd rfl aq
 |cons z l=>
  obtain⟨z1,z2⟩:=z;simp only[Bd]at fin |-;exact fin
theorem goW{G' G:Prop}(k:G')(r:Wrap G'->G:=by
  intro fY;first|with_reducible show Bd _ _ _ _ _ (_::_) _ _ _ _ _|refine go ?_
  repeat (first|((apply Bd.q;rfl);refine go ?_)|refine zRL ?_)
  first|with_reducible show Bd _ _ _ _ _ (_::_) _ _ _ _ _|refine go ?_
  exact fY.out):G:=r ⟨k⟩
end
def cutX(id:Nat)(M:WG Value->WA->Prop)(ds:List Deferred)(rd:Option Nat)(K:WP->WR->WA->Prop):WP->WR->WA->Prop
 | .normal,fr,h=>fr.dfs=ds/\fr.round=rd/\M fr.tm h
 | .exit i,fr,h=>if i=id then fr.dfs=ds/\fr.round=rd/\M fr.tm h else K (.exit i) fr h
 | .goto l,fr,h=>K (.goto l) fr h
 | .ret,fr,h=>K .ret fr h
section
variable {P:Program}{tab:Wy}{t:WG Value}{ds:List Deferred}{rd:Option Nat}
theorem zF2{id:Nat}{M:WG Value->WA->Prop}{K:WP->WR->WA->Prop}{h:WA}(hx:M t h):cutX id M ds rd K (.exit id) ⟨t,ds,rd⟩ h:=by
 show if id=id then ds=ds/\rd=rd/\M t h else K (.exit id) ⟨t,ds,rd⟩ h;rw[QF rfl];exact⟨rfl,rfl,hx⟩
theorem WX.cutX{c:WY}{h:WA}{id:Nat}{K:WP->WR->WA->Prop}{ws:List Nat}(M:WG Value->WA->Prop)(h1:WX P tab c ⟨t,ds,rd⟩ h (Am.cutX id M ds rd (YE id K)))(h2:∀ t' h',zCB ws t t'->M t' h'->YE id K .normal ⟨t',ds,rd⟩ h')(hw:yJ c=ws:=by conv=>(lhs;reduce)):WX P tab c ⟨t,ds,rd⟩ h (YE id K):=
 (WX.frame h1).mono fun e fr h ⟨hf,hx⟩=>by
  have hs:zCB ws t fr.tm:=fun j hj=>hf j (by rw[hw];intro hc;have:=ZJ hj;simp[hc]at this);obtain⟨t',eS,xo⟩:=fr;cases e with
  |normal=>
   have hx:eS=ds/\xo=rd/\M t' h:=hx;obtain⟨e1,e2,e3⟩:=hx;subst e1 e2;exact h2 _ _ hs e3
  |exit i=>
   have hx:if i=id then eS=ds/\xo=rd/\M t' h else YE id K (.exit i) ⟨t',eS,xo⟩ h:=hx;split at hx
   ·rename_i hi;obtain⟨e1,e2,e3⟩:=hx;subst e1 e2;have h3:=h2 _ _ hs e3;unfold YE at h3 |-;simp only[hi,Q6];exact h3
   ·exact hx
  |goto i=>exact hx
  |ret=>exact hx
end
section
variable {P:Program}{tab:Wy}{t:WG Value}{ds:List Deferred}{rd:Option Nat}{m g:Nat}{aP:Nat->Prop}{un:List Nat}{l:List (WF×List Nat)}{Q:WR->WA->Prop}{K:WP->WR->WA->Prop}
section
variable {hS X:WA}{q off n:Nat}{row cs:List Value}{x y:Operand}{u:Value}
end
end
theorem zLd{cells cs:List Value}{n i c:Nat}(hl:cells.length=n*c)(hi:i<n):(((cells++cs).drop (i*c)).take c)=(cells.drop (i*c)).take c:=by
 have h1:i*c+c<=n*c:=by rw[<-G8];exact GK _ hi
 rw[List.drop_append_of_le_length (by omega),List.take_append_of_le_length (by rw[List.length_drop];omega)]
section
variable {P:Program}{tab:Wy}{t:WG Value}{h:WA}{ds:List Deferred}{rd:Option Nat}{l:List WF}{Q:WR->WA->Prop}
theorem Xi{α:Type}{c b b2 d:Nat}{R:WA->List Value->α->Prop}{hB:WA}{x y:Operand}{v w:Value}{xs ys:List α}(o:OwnR c R b h v xs)(s:OwnR c R b2 h w ys)(hv:∀ g n q,v=.slice (some ⟨g,0,none⟩) n q->g<b2)(aI:b<=b2)(hc:0<c)(a9:∀ cs a,R h cs a->zL cs=true)
  (e0:Ext hB h) (hb:hB.n<=b) (eF:b<=h.n) (hl:xs.length+ys.length<=1000000)
  (k:∀ v' h',Ext hB h'->OwnR c R b h' v' (xs++ys)->(∀ j,j<h.n->(∀ n q,v≠ .slice (some ⟨j,0,none⟩) n q)->h'.get j=h.get j)->h.n<=h'.n->(∀ k∈h'.wr,k∈h.wr\/b<=k)->(∀ g,Bm v'=some g->Bm v=some g\/h.n<=g)->WO P tab l ⟨t.set d v',ds,rd⟩ h' Q)
  (hx:WM t x v:=by exact zi) (hy:WM t y w:=by exact zi):
  WO P tab (⟨some d,none,.append c x y⟩::l) ⟨t,ds,rd⟩ h Q:=by
 have hx:ev t x=v:=hx;have hy:ev t y=w:=hy;have a6:room=4294967296:=rfl;by_cases xD:ys.length=0
 ·have vz:ys=[]:=G7 xD;subst vz;have aT:yg c h w=some []:=by
   rcases s with⟨rfl,_⟩|⟨g,_,_,_,_,rfl,_⟩
   ·rfl
   ·rfl
  have CG:∃ a n k,v=.slice a n k/\(a=none->n=0/\k=0):=by
   rcases o with⟨rfl,_⟩|⟨g,_,_,_,_,rfl,_⟩
   ·exact⟨_,_,_,rfl,fun _=>⟨rfl,rfl⟩⟩
   ·exact⟨_,_,_,rfl,fun h=>by cases h⟩
  refine WO.op v h rfl ?_ (k v h e0 (by rw[GY];exact o) (fun _ _ _=>rfl) (QE _) (fun _ h=> .inl h) (fun _ h=> .inl h));obtain⟨a,n,kk,rfl,ha⟩:=CG;cases a with
  |none=>obtain⟨rfl,rfl⟩:=ha rfl;simp only[WN,hx,hy,yb,aT]
  |some a=>simp only[WN,hx,hy,yb,aT]
 obtain⟨g,cells,D,s1,s2,rfl,s4,s5,s6,s7,s8⟩:=s.resolve_left (fun q=>xD (by rw[q.2];rfl));have iV:Nat.beq ys.length 0=false:=by cases hb:Nat.beq ys.length 0 with
  |false=>rfl
  |true=>exact absurd (QO hb) xD
 have bX:cut cells 0 (ys.length*c)=some cells:=by rw[ZD (by omega)];simp[<-s5]
 have aT:yg c h (.slice (some ⟨g,0,none⟩) ys.length c)=some cells:=by
  simp only[yg,iV,GR,Qp,Qv,cond_true,QU,Za s4,bX]
 have h1:zL cells=true:=zPJ hc s5 fun i hi=>a9 _ _ (s8 i _ (QB hi)).self;obtain⟨z,zs,hz⟩:∃ z zs,cells=z::zs:=by
  cases a7:cells with
  |nil=>exfalso;rw[a7,G9]at s5;have:0<ys.length*c:=Nat.mul_pos (by omega) hc;omega
  |cons z zs=>exact⟨z,zs,rfl⟩
 have hdiv:(z::zs).length / c=ys.length:=by rw[<-hz,s5];exact Nat.mul_div_cancel _ hc
 rw[hz]at aT h1 s5;have fZ:Nat.beq c 0=false:=by cases hz:Nat.beq c 0 with
  |false=>rfl
  |true=>have:=QO hz;omega
 rcases o with⟨rfl,rfl⟩|⟨g0,zA6,D0,g1,g2,rfl,g4,g5,g6,g7,g8⟩
 ·have cZ:Nat.ble ys.length room=true:=QH (by simp at hl;omega);refine WO.op (.slice (some ⟨h.n,0,none⟩) ys.length c) (h.push (.row (z::zs) true 0)) rfl ?_ (k _ _ (e0.push _) (.inr ⟨h.n,z::zs,D,eF,Q4 _,rfl,zX _ _,s5,fun hd=>by have:=(s7 _ hd).2;omega,fun j hd=>⟨QP aI (s7 j hd).1,by have:=(s7 j hd).2;exact Nat.lt_succ_of_lt this⟩,fun i a ha=> ?_⟩) (fun j hj _=>by rw[zS,QC (by omega)]) (Qr _) (fun _ h=> .inl h) (fun g hg=>by cases hg;exact .inr (QE _)))
  ·simp only[WN,hx,hy,yb,aT,h1,QW,QU,hdiv,cZ,cond_true];rfl
  ·rw[<-hz];exact(s8 i a (by simpa using ha)).mono (fun _ h=>h) (fun j o hd e=>by rw[zS,QC (by have:=(s7 j hd).2;omega)];exact e) (Qr _)
 ·have cZ:Nat.ble (xs.length+ys.length) room=true:=QH (by omega);have h2:cut zA6 0 (xs.length*c)=some zA6:=by rw[ZD (by omega)];simp[<-g5]
  have h3:Nat.ble 0 (0+xs.length*c)=true:=QH (QK _);have xw:(h.kill g0).n=h.n:=rfl;have hg0:=hv g0 _ _ rfl;have EU:∀ j,j<h.n->j≠g0->((h.kill g0).push (.row (zA6++z::zs) true (0-0))).get j=h.get j:=fun j hj aq=>by
   rw[zS,QC (by rw[xw];omega),yt,QC (fun e=>aq (by omega))]
  refine WO.op (.slice (some ⟨h.n,0,none⟩) (xs.length+ys.length) c) ((h.kill g0).push (.row (zA6++z::zs) true (0-0))) rfl ?_ (k _ _ ((e0.kill (QP hb g1)).push _) (.inr ⟨h.n,zA6++z::zs,fun j=>D0 j\/D j,eF,Q4 _,by rw[QM],zX (h.kill g0) _,by rw[QM,QM,g5,s5,Gv],fun hd=> ?_,fun j hd=> ?_,fun i a ha=> ?_⟩) (fun j hj aq=>EU j hj fun e=>aq xs.length c (by rw[e])) (Qr _) (fun k hk=>by
   have aS:k∈h.log g0:=hk;rcases yc aS with rfl|h
   ·exact .inr g1
   ·exact .inl h) (fun g hg=>by cases hg;exact .inr (QE _)))
  ·simp only[WN,hx,hy,yb,aT,h1,QW,QU,hdiv,cZ,fZ,GR,g4,h2,h3,cond_true,Qp,Qv]
  ·rcases hd with hd|hd
   ·have:=(g7 _ hd).2;omega
   ·have:=(s7 _ hd).2;omega
  ·rcases hd with hd|hd
   ·exact⟨(g7 j hd).1,Nat.lt_succ_of_lt (g7 j hd).2⟩
   ·exact⟨QP aI (s7 j hd).1,Nat.lt_succ_of_lt (s7 j hd).2⟩
  ·by_cases hi:i<xs.length
   ·rw[zLd g5 hi];rw[Qy hi]at ha;exact(g8 i a ha).mono (fun _ h=> .inl h) (fun j o hd e=>by rw[EU j (g7 j hd).2 (fun e=>g6 (by rw[<-e];exact hd))];exact e) (Qr _)
   ·rw[GD (by omega)]at ha;have e:((zA6++z::zs).drop (i*c)).take c=(cells.drop ((i-xs.length)*c)).take c:=by
     rw[hz,List.drop_append,List.drop_of_length_le (l:=zA6) (by rw[g5];exact GK _ (by omega)),GJ,g5,<-Nat.sub_mul]
    rw[e];exact(s8 _ a ha).mono (fun _ h=> .inr h) (fun j o hd e=>by rw[EU j (s7 j hd).2 (by have:=(s7 j hd).1;omega)];exact e) (Qr _)
theorem UV{α:Type}{c b d1 d2:Nat}{R:WA->List Value->α->Prop}{hB:WA}{v w:Value}{xs:List α}{cs zero:List Value}(a:α)(Dn:Nat->Prop){x y:Operand}(o:OwnR c R b h v xs)(e0:Ext hB h)(hb:hB.n<=b)(eF:b<=h.n)(aW:0<c)(hl:xs.length<=100000)
  (d:Ba R h cs a Dn) (hD:∀ k,Dn k->b<=k/\k<h.n) (hv:∀ g n k,v=.slice (some ⟨g,0,none⟩) n k->¬Dn g)
  (k:∀ v' h' lit,Ext hB h'->OwnR c R b h' v' (xs++[a])->h.n<=h'.n->(∀ k,k<h.n->(∀ n k',v≠ .slice (some ⟨k,0,none⟩) n k')->h'.get k=h.get k)->(∀ g n k,v'=.slice (some ⟨g,0,none⟩) n k->h.n<=g)->WO P tab l ⟨(t.set d1 lit).set d2 v',ds,rd⟩ h' Q)
  (hx:WM t x w:=by exact zi) (hw:w.cells=cs.toArray:=by rfl) (hc:cs.length=c:=by rfl) (h1:zL cs=true:=by rfl) (hz:zero.length=c:=by rfl) (hy:∀ u,WM (t.set d1 u) y v:=by intro u;exact zi):
  WO P tab (⟨some d1,none,.buildSlice 1 c zero [(0,c,x)]⟩::⟨some d2,none,.append c y (.tmp d1)⟩::l) ⟨t,ds,rd⟩ h Q:=by
 have hx:ev t x=w:=hx;refine WO.op (.slice (some ⟨h.n,0,none⟩) 1 c) (h.push (.row cs true 0)) rfl (by
  simp only[WN,zu,Qm,GP,hx,Zz hw hc hz,QJ];rfl) ?_
 obtain⟨v',H',q1,q2,q3,q4,q5,q6,q7,q8,q9⟩:=Z0 (H:=h.push (.row cs true 0)) (gl:=h.n) o hc aW h1 hl eF d hD hv (Qr _) (Q4 _) (fun k hk=>by rw[zS,QC (by omega)]) (zX _ _);have iT:ev (t.set d1 (.slice (some ⟨h.n,0,none⟩) 1 c)) y=v:=hy _;have e1:ev (t.set d1 (.slice (some ⟨h.n,0,none⟩) 1 c)) (.tmp d1)=.slice (some ⟨h.n,0,none⟩) 1 c:=by simp only[ev,zb,Q6]
 refine WO.op v' H' rfl (by simp only[WN,iT,e1,q1]) (k v' H' _ ?_ q2 (by rw[q3];show h.n<=h.n+1+1;omega) (fun k hk mc=> ?_) (fun g n k e=>by obtain⟨_,_,_,q9,me⟩:=q9;rw[q9]at e;cases e;exact QP (Qr _) me))
 ·have sV:∀ k,k<hB.n->∀ n k',v≠ .slice (some ⟨k,0,none⟩) n k':=fun k hk n k' e=>by
   rcases o with⟨e2,_⟩|⟨g,_,_,g1,_,e2,_⟩
   ·rw[e2]at e;cases e
   ·rw[e2]at e;cases e;omega
  refine⟨by rw[q3];show hB.n<=h.n+1+1;have:=e0.n;omega,fun k hk=> ?_,fun w=>q8 ?_,q5.trans e0.mark,fun hm=> ?_⟩
  ·have:=e0.n;rw[q4 k (by show k<h.n+1;omega) (sV k hk),zS,QC (by omega)];exact e0.get k hk
  ·intro k hk;have hk:h.n+1<=k:=hk;rw[zS,QC (by omega)];exact e0.wf w k (by omega)
  ·rw[q7 (by show h.mark<=b;rw[e0.mark];omega)];exact e0.wr hm
 ·rw[q4 k (by show k<h.n+1;omega) mc,zS,QC (by omega)]
end
section
variable {P:Program}{tab:Wy}{t:WG Value}{ds:List Deferred}{rd:Option Nat}{l:List (WF×List Nat)}{Q:WR->WA->Prop}{α:Type}{c b d1 d2 m N0:Nat}{cl:Bool}{R:WA->List Value->α->Prop}{hB hS X:WA}{v w:Value}{xs ys:List α}{cs zero:List Value}{x y:Operand}
theorem V5(a:α)(Dn:Nat->Prop)(eX:Ext (Am.inC (zB 1 hS)) X)(hm:hS.mark<=hS.n)(aW:0<c)(d:Ba R X cs a Dn)(hD:∀ k,Dn k->hS.n<k/\k<X.n)
  (k:∀ Y,Ext hS (outC hS Y)->OwnR c R hS.n (outC hS Y) (.slice (some ⟨hS.n,0,none⟩) 1 c) [a]->Wb P tab m N0 l (hS.n+1) false ⟨t.set d1 (.slice (some ⟨hS.n,0,none⟩) 1 c),ds,rd⟩ (Am.inC Y) Q)
  (hx:WM t x w:=by exact zi) (hw:w.cells=cs.toArray:=by rfl) (hc:cs.length=c:=by rfl) (hz:zero.length=c:=by rfl) (eo:m=hS.mark:=by rfl) (aq:l≠[]:=by exact List.cons_ne_nil _ _):
  Wb P tab m N0 ((⟨some d1,none,.buildSlice 1 c zero [(0,c,x)]⟩,[])::l) hS.n cl ⟨t,ds,rd⟩ (Am.inC X) Q:=by
 subst eo;have hx:ev t x=w:=hx;have nP:hS.n+1<=X.n:=eX.n;refine Wb.mk (ob:= .row cs true 0) (f:=fun g=> .slice (some ⟨g,0,none⟩) 1 c) hm (by simp only[yi,zu,Qm,GP,hx,Zz hw hc hz,QJ]) ?_ rfl;generalize fU:(Am.inC X).lay hS.n (.row cs true 0)=H1;have n1:H1.n=X.n:=by rw[<-fU];rfl
 have aH:∀ c',H1.get c'=if c'=hS.n then some (.row cs true 0)else X.get c':=fun c'=>by rw[<-fU];exact zT _ _ _ _
 have fin:=k H1 ⟨by show hS.n<=H1.n;omega,fun k hk=>by
   show H1.get k=_;rw[aH,QC (by omega)];exact eX.get k (by show k<hS.n+1;omega),fun w k hk=>by
   have hk:H1.n<=k:=hk;show H1.get k=_;rw[aH,QC (by omega)];exact eX.wf (fun k3 cg=>w k3 (by have:hS.n+1<=k3:=cg;omega)) k (by omega),rfl,fun _=>rfl⟩
  (.inr ⟨hS.n,cs,Dn,QE _,by show hS.n<H1.n;omega,rfl,by show H1.get hS.n=_;rw[aH,QF rfl],by rw[hc];simp,fun hd=>by have:=(hD _ hd).1;omega,fun k hd=>⟨by have:=(hD k hd).1;omega,by have:=(hD k hd).2;show k<H1.n;omega⟩,fun i a' ha=>by
   have hi:i=0:=by have:=(QR.1 ha).1;simp at this;omega
   subst hi;simp at ha;subst ha;rw[Nat.zero_mul,Q2,Q7 (by omega)];exact d.mono (fun _ h=>h) (fun k o hd e=>by
    show H1.get k=_;have:=(hD k hd).1;rw[aH,QC (by omega)];exact e) (by show X.n<=H1.n;omega)⟩)
 cases l with
 |nil=>exact absurd rfl aq
 |cons z l=>
  obtain⟨z1,z2⟩:=z;simp only[Wb]at fin |-;exact fin
theorem XM{b2:Nat}{z:WF×List Nat}(eX:Ext (Am.inC (zB 0 hS)) X)(o:OwnR c R b hS v xs)(s:OwnR c R b2 X w ys)(aI:hS.n<=b2)(aW:0<c)(a9:∀ h cs a,R h cs a->zL cs=true)(e0:Ext hB hS)(hm:hS.mark<=hB.n)(hb:hB.n<=b)(eF:b<=hS.n)(hl:xs.length+ys.length<=1000000)
  (k:∀ Y v' cm,Ext hB (outC hS Y)->OwnR c R b (outC hS Y) v' (xs++ys)->UpB v hS (outC hS Y)->(∀ g,Bm v'=some g->Bm v=some g\/hS.n<=g)->Wb P tab m N0 (z::l) hS.n cm ⟨t.set d2 v',ds,rd⟩ (Am.inC Y) Q)
  (hx:WM t x v:=by exact zi) (hy:WM t y w:=by exact zi) (eo:m=hS.mark:=by rfl):
  Wb P tab m N0 ((⟨some d2,none,.append c x y⟩,[])::z::l) hS.n cl ⟨t,ds,rd⟩ (Am.inC X) Q:=by
 subst eo;have nP:hS.n<=X.n:=eX.n;have kz:=e0.n;have oX:OwnR c R b (Am.inC (Am.inC X)) v xs:=o.upd (fun k _ hk=>eX.get k hk) nP;have sX:OwnR c R b2 (Am.inC (Am.inC X)) w ys:=s.upd (fun _ _ _=>rfl) (QE _);rw[Wb,QC (show ¬Nat.beq (zI (Wx.append c x y)) 3=true from Bool.noConfusion)];have E1:Ext {hB with mark:=X.n,wr:=[]} (Am.inC (Am.inC X)):=⟨by show hB.n<=X.n;omega,fun g hg=>(eX.get g (QI hg kz)).trans (e0.get g hg),fun w g hg=>by
  have hg:X.n<=g:=hg;exact eX.wf (fun q hq=>e0.wf w q hq) g hg,rfl,fun _=>rfl⟩
 refine Xi (hB:={hB with mark:=X.n,wr:=[]}) (R:=R) oX sX (fun g n q e=> ?_) (QP eF aI) aW (a9 _) E1 hb (by show b<=X.n;omega) hl (fun v' H e1 o1 k1 n1 w1 z1=> ?_) hx hy
 ·rcases o with⟨e2,_⟩|⟨g',_,_,_,g2,e2,_⟩
  ·rw[e2]at e;cases e
  ·rw[e2]at e;cases e;omega
 refine WO.nil ⟨⟨fun c' bM=> ?_,n1,.inl rfl⟩,?_⟩
 ·rcases w1 c' bM with h|h
  ·cases h
  ·omega
 exact Wb.inC (k H v' _ ⟨e1.n,e1.get,e1.wf,e0.mark,fun cT=>e0.wr cT⟩ (o1.upd (fun _ _ _=>rfl) (QE _)) ⟨QP nP n1,fun g hg hv=>(k1 g (QI hg nP) (fun n q e=>hv (by rw[e];rfl))).trans (eX.get g hg)⟩ (fun g hg=>(z1 g hg).imp id fun h=>QP nP h))
end
end Go.Am
