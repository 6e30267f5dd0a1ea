/- A part of the machine and of its soundness; proves no statement. -/
import Derived.Test.YtmilpkdhbdgjfaaGreatDoorAmU
set_option linter.all false
namespace Go.Am
section
variable {P:Program}{tab:Wv}
def W8(P:Program)(tab:Wv)(m:Nat)(Bad:Nat->Prop):List (WG×List Nat)->Nat->WR->WF->(WR->WF->Prop)->Prop
 |[],_,fr,h,Q=>Q fr h
 |(o,un)::l,g,fr,h,Q=>
  if Nat.beq (zG o.op) 3=true then
   un=[]/\zW fr.tm o.guard=true/\m<=g/\zi fr.tm o=none/\∃ ob f,yg fr.tm o.op=some (ob,f)/\W8 P tab m Bad l (g+1) (val o.dst fr (f g)) ((inC h).lay g ob) Q
  else WO P tab [o] fr (inC h) fun fr' h'=>(∀ g∈h'.wr,m<=g)/\(un=[]\/(zi fr.tm o=none/\∀ g∈h'.wr,Bad g))/\(∀ g,zi fr.tm o=some g->¬Bad g)/\W8 P tab m Bad l g fr' h' Q
theorem zLO{Bad:Nat->Prop}{un:List Nat}{t:WI Value}{o:WG}{h':WF}(hk:un=[]\/(zi t o=none/\∀ g∈h'.wr,Bad g))(ws:List (Nat×Nat))(bs:List (Nat×Nat)){rs:List (Nat×Nat×Option (Nat×Nat×List Value))}(hr:∀ e∈rs,¬Bad e.2.1):
  ((match zi t o with
   |some g=>(ws.all fun x=> !(Nat.beq g x.2&&un.contains x.1))&&bs.all fun x=> !un.contains x.1||Nat.ble (g+1) x.2
   |none=>true)&&rs.all fun x=> !(un.contains x.1&&h'.wr.contains x.2.1)||zDC h' x.2.1 x.2.2)=true:=by
 rcases hk with rfl|⟨h1,h2⟩
 ·exact zNJ o ws rs bs t h'
 ·rw[h1];simp only[Qb];rw[QV];intro x hx;have:h'.wr.contains x.2.1=false:=by
   cases hc:h'.wr.contains x.2.1 with
   |false=>rfl
   |true=>exact absurd (h2 _ (List.contains_iff_mem.1 hc)) (hr x hx)
  rw[this,Qi];rfl
theorem W8.run{m:Nat}{Bad:Nat->Prop}:∀ {ops:List (WG×List Nat)} {g:Nat} {fr:WR} {h:WF} {Q:WR->WF->Prop},W8 P tab m Bad ops g fr h Q->
  ∃ fr' h',Q fr' h'/\∀ (i:Nat) (ws:List (Nat×Nat)) (rs:List (Nat×Nat×Option (Nat×Nat×List Value))) (bs:List (Nat×Nat)),(∀ e∈ws,m<=e.2)->(∀ e∈rs,¬Bad e.2.1)->
   ∃ ws',(∀ e∈ws',m<=e.2)/\Ev fun n=>yF P (BI P tab n) ops i g ws rs bs fr h=some (fr',h',ws'):=by
 intro ops;induction ops with
 |nil=>intro g fr h Q hx;exact⟨fr,h,hx,fun i ws rs bs hw _=>⟨ws,hw,Ev.all fun n=>rfl⟩⟩
 |cons x ops ihl=>
  intro g fr h Q hx;obtain⟨o,un⟩:=x;simp only[W8]at hx;have go:∀ {g':Nat} {fr1:WR} {h1:WF},(g'=bif Nat.beq (zG o.op) 3 then g+1 else g)->(Ev fun n=>yB P (BI P tab n) g o fr (inC h)=some (fr1,h1))->(∀ x∈h1.wr,m<=x)->(un=[]\/(zi fr.tm o=none/\∀ g∈h1.wr,Bad g))->(∀ g,zi fr.tm o=some g->¬Bad g)->W8 P tab m Bad ops g' fr1 h1 Q->
    ∃ fr' h',Q fr' h'/\∀ (i:Nat) (ws:List (Nat×Nat)) (rs:List (Nat×Nat×Option (Nat×Nat×List Value))) (bs:List (Nat×Nat)),(∀ e∈ws,m<=e.2)->(∀ e∈rs,¬Bad e.2.1)->
     ∃ ws',(∀ e∈ws',m<=e.2)/\Ev fun n=>yF P (BI P tab n) ((o,un)::ops) i g ws rs bs fr h=some (fr',h',ws'):=by
   intro g' fr1 h1 hg ev hw hk hb hx;obtain⟨fr',h',q,run⟩:=ihl hx;refine⟨fr',h',q,fun i ws rs bs hws hrs=> ?_⟩;obtain⟨ws',w1,w2⟩:=run (i+1) (h1.wr.map (fun g=>(i,g))++ws) (match zi fr.tm o with
     |some g=>(i,g,Yw fr.tm h o.op)::rs
     |none=>rs) ((i,h.n)::bs) (fun e he=>by
      rcases Qy.1 he with he|he
      ·obtain⟨y,hy,rfl⟩:=GQ.1 he;exact hw y hy
      ·exact hws e he) (fun e he=>by
      cases hr:zi fr.tm o with
      |none=>rw[hr]at he;exact hrs e he
      |some k=>
       rw[hr]at he;rcases GI.1 he with rfl|he
       ·exact hb k hr
       ·exact hrs e he)
   refine⟨ws',w1,(ev.and w2).mono fun n ⟨e1,e2⟩=> ?_⟩;simp only[yF];have e1':yB P (BI P tab n) g o fr {h with mark:=h.n,wr:=[]}=some (fr1,h1):=e1;rw[e1'];have hok:=zLO hk ws bs hrs;exact(congrArg (fun b:Bool=>bif b then yF P (BI P tab n) ops (i+1) (bif Nat.beq (zG o.op) 3 then g+1 else g) (h1.wr.map (fun g=>(i,g))++ws) (match zi fr.tm o with
     |some g=>(i,g,Yw fr.tm h o.op)::rs
     |none=>rs) ((i,h.n)::bs) fr1 h1 else none) hok).trans (by rw[cond_true,<-hg];exact e2)
  by_cases hk:Nat.beq (zG o.op) 3=true
  ·rw[QG hk]at hx;obtain⟨rfl,hw,hm,hr,ob,f,hmade,hx⟩:=hx;refine go (g':=g+1) (by rw[hk];rfl) (Ev.all fun n=> ?_) (h1:=(inC h).lay g ob) (fun x hx=> ?_) (.inl rfl) (fun k hk2=>by rw[hr]at hk2;cases hk2) hx
   ·unfold yB;simp only[hk,hw,hmade,cond_true]
   ·rcases yw hx with rfl|hx
    ·exact hm
    ·cases hx
  ·rw[QC hk]at hx;have hk':Nat.beq (zG o.op) 3=false:=by cases hb:Nat.beq (zG o.op) 3 with
    |false=>rfl
    |true=>exact absurd hb hk
   unfold WO at hx;obtain⟨fr1,h1,⟨q1,q2,q3,q4⟩,ev⟩:=hx;refine go (g':=g) (by rw[hk'];rfl) (ev.mono fun n e=> ?_) q1 q2 q3 q4;unfold yB;simp only[hk',QR];simp only[yT]at e;cases ha:yD P (BI P tab n) o fr (inC h)with
   |none=>rw[ha]at e;cases e
   |some p=>rw[ha]at e;exact e
theorem VX{ops:List (WG×List Nat)}{fr:WR}{h:WF}{K:WP->WR->WF->Prop}(Bad:Nat->Prop)(k:Nat)(hk:zFk ops=k)(hne:ops.isEmpty=false)
  (hx:W8 P tab h.mark Bad ops h.n fr (inC (zB k h)) (B5 K h)):WX P tab (.regionC ops) fr h K:=by
 subst hk;have hx':W8 P tab h.mark Bad ops h.n fr (zB (zFk ops) h) (B5 K h):=by
  cases ops with
  |nil=>cases hne
  |cons x ops=>exact hx
 obtain⟨fr',h',q,run⟩:=W8.run (h:=zB (zFk ops) h) hx';obtain⟨ws',w1,w2⟩:=run 0 [] [] [] (fun e he=>by cases he) (fun e he=>by cases he);unfold WX;refine⟨.normal,fr',_,q,Ev.up (w2.mono fun n e=> ?_)⟩;rw[zo];simp only[zh,YN];have e':yF P (BI P tab n) ops 0 h.n [] [] [] fr {h with n:=h.n+(ops.filter fun x=>Nat.beq (zG x.1.op) 3).length}=some (fr',h',ws'):=e;rw[e'];have:((ws'.map (·.2)).filter fun g=> !Nat.ble h.mark g)=[]:=by
  rw[List.filter_eq_nil_iff];intro g hg;obtain⟨y,hy,rfl⟩:=GQ.1 hg;have:Nat.ble h.mark y.2=true:=QF (w1 y hy);simp[this]
 simp[this,zq]
end
section
variable {P:Program}{tab:Wv}{m:Nat}{Bad:Nat->Prop}{l:List (WG×List Nat)}{o:WG}{un:List Nat}{g:Nat}{fr:WR}{h h0 h':WF}{Q:WR->WF->Prop}{K:WP->WR->WF->Prop}{t:WI Value}
def uK6(P:Program)(tab:Wv)(m:Nat)(Bad:Nat->Prop)(un:List Nat)(t:WI Value)(o:WG)(l:List (WG×List Nat))(g:Nat)(Q:WR->WF->Prop):WR->WF->Prop:=
 fun fr' h'=>(∀ g∈h'.wr,m<=g)/\(un=[]\/(zi t o=none/\∀ g∈h'.wr,Bad g))/\(∀ g,zi t o=some g->¬Bad g)/\W8 P tab m Bad l g fr' h' Q
theorem W8.q(hk:Nat.beq (zG o.op) 3=false)(hx:WO P tab [o] fr (inC h) (uK6 P tab m Bad un fr.tm o l g Q)):W8 P tab m Bad ((o,un)::l) g fr (inC h) Q:=by
 simp only[W8];rw[QC (by rw[hk];exact Bool.noConfusion)];exact hx
theorem zQc(hr:zi t o=none)(hx:W8 P tab m Bad l g fr (inC h) Q):uK6 P tab m Bad [] t o l g Q fr (inC h):=
 ⟨fun g hg=>(by cases hg),.inl rfl,fun g hg=>(by rw[hr]at hg;cases hg),hx⟩
theorem zJ7{d:Option Nat}{agg:Bool}{n k:Nat}{x:Operand}{a:Addr}(hr:WQ t x (zw (.pointer (some a)) k))(hb:¬Bad a.block)(hx:W8 P tab m Bad l g fr (inC h) Q):uK6 P tab m Bad [] t ⟨d,none,.load agg n x⟩ l g Q fr (inC h):=by
 refine⟨fun g hg=>(by cases hg),.inl rfl,fun g hg=> ?_,hx⟩;unfold WQ zw at hr;simp only[zi,zW,cond_true,hr,QA]at hg;rw[<-hg];exact hb
theorem W8.mk{d:Nat}{op:W4}{ob:Wm}{f:Nat->Value}(hk:Nat.beq (zG op) 3=true)(hm:m<=g)(hmade:yg t op=some (ob,f)){ds:List Deferred}{rd:Option Nat}(hx:W8 P tab m Bad l (g+1) ⟨t.set d (f g),ds,rd⟩ ((inC h).lay g ob) Q):W8 P tab m Bad ((⟨some d,none,op⟩,[])::l) g ⟨t,ds,rd⟩ (inC h) Q:=by
 simp only[W8];rw[QG hk];refine⟨by trivial,rfl,hm,?_,ob,f,hmade,hx⟩;cases op<;>first|rfl|cases hk
end
structure AR(hB h:WF)(p:Value)(cells:List Value)(n:Nat)(A:Nat->List Int):Prop where
 own:WH hB h p cells
 len:cells.length=n
 all:∀ j,j<n->Wb hB h (cells.getD j undef) (A j)
 apart:∀ i j g a b c d,i<n->j<n->i≠j->cells.getD i undef=.slice (some ⟨g,0,none⟩) a b->cells.getD j undef=.slice (some ⟨g,0,none⟩) c d->False
theorem AR.ext{hB h h':WF}{p:Value}{cells:List Value}{n:Nat}{A:Nat->List Int}(r:AR hB h p cells n A)(e:WK h h'):AR hB h' p cells n A:=
 ⟨r.own.ext e,r.len,fun j hj=>(r.all j hj).ext e,r.apart⟩
theorem AR.off{hB h:WF}{p:Value}{cells:List Value}{n:Nat}{A:Nat->List Int}(r:AR hB h p cells n A){j:Nat}(hj:j<n){g gp a b:Nat}(hp:p=.pointer (some ⟨gp,0,none⟩))(hv:cells.getD j undef=.slice (some ⟨g,0,none⟩) a b):g≠gp:=by
 intro e;subst e;obtain⟨q,_,_,hq,hg⟩:=r.own;rw[hp]at hq;cases hq;rcases r.all j hj with⟨h1,_⟩|⟨q2,_,_,h2,h3⟩
 ·rw[h1]at hv;cases hv
 ·rw[h2]at hv;cases hv;rw[hg]at h3;have he:cells=(A j).map I:=by simpa using h3
  have:=congrArg (fun l=>l.getD j undef) he;simp only[h2]at this;have hlen:j<((A j).map I).length:=by rw[<-he,r.len];exact hj
  rw[QL,QB hlen]at this;simp at this
section
variable {P:Program}{tab:Wv}{t:WI Value}{ds:List Deferred}{rd:Option Nat}
theorem zFY{l:List Value}{i j:Nat}{v d:Value}(hi:i<l.length):(l.set i v).getD j d=if j=i then v else l.getD j d:=by
 simp only[QL,List.getElem?_set];by_cases h:i=j
 ·subst h;simp[hi]
 ·rw[QC h,QC (fun e=>h e.symm)]
theorem zKa{l:List Value}{i:Nat}{v:Value}(hi:i<l.length):zO l i [v]=l.set i v:=by
 unfold zO;rw[QZ,List.set_eq_take_append_cons_drop,QG hi];simp
theorem zNH{cells:List Value}{i:Nat}(hi:i<cells.length):(cut cells i 1).bind (zI false)=some (cells.getD i undef):=by
 have h1:cells.drop i=cells[i]::cells.drop (i+1):=GK hi;have h2:cells.getD i undef=cells[i]:=by simp[List.getD,QB hi]
 have hc:cut cells i 1=some [cells[i]]:=(yt (by omega)).trans (by rw[h1];rfl);rw[hc,h2];rfl
theorem zGS(a n k):(Value.slice a n k).cells=#[.slice a n k]:=rfl
theorem XI{d1 d2 d3 s i n:Nat}{x y z:Operand}{un:List Nat}{hB h:WF}{p v:Value}{cells:List Value}{A:Nat->List Int}{k:Int}{K:WP->WR->WF->Prop}
  (r:AR hB h p cells n A) (e0:WK hB h) (hm:h.mark<=hB.n) (hi:i<n) (hv:cells.getD i undef=v) (hlen:(A i).length<=1000)
  (hy:WQ t y (I k)) (hx:WQ (t.set d1 (.slice (some ⟨h.n,0,none⟩) 1 1)) x v) (h21:Nat.beq d1 d2=false) (hs:∀ w,WQ ((t.set d1 (.slice (some ⟨h.n,0,none⟩) 1 1)).set d2 w) (.tmp s) p) (hz:∀ w,WQ ((t.set d1 (.slice (some ⟨h.n,0,none⟩) 1 1)).set d2 w) z (I (i:Int))) (h32:Nat.beq d2 d3=false)
  (kk:∀ h1 w t',(∀ j,Nat.beq j d1=false->Nat.beq j d2=false->Nat.beq j d3=false->zC t' j=zC t j)->WK hB h1->AR hB h1 p (cells.set i w) n (fun j=>if j=i then A i++[k]else A j)->(∀ g,g<h.n->p≠ .pointer (some ⟨g,0,none⟩)->(∀ a b,v≠ .slice (some ⟨g,0,none⟩) a b)->h1.get g=h.get g)->h.n<=h1.n->K .normal ⟨t',ds,rd⟩ h1):
  W8 P tab h.mark (fun g=>∃ a b,v=.slice (some ⟨g,0,none⟩) a b) [(⟨some d1,none,.buildSlice 1 1 [I 0] [(0,1,y)]⟩,[]),(⟨some d2,none,.append 1 x (.tmp d1)⟩,un),(⟨some d3,none,.idxArr n 1 (.tmp s) z⟩,[]),(⟨none,none,.store 1 (.tmp d3) (.tmp d2)⟩,[])] h.n ⟨t,ds,rd⟩ (inC (zB 1 h)) (B5 K h):=by
 have hon:=r.all i hi;rw[hv]at hon;obtain⟨gp,gp1,gp2,hp,gp3⟩:=r.own;have hmade:yg t (.buildSlice 1 1 [I 0] [(0,1,y)])=some (.row [I k] true 0,fun g=> .slice (some ⟨g,0,none⟩) 1 1):=by
  have hy:ev t y=I k:=hy;simp only[yg,zr,Q6,Gl,hy];rfl
 refine W8.mk rfl (by have:=e0.n;omega) hmade ?_;generalize hH1:(inC (zB 1 h)).lay h.n (.row [I k] true 0)=H1;have n1:H1.n=h.n+1:=by rw[<-hH1];rfl
 have get1:∀ c,H1.get c=if c=h.n then some (.row [I k] true 0)else h.get c:=fun c=>by rw[<-hH1];exact zd _ _ _ _
 have sl:Wd (inC H1) (.slice (some ⟨h.n,0,none⟩) 1 1) [k]:=⟨rfl,.inr ⟨h.n,0,[I k],rfl,ZO (own:=true) (lo:=0) (by have:=get1 h.n;rw[QG rfl]at this;exact this),rfl,by show h.n<H1.n;omega⟩⟩;have hsrc:=ZI sl;obtain⟨H2,ha,n2,get2,keep2,wr2,wf2⟩:∃ H2,z8 1 v (.slice (some ⟨h.n,0,none⟩) 1 1) (inC H1)=some (.slice (some ⟨h.n+1,0,none⟩) (A i++[k]).length 1,H2)/\H2.n=h.n+2/\H2.get (h.n+1)=some (.row ((A i++[k]).map I) true 0)/\
   (∀ c,c≠h.n+1->(∀ a b,v≠ .slice (some ⟨c,0,none⟩) a b)->H2.get c=H1.get c)/\(∀ c∈H2.wr,∃ a b,v=.slice (some ⟨c,0,none⟩) a b)/\(∀ c,h.n+2<=c->H1.get c=none->H2.get c=none):=by
  have hone:zH [I k]=true:=rfl;have hn1:(inC H1).n=h.n+1:=n1;rcases hon with⟨rfl,hA⟩|⟨q,q1,q2,rfl,q3⟩
  ·refine⟨(inC H1).push (.row [I k] true 0),?_,?_,?_,fun c hc _=> ?_,fun c hc=>(by cases hc),fun c hc h0=> ?_⟩
   ·have:Nat.ble 1 room=true:=rfl;simp only[z8,hsrc,Q6,Gl,hone,QS,QR,QZ,Nat.div_one,this,cond_true,hA,GF];rw[<-hn1];rfl
   ·show(inC H1).n+1=_;omega
   ·rw[hA,<-hn1,zY,QG rfl];rfl
   ·rw[zY,QC (by omega)];rfl
   ·rw[zY,QC (by omega)];exact h0
  ·have hq:(inC H1).get q=some (.row ((A i).map I) true 0):=by
    have:=get1 q;rw[QC (by omega)]at this;exact this.trans q3
   refine⟨((inC H1).kill q).push (.row ((A i).map I++[I k]) true (0-0)),?_,?_,?_,fun c hc hv=> ?_,fun c hc=> ?_,fun c hc h0=> ?_⟩
   ·have h1:Nat.ble ((A i).length+1) room=true:=QF (by have:room=4294967296:=rfl;omega);have h2:cut ((A i).map I) 0 ((A i).length*1)=some ((A i).map I):=by rw[yt (by simp)];simp[Qo]
    have h3:Nat.ble 0 (0+(A i).length*1)=true:=QF (QU _);simp only[z8,hsrc,Q6,Gl,hone,QS,QR,QZ,Nat.div_one,h1,h2,h3,hq,cond_true,hn1,QT];rfl
   ·show(inC H1).n+1=_;omega
   ·have e:((inC H1).kill q).n=h.n+1:=n1;rw[<-e,zY,QG rfl];simp
   ·rw[zY,QC (by show c≠(inC H1).n;omega),yh,QC (fun e=>hv _ _ (by rw[e]))];rfl
   ·have hc2:c∈(inC H1).log q:=hc;rcases yw hc2 with rfl|h
    ·exact⟨_,_,rfl⟩
    ·cases h
   ·rw[zY,QC (by show c≠(inC H1).n;omega),yh];split
    ·rfl
    ·exact h0
 have hbad:∀ c,(∃ a b,v=.slice (some ⟨c,0,none⟩) a b)->hB.n<=c/\c<h.n/\c≠gp:=by
  rintro c ⟨a,b,e⟩;have hne:=r.off hi hp (hv.trans e);rcases hon with⟨h1,_⟩|⟨q,q1,q2,h1,_⟩
  ·rw[e]at h1;cases h1
  ·rw[e]at h1;cases h1;exact⟨q1,q2,hne⟩
 have hgp:∀ a b,v≠ .slice (some ⟨gp,0,none⟩) a b:=fun a b e=>(hbad gp ⟨a,b,e⟩).2.2 rfl;rw[W8,QC (show ¬Nat.beq (zG (W4.append 1 x (.tmp d1))) 3=true from Bool.noConfusion)];have hx:ev (t.set d1 (.slice (some ⟨h.n,0,none⟩) 1 1)) x=v:=hx;have e1:ev (t.set d1 (.slice (some ⟨h.n,0,none⟩) 1 1)) (.tmp d1)=.slice (some ⟨h.n,0,none⟩) 1 1:=by simp only[ev,yH,Q9]
 refine WO.op (.slice (some ⟨h.n+1,0,none⟩) (A i++[k]).length 1) H2 rfl (by simp only[WN,hx,e1,ha]) ?_;refine WO.nil ⟨fun c hc=> ?_,.inr ⟨rfl,wr2⟩,fun c hc=>(by cases hc),?_⟩
 ·have:=(hbad c (wr2 c hc)).1;omega
 rw[W8,QC (show ¬Nat.beq (zG (W4.idxArr n 1 (.tmp s) z)) 3=true from Bool.noConfusion)];have own2:WH hB (inC H2) p cells:=by
  refine⟨gp,gp1,by show gp<H2.n;omega,hp,?_⟩;show H2.get gp=_;rw[keep2 gp (by omega) hgp,get1,QC (by omega)];exact gp3
 have hs2:=hs (.slice (some ⟨h.n+1,0,none⟩) (A i++[k]).length 1);have hz2:=hz (.slice (some ⟨h.n+1,0,none⟩) (A i++[k]).length 1);have hidx:=Vf (P:=P) (ih:=Ex.bot) (c:=1) (n:=n) (i:=i) hs2 (by have hz2:ev _ z=I (i:Int):=hz2;rw[hz2];rfl) own2 hi;rw[Nat.mul_one]at hidx;refine WO.op _ (inC H2) rfl hidx ?_;refine WO.nil ⟨fun c hc=>(by cases hc),?_,fun c hc=>(by cases hc),?_⟩
 ·exact .inr ⟨rfl,fun c hc=>(by cases hc)⟩
 rw[W8,QC (show ¬Nat.beq (zG (W4.store 1 (.tmp d3) (.tmp d2))) 3=true from Bool.noConfusion)];have hst:ze (inC (inC H2)) ⟨gp,i,none⟩ [.slice (some ⟨h.n+1,0,none⟩) (A i++[k]).length 1]=some ((inC (inC H2)).set gp (.row (cells.set i (.slice (some ⟨h.n+1,0,none⟩) (A i++[k]).length 1)) true 0)):=by
  obtain⟨q,_,_,hq,hg⟩:=own2;rw[hp]at hq;cases hq;have hg':(inC (inC H2)).get gp=some (.row cells true 0):=hg;have h1:Nat.ble (i+1) cells.length=true:=QF (by rw[r.len];exact hi);have h0:Nat.ble 0 i=true:=QF (QU _);have h2:zH [.slice (some ⟨h.n+1,0,none⟩) (A i++[k]).length 1]=true:=rfl;simp only[ze,hg',QZ,h1,h0,h2,Qn,zKa (show i<cells.length by rw[r.len];exact hi)];rfl
 have hd32:¬d2=d3:=fun e=>by subst e;simp at h32
 refine VS undef ((inC (inC H2)).set gp (.row (cells.set i (.slice (some ⟨h.n+1,0,none⟩) (A i++[k]).length 1)) true 0)) rfl (by
  have a1:∀ tt:WI Value,ev (tt.set d3 (zw p i)) (.tmp d3)=.pointer (some ⟨gp,i,none⟩):=fun tt=>by
   simp only[ev,yH,Q9,hp,zw,Qk]
  have a2:∀ w,ev (((t.set d1 (.slice (some ⟨h.n,0,none⟩) 1 1)).set d2 w).set d3 (zw p i)) (.tmp d2)=w:=fun w=>by
   simp only[ev,yH,QC hd32,Q9]
  simp only[val,WN,a1,a2,zGS,Gw,QZ,GP,hst,QH,cond_true]) ?_
 refine WO.nil ⟨fun c hc=> ?_,.inl rfl,fun c hc=>(by cases hc),?_⟩
 ·have hc2:c∈(inC (inC H2)).log gp:=hc;rcases yw hc2 with rfl|h
  ·omega
  ·cases h
 generalize hH:zq h ((inC (inC H2)).set gp (.row (cells.set i (.slice (some ⟨h.n+1,0,none⟩) (A i++[k]).length 1)) true 0))=H;have nH:H.n=h.n+2:=by rw[<-hH];exact n2
 have getH:∀ c,H.get c=if c=gp then some (.row (cells.set i (.slice (some ⟨h.n+1,0,none⟩) (A i++[k]).length 1)) true 0)else H2.get c:=fun c=>by rw[<-hH];exact zd _ _ _ _
 have keepH:∀ c,c<h.n->c≠gp->(∀ a b,v≠ .slice (some ⟨c,0,none⟩) a b)->H.get c=h.get c:=fun c h1 h2 h3=>by
  rw[getH,QC h2,keep2 c (by omega) h3,get1,QC (by omega)]
 have lowH:∀ c,c<hB.n->H.get c=h.get c:=fun c hc=>keepH c (by have:=e0.n;omega) (by omega) (fun a b e=>by have:=(hbad c ⟨a,b,e⟩).1;omega);show K .normal _ _;rw[hH];refine kk H (.slice (some ⟨h.n+1,0,none⟩) (A i++[k]).length 1) _ (fun j a1 a2 a3=> ?_) ?_ ?_ (fun c h1 h2 h3=>keepH c h1 (fun e=>h2 (by rw[hp,e])) h3) (by omega)
 ·have b1:¬j=d1:=fun e=>by subst e;simp at a1
  have b2:¬j=d2:=fun e=>by subst e;simp at a2
  have b3:¬j=d3:=fun e=>by subst e;simp at a3
  simp only[val,yH,QC b1,QC b2,QC b3]
 ·refine⟨by rw[nH];have:=e0.n;omega,fun c hc=>(lowH c hc).trans (e0.get c hc),fun w c hc=> ?_,?_,fun hmk=> ?_⟩
  ·rw[nH]at hc;rw[getH,QC (by omega)];exact wf2 c hc (by rw[get1,QC (by omega)];exact e0.wf w c (by omega))
  ·rw[<-hH];exact e0.mark
  ·rw[<-hH];exact e0.wr hmk
 ·refine⟨⟨gp,gp1,by omega,hp,by rw[getH,QG rfl]⟩,by rw[GL];exact r.len,fun j hj=> ?_,fun j1 j2 g a b c d hj1 hj2 hne e1 e2=> ?_⟩
  ·rw[zFY (by rw[r.len];exact hi)];by_cases e:j=i
   ·rw[QG e];simp only[QG e];exact .inr ⟨h.n+1,by have:=e0.n;omega,by omega,rfl,by rw[getH,QC (by omega)];exact get2⟩
   ·rw[QC e];simp only[QC e];rcases r.all j hj with h1|⟨q,q1,q2,h1,q3⟩
    ·exact .inl h1
    ·refine .inr ⟨q,q1,by omega,h1,?_⟩;rw[keepH q q2 (r.off hj hp h1) (fun a b e2=>r.apart j i q _ _ a b hj hi e h1 (hv.trans e2))];exact q3
  ·rw[zFY (by rw[r.len];exact hi)]at e1 e2;have old:∀ j a b,j<n->cells.getD j undef=.slice (some ⟨g,0,none⟩) a b->g<h.n:=fun j a b hj e=>by
    rcases r.all j hj with⟨h1,_⟩|⟨q,_,q2,h1,_⟩
    ·rw[e]at h1;cases h1
    ·rw[e]at h1;cases h1;exact q2
   by_cases f1:j1=i
   ·rw[QG f1]at e1;cases e1;by_cases f2:j2=i
    ·exact hne (f1.trans f2.symm)
    ·rw[QC f2]at e2;have:=old j2 _ _ hj2 e2;omega
   ·rw[QC f1]at e1;by_cases f2:j2=i
    ·rw[QG f2]at e2;cases e2;have:=old j1 _ _ hj1 e1;omega
    ·rw[QC f2]at e2;exact r.apart j1 j2 g a b c d hj1 hj2 hne e1 e2
theorem AR.one{hB h:WF}{p:Value}{cells:List Value}{n:Nat}{A:Nat->List Int}(r:AR hB h p cells n A):zH cells=true:=by
 unfold zH;rw[QV];intro x hx;obtain⟨j,hj,rfl⟩:=JI.1 hx;have e:cells.getD j undef=cells[j]:=by simp[List.getD,QB hj]
 have:=r.all j (by rw[<-r.len];exact hj);rw[e]at this;rcases this with⟨h,_⟩|⟨_,_,_,h,_⟩<;>rw[h]
theorem AR.updC{hB h h':WF}{p:Value}{cells:List Value}{n:Nat}{A:Nat->List Int}(r:AR hB h p cells n A)(o:WH hB h' p cells)(u:Ws p h h'):AR hB h' p cells n A:=by
 refine⟨o,r.len,fun j hj=> ?_,r.apart⟩;rcases r.all j hj with h1|⟨q,q1,q2,h1,q3⟩
 ·exact .inl h1
 ·refine .inr ⟨q,q1,QK q2 u.1,h1,(u.2 q q2 fun e=> ?_).trans q3⟩;exact r.off hj e h1 rfl
theorem zJ9{cells:List Value}{n:Nat}(hn:cells.length=n):(cut cells 0 n).bind (zI true)=some (.agg cells.toArray):=by
 subst hn;rw[yt (by omega)];simp[Qo,zI]
theorem XH{d i:Nat}{x:Operand}{p:Value}{cells:List Value}{h0 h:WF}{l:List WG}{Q:WR->WF->Prop}(o:WH h0 h p cells)(hi:i<cells.length)(k:WO P tab l ⟨t.set d (cells.getD i undef),ds,rd⟩ h Q)(hx:WQ t x (zw p i):=by exact zX):WO P tab (⟨some d,none,.load false 1 x⟩::l) ⟨t,ds,rd⟩ h Q:=
 Xl (WH.load hx o (zNH hi)) k
theorem UG{d n:Nat}{x:Operand}{p:Value}{cells:List Value}{h0 h:WF}{l:List WG}{Q:WR->WF->Prop}(o:WH h0 h p cells)(hn:cells.length=n)(k:WO P tab l ⟨t.set d (.agg cells.toArray),ds,rd⟩ h Q)(hx:WQ t x p:=by exact zX):WO P tab (⟨some d,none,.load true n x⟩::l) ⟨t,ds,rd⟩ h Q:=
 Xl (Vn hx o (zJ9 hn)) k
end
section
variable {P:Program}{tab:Wv}{ds:List Deferred}{rd:Option Nat}{h:WF}{l:List WG}{t:WI Value}
theorem goV{G' G:Prop}(k:G')(r:Wrap G'->G:=by
  intro hgo;first|with_reducible show W8 _ _ _ _ (_::_) _ _ _ _|refine go ?_
  repeat (first|((apply W8.q;rfl);refine go ?_)|refine zQc rfl ?_|(apply zJ7;(exact zP);(assumption)))
  first|with_reducible show W8 _ _ _ _ (_::_) _ _ _ _|refine go ?_
  exact hgo.out):G:=r ⟨k⟩
end
section
variable {P:Program}{tab:Wv}{t:WI Value}{ds:List Deferred}{rd:Option Nat}
theorem zDZ{h0 h:WF}{p:Value}{xs:List Int}{j:Nat}{a:Int}(o:WH h0 h p (xs.map I))(hj:j<xs.length):∃ g,h0.n<=g/\g<h.n/\p=.pointer (some ⟨g,0,none⟩)/\ze h ⟨g,j,none⟩ [I a]=some (h.set g (.row ((xs.set j a).map I) true 0)):=by
 obtain⟨g,g1,g2,hp,g3⟩:=o;refine⟨g,g1,g2,hp,?_⟩;have h1:Nat.ble (j+1) (xs.map I).length=true:=QF (by simp;omega);have h0:Nat.ble 0 j=true:=QF (QU _);have h2:zH [I a]=true:=rfl;simp only[ze,g3,QZ,h1,h0,h2,Qn,zAT _ _ _ hj];rfl
theorem V7{x y:Operand}{p:Value}{xs:List Int}{j:Nat}{a:Int}{h0 h:WF}{l:List WG}{Q:WR->WF->Prop}(o:WH h0 h p (xs.map I))(e0:WK h0 h)(hj:j<xs.length)
  (k:∀ h',WK h0 h'->WH h0 h' p ((xs.set j a).map I)->Ws p h h'->WO P tab l ⟨t,ds,rd⟩ h' Q) (hx:WQ t x (zw p j):=by exact zX) (hy:WQ t y (I a):=by exact zX):WO P tab (⟨none,none,.store 1 x y⟩::l) ⟨t,ds,rd⟩ h Q:=by
 refine Vq hx hy (v:=I a) (cs:=[I a]) rfl rfl rfl o e0 (by simp;omega) fun h' a1 a2 a3=>k h' a1 ?_ a3;rw[zAT _ _ _ hj]at a2;exact a2
theorem UX{N0 g:Nat}{cl:Bool}{x y:Operand}{p:Value}{xs:List Int}{j:Nat}{a:Int}{h0 X:WF}{m:Nat}{w:WG×List Nat}{l:List (WG×List Nat)}{Q:WR->WF->Prop}(o:WH h0 X p (xs.map I))(hm:m<=h0.n)(hj:j<xs.length)
  (k:∀ X',X'.n=X.n->WH h0 X' p ((xs.set j a).map I)->Ws p X X'->(Wf X->Wf X')->We P tab m N0 (w::l) g false ⟨t,ds,rd⟩ (inC X') Q) (hx:WQ t x (zw p j):=by exact zX) (hy:WQ t y (I a):=by exact zX):
  We P tab m N0 ((⟨none,none,.store 1 x y⟩,[])::w::l) g cl ⟨t,ds,rd⟩ (inC X) Q:=by
 obtain⟨q,q1,q2,hp,hst⟩:=zDZ (a:=a) o hj;rw[We,QC (show ¬Nat.beq (zG (W4.store 1 x y)) 3=true from Bool.noConfusion)];have hst':ze (inC (inC X)) ⟨q,j,none⟩ [I a]=some ((inC (inC X)).set q (.row ((xs.set j a).map I) true 0)):=by
  have:WH h0 (inC (inC X)) p (xs.map I):=o;obtain⟨q',_,_,hp',h⟩:=zDZ (a:=a) this hj;rw[hp]at hp';cases hp';exact h
 have hx:ev t x=zw p j:=hx;have hy:ev t y=I a:=hy;have hc:(I a).cells=#[I a]:=rfl;refine VS undef ((inC (inC X)).set q (.row ((xs.set j a).map I) true 0)) rfl (by
  simp only[WN,hx,hp,zw,Qk,hy,hc,hst',QH];rfl) ?_
 have hlog:(inC (inC X)).log q=[q]:=by
  have:Nat.ble X.n q=false:=by
   cases hb:Nat.ble X.n q with
   |false=>rfl
   |true=>have:=QO hb;omega
  show(bif Nat.ble X.n q then[]else q::[])=_;rw[this];rfl
 have hwr:((inC (inC X)).set q (.row ((xs.set j a).map I) true 0)).wr=[q]:=hlog;refine WO.nil ⟨⟨fun c hc=> ?_,QE _,.inl rfl⟩,?_⟩
 ·rw[hwr]at hc;rw[Qe]at hc;subst hc;omega
 ·rw[hwr,show(cl&&[q].isEmpty)=false by cases cl<;>rfl];have:=k ((inC (inC X)).set q (.row ((xs.set j a).map I) true 0)) rfl ⟨q,q1,q2,hp,by rw[zT,QG rfl]⟩ ⟨QE _,fun c _ hc=>by rw[zT,QC (fun e=>hc (by rw[hp,e]))];rfl⟩ (fun wf c hc=>by have hc:X.n<=c:=hc;rw[zT,QC (by omega)];exact wf c hc);obtain⟨o2,un2⟩:=w;unfold We at this |-;exact this
theorem UN{N0 g:Nat}{cl:Bool}{x y:Operand}{p:Value}{xs:List Int}{j:Nat}{a:Int}{h0 hS X:WF}{K:WP->WR->WF->Prop}(o:WH h0 X p (xs.map I))(e0:WK h0 hS)(hm:hS.mark<=h0.n)(hn:X.n=hS.n)(u:Ws p hS X)(wf:Wf hS->Wf X)(hj:j<xs.length)
  (k:∀ h1,WK h0 h1->WH h0 h1 p ((xs.set j a).map I)->Ws p hS h1->K .normal ⟨t,ds,rd⟩ h1) (hx:WQ t x (zw p j):=by exact zX) (hy:WQ t y (I a):=by exact zX):
  We P tab hS.mark N0 [(⟨none,none,.store 1 x y⟩,[])] g cl ⟨t,ds,rd⟩ (inC X) (B5 K hS):=by
 obtain⟨q,q1,q2,hp,_⟩:=zDZ (a:=a) o hj;rw[We,QC (show ¬Nat.beq (zG (W4.store 1 x y)) 3=true from Bool.noConfusion)];have hst':ze (inC (inC X)) ⟨q,j,none⟩ [I a]=some ((inC (inC X)).set q (.row ((xs.set j a).map I) true 0)):=by
  have:WH h0 (inC (inC X)) p (xs.map I):=o;obtain⟨q',_,_,hp',h⟩:=zDZ (a:=a) this hj;rw[hp]at hp';cases hp';exact h
 have hx:ev t x=zw p j:=hx;have hy:ev t y=I a:=hy;have hc:(I a).cells=#[I a]:=rfl;refine VS undef ((inC (inC X)).set q (.row ((xs.set j a).map I) true 0)) rfl (by
  simp only[WN,hx,hp,zw,Qk,hy,hc,hst',QH];rfl) ?_
 refine WO.nil ⟨⟨fun c hc=> ?_,QE _,.inl rfl⟩,?_⟩
 ·have hc2:c∈(inC (inC X)).log q:=hc;rcases yw hc2 with rfl|h
  ·omega
  ·cases h
 have get2:∀ c,(zq hS ((inC (inC X)).set q (.row ((xs.set j a).map I) true 0))).get c=if c=q then some (.row ((xs.set j a).map I) true 0)else X.get c:=fun c=>zd _ _ _ _;refine k (zq hS ((inC (inC X)).set q (.row ((xs.set j a).map I) true 0))) ?_ ⟨q,q1,q2,hp,by rw[get2,QG rfl]⟩ ⟨by show hS.n<=X.n;omega,fun c hc hv=>by rw[get2,QC (fun e=>hv (by rw[hp,e]))];exact u.2 c hc hv⟩;refine⟨by show h0.n<=X.n;rw[hn];exact e0.n,fun c hc=> ?_,fun w c hc=> ?_,e0.mark,fun hmk=>e0.wr hmk⟩
 ·rw[get2,QC (by omega)];exact(u.2 c (by have:=e0.n;omega) (fun e=>by rw[hp]at e;cases e;omega)).trans (e0.get c hc)
 ·have hc:X.n<=c:=hc;rw[get2,QC (by omega)];exact wf (e0.wf w) c hc
theorem zKj{xs:List Int}{j n:Nat}(h:j+n<=xs.length):(cut (xs.map I) j n).bind (zI true)=some (.agg (((xs.drop j).take n).map I).toArray):=by
 rw[yt (by simp;omega)];simp[zI]
theorem Vp{d j n:Nat}{x:Operand}{p:Value}{xs:List Int}{h0 h:WF}{l:List WG}{Q:WR->WF->Prop}(o:WH h0 h p (xs.map I))(hn:j+n<=xs.length)(k:WO P tab l ⟨t.set d (.agg (((xs.drop j).take n).map I).toArray),ds,rd⟩ h Q)(hx:WQ t x (zw p j):=by exact zX):WO P tab (⟨some d,none,.load true n x⟩::l) ⟨t,ds,rd⟩ h Q:=
 Xl (WH.load hx o (zKj hn)) k
theorem zM6{e:TypeId}{kk:IntKind}{d:Nat}(he:P.underlying e=some (.int kk))(ha:zU P (isAgg e)=some false){xs ys:List Int}(hl:xs.length=ys.length):∀ (m i:Nat),i+m=xs.length->
  zU P (do
   let s <-(forIn (List.range' i m) (none,()) fun f (__s:Option Bool×Unit)=>do
           let __do_lift <-part e (xs.map I).toArray (f*1)
           let __do_lift_1 <-part e (ys.map I).toArray (f*1)
           let __do_lift <-Op.equalIn (d+1) e __do_lift __do_lift_1
           if(!__do_lift)=true then pure (ForInStep.done (some false,()))
            else pure (ForInStep.yield (none,())):Sem (Option Bool×Unit))
   match s.fst with
        |some r=>pure r
        |none=>pure true)=some (decide (xs.drop i=ys.drop i)):=by
 intro m;induction m with
 |zero=>
  intro i hi;have h1:xs.drop i=[]:=List.drop_eq_nil_of_le (by omega);have h2:ys.drop i=[]:=List.drop_eq_nil_of_le (by omega);rw[h1,h2];rfl
 |succ m ih=>
  intro i hi;have hx:i<xs.length:=by omega
  have hy:i<ys.length:=by omega
  have px:zU P (part e (xs.map I).toArray (i*1))=some (I xs[i]):=zCN (by rw[ha]) (by simp[hx]);have py:zU P (part e (ys.map I).toArray (i*1))=some (I ys[i]):=zCN (by rw[ha]) (by simp[hy]);have heq:zU P (Op.equalIn (d+1) e (I xs[i]) (I ys[i]))=some (decide (xs[i]=ys[i])):=by
   rw[Op.equalIn,zK,yW he];simp only[QQ,Q9,zGl];congr 1
  rw[List.range'_succ,List.forIn_cons];simp only[bind_assoc,zK,px,py,QQ,heq];have e1:(xs.drop i=ys.drop i)↔(xs[i]=ys[i]/\xs.drop (i+1)=ys.drop (i+1)):=by rw[GK hx,GK hy,JB]
  by_cases h:xs[i]=ys[i]
  ·have:=ih (i+1) (by omega);rw[QX h,show decide (xs.drop i=ys.drop i)=decide (xs.drop (i+1)=ys.drop (i+1))from decide_eq_decide.2 (e1.trans ⟨fun h=>h.2,fun k=>⟨h,k⟩⟩),<-this,zK];rfl
  ·rw[QW h,show decide (xs.drop i=ys.drop i)=false from QW fun k=>h (e1.1 k).1];rfl
theorem zQD{t e:TypeId}{kk:IntKind}{n:Nat}{xs ys:List Int}{x y:Operand}(ht:P.underlying t=some (.array n e))(he:P.underlying e=some (.int kk))(ha:zU P (isAgg e)=some false)(hs:zU P (sizeOf e)=some 1)(hg:P.eqGuardType P.depth t=false)(hx:xs.length=n)(hy:ys.length=n):
  zU P (do eqGuard .eql t x y (.agg (xs.map I).toArray) (.agg (ys.map I).toArray);binOp .eql t (.agg (xs.map I).toArray) (.agg (ys.map I).toArray))=some (.bool (decide (xs=ys))):=by
 have h1:zU P (eqGuard .eql t x y (.agg (xs.map I).toArray) (.agg (ys.map I).toArray))=some ():=by
  unfold eqGuard;simp only[QS,Qs,G1];rw[zK,yJ];simp only[QQ];rw[zK,yJ];simp only[QQ,hg,Qa,Q9];rfl
 rw[zK,h1];simp only[QQ];unfold binOp;simp only[];rw[zK];have h2:zU P (Op.equal t (.agg (xs.map I).toArray) (.agg (ys.map I).toArray))=some (decide (xs=ys)):=by
  unfold Op.equal Op.maxDepth;rw[show(10000:Nat)=9999+1 from rfl,Op.equalIn,zK,yW ht];simp only[QQ];rw[zK,hs];simp only[QQ];have:=zM6 (P:=P) (d:=9998) he ha (xs:=xs) (ys:=ys) (by omega) n 0 (by omega);rw[Qx,Qx]at this;rw[<-this,zK,zK];first|rw[Std.Legacy.Range.forIn_eq_forIn_range']|rw[Std.Range.forIn_eq_forIn_range']
  have hsz:(Std.Legacy.Range.size [:n])=n:=by simp[Std.Legacy.Range.size]
  rw[hsz];congr 1;funext a;obtain⟨a,_⟩:=a;cases a<;>rfl
 rw[h2];rfl
noncomputable def zPP(P:Program)(t:TypeId)(n:Nat):Bool:=
 (match P.underlying t with
 |some (.array m e)=>Nat.beq m n&&(match P.underlying e with|some (.int _)=>true|_=>false)&&(match zU P (isAgg e)with|some false=>true|_=>false)&&(match zU P (sizeOf e)with|some 1=>true|_=>false)
 |_=>false)&& !P.eqGuardType P.depth t
theorem zOh{t:TypeId}{n:Nat}{xs ys:List Int}{x y:Operand}(h:zPP P t n=true)(hx:xs.length=n)(hy:ys.length=n):
  zU P (do eqGuard .eql t x y (.agg (xs.map I).toArray) (.agg (ys.map I).toArray);binOp .eql t (.agg (xs.map I).toArray) (.agg (ys.map I).toArray))=some (.bool (decide (xs=ys))):=by
 unfold zPP at h;rw[QJ]at h;obtain⟨h,hg⟩:=h;have hg:P.eqGuardType P.depth t=false:=by cases hh:P.eqGuardType P.depth t with|false=>rfl|true=>rw[hh]at hg;cases hg
 split at h
 ·rename_i m e ht;simp only[QJ]at h;obtain⟨⟨⟨h1,h2⟩,h3⟩,h4⟩:=h;have hm:=QI h1;subst hm;split at h2
  ·rename_i kk he;refine zQD ht he ?_ ?_ hg hx hy
   ·split at h3
    ·assumption
    ·cases h3
   ·split at h4
    ·assumption
    ·cases h4
  ·cases h2
 ·cases h
def zKF(K:WP->WR->WF->Prop):WP->WR->WF->Prop
 | .normal,fr,h=>K .normal fr h
 | .exit i,fr,h=>K (.exit i) fr h
 | .goto _,_,_=>False
 | .ret,fr,h=>K .ret fr h
theorem zG7{K fr h}(hx:K .ret fr h):zKF K .ret fr h:=hx
theorem XW{b fr h K}(hx:WX P tab b fr h (zKF K)):WX P tab (.scope b) fr h K:=by
 unfold WX at hx |-;obtain⟨e,fr',h',k,ev⟩:=hx;have run:∀ n,(BI P tab n).exec b fr h=some (e,fr',h')->(∀ l,e≠ .goto l)->Zk (BI P tab n) zEx b b fr h=some (e,fr',h'):=fun n h1 h2=>by
  show Zk (BI P tab n) (4294967295+1) b b fr h=_;rw[Zk,h1];cases e with
  |goto l=>exact absurd rfl (h2 l)
  |_=>rfl
 cases e with
 |goto l=>exact k.elim
 |normal=>exact⟨_,_,_,k,Ev.up (ev.mono fun n e=>by rw[zo];simp only[zh];exact run n e (fun l h=>by cases h))⟩
 |exit i=>exact⟨_,_,_,k,Ev.up (ev.mono fun n e=>by rw[zo];simp only[zh];exact run n e (fun l h=>by cases h))⟩
 |ret=>exact⟨_,_,_,k,Ev.up (ev.mono fun n e=>by rw[zo];simp only[zh];exact run n e (fun l h=>by cases h))⟩
end
def Dep{α:Type}(R:WF->List Value->α->Prop)(h:WF)(cs:List Value)(a:α)(D:Nat->Prop):Prop:=
 ∀ hx:WF,(∀ k o,D k->h.get k=some o->hx.get k=some o)->h.n<=hx.n->R hx cs a
def WZ{α:Type}(c:Nat)(R:WF->List Value->α->Prop)(b:Nat)(h:WF)(v:Value)(xs:List α):Prop:=
 (v=.slice none 0 0/\xs=[])\/∃ g cells D,b<=g/\g<h.n/\v=.slice (some ⟨g,0,none⟩) xs.length c/\h.get g=some (.row cells true 0)/\cells.length=xs.length*c/\¬D g/\(∀ k,D k->b<=k/\k<h.n)/\
  ∀ (i:Nat) (a:α),xs[i]?=some a->Dep R h ((cells.drop (i*c)).take c) a D
section
variable {α:Type}{c b:Nat}{R:WF->List Value->α->Prop}{h h':WF}{v:Value}{xs:List α}
theorem Dep.self{cs:List Value}{a:α}{D:Nat->Prop}(d:Dep R h cs a D):R h cs a:=d h (fun _ _ _ e=>e) (QE _)
theorem Dep.mono{cs:List Value}{a:α}{D E:Nat->Prop}(d:Dep R h cs a D)(hE:∀ k,D k->E k)(hk:∀ k o,D k->h.get k=some o->h'.get k=some o)(hn:h.n<=h'.n):Dep R h' cs a E:=
 fun hx h1 h2=>d hx (fun k o hd e=>h1 k o (hE k hd) (hk k o hd e)) (QN hn h2)
theorem WZ.nil:WZ c R b h (.slice none 0 0) ([]:List α):= .inl ⟨rfl,rfl⟩
theorem WZ.upd(o:WZ c R b h v xs)(hk:∀ k,b<=k->k<h.n->h'.get k=h.get k)(hn:h.n<=h'.n):WZ c R b h' v xs:=by
 rcases o with o|⟨g,cells,D,g1,g2,g3,g4,g5,g6,g7,g8⟩
 ·exact .inl o
 ·exact .inr ⟨g,cells,D,g1,QK g2 hn,g3,(hk g g1 g2).trans g4,g5,g6,fun k hd=>⟨(g7 k hd).1,QK (g7 k hd).2 hn⟩,fun i a ha=>(g8 i a ha).mono (fun _ h=>h) (fun k o hd e=>(hk k (g7 k hd).1 (g7 k hd).2).trans e) hn⟩
theorem WZ.ext(o:WZ c R b h v xs)(e:WK h h'):WZ c R b h' v xs:=o.upd (fun k _ hk=>e.get k hk) e.n
theorem WZ.dep(o:WZ c R b h v xs){hx:WF}(hk:∀ k o,b<=k->k<h.n->h.get k=some o->hx.get k=some o)(hn:h.n<=hx.n):Ww c R hx v xs:=by
 rcases o with⟨rfl,rfl⟩|⟨g,cells,D,g1,g2,rfl,g4,g5,g6,g7,g8⟩
 ·exact Ww.nil
 ·refine⟨cells,⟨g5,.inr ⟨g,0,cells,rfl,ZO (hk g _ g1 g2 g4),?_,QK g2 hn⟩⟩,fun i a ha=>g8 i a ha hx (fun k o hd e=>hk k o (g7 k hd).1 (g7 k hd).2 e) hn⟩;rw[yt (by omega)];simp[<-g5]
theorem WZ.sl(o:WZ c R b h v xs):Ww c R h v xs:=o.dep (fun _ _ _ _ e=>e) (QE _)
theorem WZ.base{b':Nat}(o:WZ c R b h v xs)(hb:b'<=b):WZ c R b' h v xs:=by
 rcases o with o|⟨g,cells,D,g1,g2,g3,g4,g5,g6,g7,g8⟩
 ·exact .inl o
 ·exact .inr ⟨g,cells,D,QN hb g1,g2,g3,g4,g5,g6,fun k hd=>⟨QN hb (g7 k hd).1,(g7 k hd).2⟩,g8⟩
theorem zLz{cells cs:List Value}{n i:Nat}(hl:cells.length=n*c)(hc:cs.length=c)(hi:i<n):(((cells++cs).drop (i*c)).take c)=(cells.drop (i*c)).take c:=by
 have h1:i*c+c<=n*c:=by rw[<-GX];exact Qr _ hi
 rw[List.drop_append,List.take_append_of_le_length];rw[Gk];omega
theorem zKV{cells cs:List Value}{n:Nat}(hl:cells.length=n*c)(hc:cs.length=c):(((cells++cs).drop (n*c)).take c)=cs:=by
 rw[List.drop_append,List.drop_eq_nil_of_le (by omega),GF,hl,Nat.sub_self,Qx,Qo (by omega)]
theorem WZ.snoc(o:WZ c R b h v xs){cs:List Value}{a:α}{Dn:Nat->Prop}{g':Nat}{olds:List Value}(hc:cs.length=c)(d:Dep R h cs a Dn)(hD:∀ k,Dn k->b<=k/\k<h.n)(hv:∀ g n k,v=.slice (some ⟨g,0,none⟩) n k->¬Dn g)
  (hold:∀ g n k,v=.slice (some ⟨g,0,none⟩) n k->h.get g=some (.row olds true 0)) (hnil:v=.slice none 0 0->olds=[])
  (hg:h.n<=g') (hb:b<=g') (hg2:g'<h'.n) (hget:h'.get g'=some (.row (olds++cs) true 0)) (keep:∀ k,b<=k->k<h.n->(∀ n k',v≠ .slice (some ⟨k,0,none⟩) n k')->h'.get k=h.get k):
  WZ c R b h' (.slice (some ⟨g',0,none⟩) (xs++[a]).length c) (xs++[a]):=by
 rcases o with⟨rfl,rfl⟩|⟨g,cells,D,g1,g2,rfl,g4,g5,g6,g7,g8⟩
 ·have:=hnil rfl;subst this;refine .inr ⟨g',cs,Dn,hb,hg2,rfl,by simpa using hget,by simp[hc],fun hd=>by have:=(hD _ hd).2;omega,fun k hd=>⟨(hD k hd).1,by have:=(hD k hd).2;omega⟩,fun i x hx=> ?_⟩;have hi:i=0:=by
   have:=(QM.1 hx).1;simp at this;omega
  subst hi;simp at hx;subst hx;rw[G7,Qx,Qo (by omega)];exact d.mono (fun _ h=>h) (fun k o hd e=>(keep k (hD k hd).1 (hD k hd).2 (fun _ _ e=>by cases e)).trans e) (by omega)
 ·have:=hold g _ _ rfl;rw[g4]at this;cases this;refine .inr ⟨g',olds++cs,fun k=>D k\/Dn k,hb,hg2,rfl,hget,by rw[QT,QT,QZ,GX,g5,hc],fun hd=> ?_,fun k hd=> ?_,fun i x hx=> ?_⟩
  ·rcases hd with hd|hd
   ·have:=(g7 _ hd).2;omega
   ·have:=(hD _ hd).2;omega
  ·rcases hd with hd|hd
   ·exact⟨(g7 k hd).1,by have:=(g7 k hd).2;omega⟩
   ·exact⟨(hD k hd).1,by have:=(hD k hd).2;omega⟩
  ·by_cases hi:i<xs.length
   ·rw[Qc hi]at hx;rw[zLz g5 hc hi];refine(g8 i x hx).mono (fun k h=> .inl h) (fun k o hd e=>(keep k (g7 k hd).1 (g7 k hd).2 (fun n k' e2=> ?_)).trans e) (by omega);cases e2;exact g6 hd
   ·rw[Qm (by omega)]at hx;have hi2:i=xs.length:=by
     have:=(QM.1 hx).1;simp at this;omega
    subst hi2;simp at hx;subst hx;rw[zKV g5 hc];refine d.mono (fun k h=> .inr h) (fun k o hd e=>(keep k (hD k hd).1 (hD k hd).2 (fun n k' e2=> ?_)).trans e) (by omega);exact hv k n k' e2 hd
end
section
variable {P:Program}{tab:Wv}{t:WI Value}{h:WF}{ds:List Deferred}{rd:Option Nat}{l:List WG}{Q:WR->WF->Prop}
theorem zEL{zero cs:List Value}{v:Value}{c:Nat}(hv:v.cells=cs.toArray)(hc:cs.length=c)(hz:zero.length=c):y9 (zS zero 1) [(0,c,v)]=some cs:=by
 have h1:zS zero 1=zero:=by simp[zS]
 have h2:Nat.beq v.cells.size c=true:=by rw[hv];simp[hc]
 have h3:Nat.ble (0+c) zero.length=true:=QF (by omega);rw[h1];simp only[y9,h2,h3,Qn,cond_true,hv];congr 1;simp[zO,hc,hz]
theorem zEA{α:Type}{c b gl:Nat}{R:WF->List Value->α->Prop}{h H:WF}{v:Value}{xs:List α}{cs:List Value}{a:α}{Dn:Nat->Prop}(o:WZ c R b h v xs)(hc:cs.length=c)(hc0:0<c)(h1:zH cs=true)(hl:xs.length<=100000)(hbn:b<=h.n)
  (d:Dep R h cs a Dn) (hD:∀ k,Dn k->b<=k/\k<h.n) (hv:∀ g n k,v=.slice (some ⟨g,0,none⟩) n k->¬Dn g) (hH:h.n<=H.n) (hgl:gl<H.n) (hkeep:∀ k,k<h.n->H.get k=h.get k) (hlit:H.get gl=some (.row cs true 0)):
  ∃ v' H',z8 c v (.slice (some ⟨gl,0,none⟩) 1 c) H=some (v',H')/\WZ c R b H' v' (xs++[a])/\H'.n=H.n+1/\(∀ k,k<H.n->(∀ n k',v≠ .slice (some ⟨k,0,none⟩) n k')->H'.get k=H.get k)/\H'.mark=H.mark/\(∀ k∈H'.wr,k∈H.wr\/b<=k)/\
   (H.mark<=b->H'.wr=H.wr)/\(Wf H->Wf H')/\(∃ n k g,v'=.slice (some ⟨g,0,none⟩) n k/\H.n<=g):=by
 obtain⟨y,ys,rfl⟩:∃ y ys,cs=y::ys:=by
  cases cs with
  |nil=>simp at hc;omega
  |cons y ys=>exact⟨y,ys,rfl⟩
 have hsrc:yM c H (.slice (some ⟨gl,0,none⟩) 1 c)=some (y::ys):=by
  have e1:zv H gl=some (y::ys):=ZO hlit;have e2:cut (y::ys) 0 (1*c)=some (y::ys):=by rw[yt (by omega)];simp[<-hc]
  have e3:Nat.beq 1 0=false:=rfl;rw[Nat.one_mul]at e2;simp only[yM,e1,e3,Nat.one_mul,e2,GP,Qf,Qn,cond_true,QR]
 have hdiv:(y::ys).length / c=1:=by rw[hc];exact Nat.div_self hc0
 have hroom:room=4294967296:=rfl;rcases id o with⟨rfl,rfl⟩|⟨g,cells,D,g1,g2,rfl,g4,g5,g6,g7,g8⟩
 ·have hb1:Nat.ble 1 room=true:=rfl;refine⟨.slice (some ⟨H.n,0,none⟩) 1 c,H.push (.row (y::ys) true 0),?_,?_,rfl,fun k hk _=> ?_,rfl,fun k hk=> .inl hk,fun _=>rfl,fun w k hk=> ?_,⟨_,_,_,rfl,QE _⟩⟩
  ·simp only[z8,hsrc,h1,QS,QR,hdiv,hb1,cond_true];rfl
  ·have:=o.snoc (h':=H.push (.row (y::ys) true 0)) (g':=H.n) (olds:=[]) hc d hD hv (fun g n k e=>by cases e) (fun _=>rfl) hH (QN hbn hH) (G2 _) (zZ _ _) (fun k _ hk _=>by rw[zY,QC (by omega)];exact hkeep k hk);exact this
  ·rw[zY,QC (by omega)]
  ·have hk:H.n+1<=k:=hk;rw[zY,QC (by omega)];exact w k (by omega)
 ·have hb1:Nat.ble (xs.length+1) room=true:=QF (by omega);have hq:H.get g=some (.row cells true 0):=(hkeep g g2).trans g4;have h2:cut cells 0 (xs.length*c)=some cells:=by rw[yt (by omega)];simp[<-g5]
  have h3:Nat.ble 0 (0+xs.length*c)=true:=QF (QU _);have hcc:Nat.beq c 0=false:=by cases hz:Nat.beq c 0 with
   |false=>rfl
   |true=>have:=QI hz;omega
  have hKn:(H.kill g).n=H.n:=rfl;refine⟨.slice (some ⟨H.n,0,none⟩) (xs.length+1) c,(H.kill g).push (.row (cells++y::ys) true (0-0)),?_,?_,rfl,fun k hk hvk=> ?_,rfl,fun k hk=> ?_,fun hm=> ?_,fun w k hk=> ?_,⟨_,_,_,rfl,QE _⟩⟩
  ·simp only[z8,hsrc,h1,QS,QR,hdiv,hb1,hcc,GP,hq,h2,h3,cond_true,Qf,Qn]
  ·have:=o.snoc (h':=(H.kill g).push (.row (cells++y::ys) true (0-0))) (g':=H.n) (olds:=cells) hc d hD hv (fun g n k e=>by cases e;exact g4) (fun e=>by cases e) hH (QN hbn hH) (G2 _) (zZ (H.kill g) _) (fun k _ hk hvk=>by
    rw[zY,QC (by rw[hKn];omega),yh,QC (fun e=>hvk _ _ (by rw[e]))];exact hkeep k hk)
   rw[QT,QZ]at this;exact this
  ·rw[zY,QC (by rw[hKn];omega),yh,QC (fun e=>hvk _ _ (by rw[e]))]
  ·have hk2:k∈H.log g:=hk;rcases yw hk2 with rfl|h
   ·exact .inr g1
   ·exact .inl h
  ·show H.log g=H.wr;exact YR (by omega)
  ·have hk:H.n+1<=k:=hk;rw[zY,QC (by rw[hKn];omega),yh];split
   ·rfl
   ·exact w k (by omega)
end
section
variable {P:Program}{tab:Wv}{m:Nat}{Bad:Nat->Prop}{l:List (WG×List Nat)}{o:WG}{un:List Nat}{g:Nat}{fr:WR}{h h0 h':WF}{Q:WR->WF->Prop}{K:WP->WR->WF->Prop}{t:WI Value}{ds:List Deferred}{rd:Option Nat}
theorem zPb{N0 j n:Nat}{d:Option Nat}{agg:Bool}{x:Operand}{v:Value}{un:List Nat}(hv:∃ a n k,v=.slice (some a) n k/\a.block<N0)(hx:We P tab m N0 l g true fr (inC h) Q)(hr:WQ t x (zR v j):=by exact zX):
  uK2 P tab m N0 un t ⟨d,none,.load agg n x⟩ (inC h) l g true Q fr (inC h):=by
 obtain⟨a,n',k',rfl,hb⟩:=hv;refine zIB (fun k hk=> ?_) hx;unfold WQ zR at hr;simp only[zi,zW,cond_true,hr,QA]at hk;omega
theorem zKl{α:Type}{c i:Nat}{R:WF->List Value->α->Prop}{v:Value}{xs:List α}(s:Ww c R h v xs)(hi:i<xs.length):∃ a n k,v=.slice (some a) n k/\a.block<h.n:=by
 obtain⟨cells,⟨h1,⟨h2,_⟩|⟨g,off,row,rfl,_,_,hg⟩⟩,_⟩:=s
 ·omega
 ·exact⟨_,_,_,rfl,hg⟩
theorem zFE{c i n:Nat}{h:WF}{v:Value}{cells:List Value}(a:Wt c h v n cells)(hi:i<n):Wh h v (i*c) ((cells.drop (i*c)).take c):=by
 have hlen:cells.length=n*c:=a.1;have hle:i*c+c<=cells.length:=by
  rw[hlen,<-GX];exact Qr _ hi
 intro P ih t x agg k off r hx hn hr;cases hc:cut ((cells.drop (i*c)).take c) off k with
 |none=>rw[hc]at hr;cases hr
 |some m=>
  rw[hc]at hr;have h1:cut cells (i*c) c=Option.some ((cells.drop (i*c)).take c):=yt hle;exact zD9 a hx (zDq h1 hc) hn hr
theorem zg{α:Type}[Inhabited α]{c:Nat}{R:WF->List Value->α->Prop}{h:WF}{v:Value}{T:List α}{i:Nat}(s:Ww c R h v T)(hi:i<T.length):∃ cs,R h cs (T.getD i default)/\(∀ h',WK h h'->Wh h' v (i*c) cs/\Wh (inC h') v (i*c) cs)/\zJB v:=by
 have hs:=s.some hi;obtain⟨cells,a,b⟩:=s;refine⟨_,by simpa [List.getD,QB hi]using b i T[i] (QB hi),fun h' e=> ?_,hs⟩;have a':=a.ext e;exact⟨zFE a' hi,zFE (h:=inC h') a' hi⟩
end
section
variable {P:Program}{tab:Wv}{t:WI Value}{h:WF}{ds:List Deferred}{rd:Option Nat}{l:List WG}{Q:WR->WF->Prop}
end
section
variable {P:Program}{tab:Wv}{m N0:Nat}{l:List (WG×List Nat)}{o:WG}{g:Nat}{cl:Bool}{fr:WR}{h h0 h':WF}{Q:WR->WF->Prop}{K:WP->WR->WF->Prop}{x:WG×List Nat}{t:WI Value}
theorem zPT(hw:∀ k∈h'.wr,m<=k)(hn:h.n<=h'.n)(hx:K .normal fr (zq h0 h')):uK2 P tab m N0 [] t o (inC h) [] g cl (B5 K h0) fr h':=⟨⟨hw,hn,.inl rfl⟩,hx⟩
theorem zMd(hw:∀ k∈h'.wr,m<=k)(hn:h.n<=h'.n)(hx:∀ cl',We P tab m N0 (x::l) g cl' fr (inC h') Q):uK2 P tab m N0 [] t o (inC h) (x::l) g cl Q fr h':=⟨⟨hw,hn,.inl rfl⟩,by
 have:=hx (cl&&h'.wr.isEmpty);obtain⟨y,un⟩:=x;unfold We at this |-;exact this⟩
end
section
variable {α:Type}{c b:Nat}{R:WF->List Value->α->Prop}
theorem zGP{cells:List Value}{n:Nat}(hc:0<c)(hl:cells.length=n*c)(h:∀ i,i<n->zH ((cells.drop (i*c)).take c)=true):zH cells=true:=by
 unfold zH at *;rw[QV];intro x hx;obtain⟨j,hj,rfl⟩:=List.getElem_of_mem hx;have hi:j / c<n:=by rw[Nat.div_lt_iff_lt_mul hc];omega
 have h1:=QV.1 (h (j / c) hi);refine h1 _ ?_;have hd:j / c*c+j % c=j:=by rw[Nat.mul_comm];exact Nat.div_add_mod ..
 have hm:j % c<c:=Nat.mod_lt _ hc;rw[JI];refine⟨j % c,by rw[Ql,Gk];omega,?_⟩;rw[List.getElem_take,List.getElem_drop];congr 1
variable {P:Program}{tab:Wv}{t:WI Value}{h:WF}{ds:List Deferred}{rd:Option Nat}{l:List WG}{Q:WR->WF->Prop}
theorem V5{d:Nat}{zero:List Value}(R:WF->List Value->α->Prop)(k:∀ v h',WK h h'->WZ c R h.n h' v []->WO P tab l ⟨t.set d v,ds,rd⟩ h' Q):WO P tab (⟨some d,none,.buildSlice 0 c zero []⟩::l) ⟨t,ds,rd⟩ h Q:=by
 refine WO.op (.slice (some ⟨h.n,0,none⟩) 0 c) (h.push (.row [] true 0)) rfl rfl (k _ _ (Zl _ _) (.inr ⟨h.n,[],fun _=>False,QE _,G2 _,rfl,zZ _ _,by simp,fun h=>h,fun k hk=>hk.elim,fun i a ha=>by simp at ha⟩))
theorem Vo{d:Nat}{hB:WF}{x y:Operand}{v w:Value}{ys:List α}(o:WZ c R b h v ([]:List α))(s:Ww c R h w ys)(hc:0<c)(hind:∀ cs a,R h cs a->Dep R h cs a (fun _=>False))(hone:∀ cs a,R h cs a->zH cs=true)
  (e0:WK hB h) (hb:hB.n<=b) (hbn:b<=h.n) (hl:ys.length<=100000) (k:∀ v' h',WK hB h'->WZ c R b h' v' ys->WO P tab l ⟨t.set d v',ds,rd⟩ h' Q) (hx:WQ t x v:=by exact zX) (hy:WQ t y w:=by exact zX):
  WO P tab (⟨some d,none,.append c x y⟩::l) ⟨t,ds,rd⟩ h Q:=by
 have hx:ev t x=v:=hx;have hy:ev t y=w:=hy;have hroom:room=4294967296:=rfl;obtain⟨cells,⟨hlen,hcase⟩,hR⟩:=s;have hpc:∀ i,i<ys.length->∃ a,ys[i]?=some a/\R h ((cells.drop (i*c)).take c) a:=fun i hi=>⟨ys[i],QB hi,hR i _ (QB hi)⟩;by_cases hy0:ys.length=0
 ·have hsrc:yM c h w=some []:=by
   rcases hcase with⟨_,rfl|⟨a,k',rfl⟩⟩|⟨g,off,row,rfl,_⟩
   ·rfl
   ·rfl
   ·rw[hy0];rfl
  have hys:ys=[]:=GH hy0;subst hys;have hv:∃ a n k,v=.slice a n k/\(a=none->n=0/\k=0):=by
   rcases o with⟨rfl,_⟩|⟨g,_,_,_,_,rfl,_⟩
   ·exact⟨_,_,_,rfl,fun _=>⟨rfl,rfl⟩⟩
   ·exact⟨_,_,_,rfl,fun h=>by cases h⟩
  refine WO.op v h rfl ?_ (k v h e0 o);obtain⟨a,n,kk,rfl,ha⟩:=hv;cases a with
  |none=>obtain⟨rfl,rfl⟩:=ha rfl;simp only[WN,hx,hy,z8,hsrc]
  |some a=>simp only[WN,hx,hy,z8,hsrc]
 ·obtain⟨g,off,row,rfl,hrow,hcut,hg⟩:=hcase.resolve_left (fun h=>hy0 h.1);have hbe:Nat.beq ys.length 0=false:=by cases hb:Nat.beq ys.length 0 with
   |false=>rfl
   |true=>exact absurd (QI hb) hy0
  have hsrc:yM c h (.slice (some ⟨g,off,none⟩) ys.length c)=some cells:=by
   simp only[yM,hbe,GP,Qf,Qn,cond_true,QR,hrow,hcut]
  have h1:zH cells=true:=zGP hc hlen fun i hi=>by
   obtain⟨a,_,r⟩:=hpc i hi;exact hone _ _ r
  obtain⟨z,zs,hz⟩:∃ z zs,cells=z::zs:=by
   cases hcl:cells with
   |nil=>exfalso;rw[hcl,Gh]at hlen;have:0<ys.length*c:=Nat.mul_pos (by omega) hc;omega
   |cons z zs=>exact⟨z,zs,rfl⟩
  have hdiv:(z::zs).length / c=ys.length:=by rw[<-hz,hlen];exact Nat.mul_div_cancel _ hc
  rw[hz]at hsrc h1;have hcc:Nat.beq c 0=false:=by cases hz:Nat.beq c 0 with
   |false=>rfl
   |true=>have:=QI hz;omega
  have fin:∀ H:WF,h.n<H.n->H.get h.n=some (.row (z::zs) true 0)->WZ c R b H (.slice (some ⟨h.n,0,none⟩) ys.length c) ys:=fun H hn hget=>
   .inr ⟨h.n,z::zs,fun _=>False,hbn,hn,rfl,hget,by rw[<-hz];exact hlen,fun h=>h,fun k hk=>hk.elim,fun i a ha=>by
    rw[<-hz];exact(hind _ _ (hR i a ha)).mono (fun _ h=>h) (fun _ _ h=>h.elim) (by omega)⟩
  rcases o with⟨rfl,_⟩|⟨g0,zIX,D,g1,g2,rfl,g4,g5,_⟩
  ·have hb1:Nat.ble ys.length room=true:=QF (by omega);refine WO.op (.slice (some ⟨h.n,0,none⟩) ys.length c) (h.push (.row (z::zs) true 0)) rfl ?_ (k _ _ (e0.push _) (fin _ (G2 _) (zZ _ _)));simp only[WN,hx,hy,z8,hsrc,h1,QS,QR,hdiv,hb1,cond_true];rfl
  ·have hc0:zIX=[]:=GH (by rw[g5,Gh,G7]);subst hc0;have hb1:Nat.ble (0+ys.length) room=true:=QF (by omega);have h2:cut [] 0 (0*c)=some ([]:List Value):=by rw[G7];rfl
   have h3:Nat.ble 0 (0+0*c)=true:=QF (QU _);refine WO.op (.slice (some ⟨h.n,0,none⟩) (0+ys.length) c) ((h.kill g0).push (.row ([]++z::zs) true (0-0))) rfl ?_ (k _ _ ((e0.kill (QN hb g1)).push _) ?_)
   ·simp only[WN,hx,hy,z8,hsrc,h1,QS,QR,hdiv,Gh,hb1,hcc,GP,g4,h2,h3,cond_true,Qf,Qn]
   ·rw[Qk];exact fin _ (G2 _) (zZ (h.kill g0) _)
end
theorem zAl{l cs:List Value}{k:Nat}(h:k+cs.length<=l.length)(m:Nat):(zO l k cs)[m]?=if m<k then l[m]? else if m<k+cs.length then cs[m-k]? else l[m]?:=by
 unfold zO;by_cases h1:m<k
 ·rw[QG h1,Q3,Qc (by rw[Ql];omega),Q4,QG h1]
 ·rw[QC h1,Q3,Qm (by rw[Ql];omega),Ql,GD (by omega)];by_cases h2:m<k+cs.length
  ·rw[QG h2,Qc (by omega)]
  ·rw[QC h2,Qm (by omega),Q8];congr 1;omega
theorem Yk{l cs:List Value}{k:Nat}(h:k+cs.length<=l.length):(zO l k cs).length=l.length:=by
 unfold zO;simp only[QT,Ql,Gk];omega
theorem YG{l:List Value}{a c m:Nat}:((l.drop a).take c)[m]?=if m<c then l[a+m]? else none:=by
 rw[Q4];split
 ·rw[Q8]
 ·rfl
theorem zGy{cells cs:List Value}{n c i j off:Nat}(hl:cells.length=n*c)(hi:i<n)(hj:j<n)(ho:off+cs.length<=c):
  ((zO cells (i*c+off) cs).drop (j*c)).take c=if j=i then zO ((cells.drop (i*c)).take c) off cs else(cells.drop (j*c)).take c:=by
 have hic:i*c+c<=n*c:=by rw[<-GX];exact Qr _ hi
 have hjc:j*c+c<=n*c:=by rw[<-GX];exact Qr _ hj
 refine Gx fun m=> ?_;rw[YG,zAl (by omega)];by_cases e:j=i
 ·subst e;rw[QG rfl,zAl (by rw[Ql,Gk];omega),YG];by_cases h1:m<c
  ·rw[QG h1,QG h1];by_cases h2:m<off
   ·rw[QG (show j*c+m<j*c+off by omega),QG h2]
   ·rw[QC (show ¬j*c+m<j*c+off by omega),QC h2];by_cases h3:m<off+cs.length
    ·rw[QG (show j*c+m<j*c+off+cs.length by omega),QG h3];congr 1;omega
    ·rw[QC (show ¬j*c+m<j*c+off+cs.length by omega),QC h3]
  ·rw[QC h1,QC h1,QC (by omega),QC (by omega)]
 ·rw[QC e,YG];by_cases h1:m<c
  ·rw[QG h1,QG h1];rcases Nat.lt_or_gt_of_ne e with h|h
   ·have:j*c+c<=i*c:=by rw[<-GX];exact Qr _ h
    rw[QG (show j*c+m<i*c+off by omega)]
   ·have:i*c+c<=j*c:=by rw[<-GX];exact Qr _ h
    rw[QC (show ¬j*c+m<i*c+off by omega),QC (show ¬j*c+m<i*c+off+cs.length by omega)]
  ·rw[QC h1,QC h1]
section
variable {α:Type}[Inhabited α]{c b:Nat}{R:WF->List Value->α->Prop}{h:WF}{v:Value}{xs:List α}
theorem zB8{i off:Nat}{cs:List Value}{a:α}(o:WZ c R b h v xs)(hi:i<xs.length)(ho:off+cs.length<=c)(hR:∀ old hx,R h old (xs.getD i default)->old.length=c->R hx (zO old off cs) a):
  ∃ g row,b<=g/\g<h.n/\v=.slice (some ⟨g,0,none⟩) xs.length c/\h.get g=some (.row row true 0)/\i*c+off+cs.length<=row.length/\∀ H:WF,h.n<=H.n->H.get g=some (.row (zO row (i*c+off) cs) true 0)->(∀ k,k<h.n->k≠g->H.get k=h.get k)->WZ c R b H v (xs.set i a):=by
 rcases o with⟨_,rfl⟩|⟨g,cells,D,g1,g2,rfl,g4,g5,g6,g7,g8⟩
 ·simp at hi
 have hic:i*c+c<=xs.length*c:=by rw[<-GX];exact Qr _ hi
 refine⟨g,cells,g1,g2,rfl,g4,by omega,fun H hn hg hk=> ?_⟩;refine .inr ⟨g,_,D,g1,QK g2 hn,by rw[GL],hg,by rw[Yk (by omega),GL];exact g5,g6,fun k hd=>⟨(g7 k hd).1,QK (g7 k hd).2 hn⟩,fun j x hx=> ?_⟩;have hj:j<xs.length:=by have:=(QM.1 hx).1;rwa [GL]at this
 have hkk:∀ k o,D k->h.get k=some o->H.get k=some o:=fun k o hd e=>(hk k (g7 k hd).2 (fun e2=>g6 (e2▸hd))).trans e;rw[zGy g5 hi hj ho];by_cases e:j=i
 ·subst e;rw[QG rfl];rw[List.getElem?_set_self hi]at hx;cases hx;intro hx2 _ _;refine hR _ _ (?_:R h _ _) ?_
  ·have:=(g8 j xs[j] (QB hi)).self;rw[QL,QB hi];exact this
  ·rw[Ql,Gk];omega
 ·rw[QC e];rw[List.getElem?_set_ne (fun h=>e h.symm)]at hx;exact(g8 j x hx).mono (fun _ h=>h) hkk hn
theorem zO5{i off:Nat}{cs:List Value}{a:α}(o:WZ c R b h v xs)(hi:i<xs.length)(ho:off+cs.length<=c)(h1:zH cs=true)(hR:∀ old hx,R h old (xs.getD i default)->old.length=c->R hx (zO old off cs) a):
  ∃ g row,b<=g/\g<h.n/\v=.slice (some ⟨g,0,none⟩) xs.length c/\ze h ⟨g,i*c+off,none⟩ cs=some (h.set g (.row row true 0))/\∀ H:WF,h.n<=H.n->H.get g=some (.row row true 0)->(∀ k,k<h.n->k≠g->H.get k=h.get k)->WZ c R b H v (xs.set i a):=by
 obtain⟨g,row,g1,g2,g3,g4,g5,g6⟩:=zB8 o hi ho hR;refine⟨g,_,g1,g2,g3,?_,g6⟩;have h2:Nat.ble (i*c+off+cs.length) row.length=true:=QF g5;have h3:Nat.ble 0 (i*c+off)=true:=QF (QU _);simp only[ze,g4,h2,h3,h1,Qf,Qn,cond_true]
variable {P:Program}{tab:Wv}{t:WI Value}{ds:List Deferred}{rd:Option Nat}{l:List WG}{Q:WR->WF->Prop}
theorem XJ{hB hS X:WF}{N0 m g:Nat}{cl:Bool}{i off n:Nat}{cs:List Value}{x y:Operand}{u:Value}{K:WP->WR->WF->Prop}(a:α)(o:WZ c R b X v xs)(e0:WK hB hS)(hm:hS.mark<=hB.n)(hX:zq hS X=hS)(hb:hB.n<=b)(hi:i<xs.length)(hR:∀ old hx,R X old (xs.getD i default)->old.length=c->R hx (zO old off cs) a)
  (k:∀ h',WK hB h'->WZ c R b h' v (xs.set i a)->h'.n=hS.n->(∀ k,k<hS.n->(∀ n k',v≠ .slice (some ⟨k,0,none⟩) n k')->h'.get k=hS.get k)->K .normal ⟨t,ds,rd⟩ h')
  (hx:WQ t x (zR v (i*c+off)):=by exact zX) (hy:WQ t y u:=by exact zX) (hu:u.cells=cs.toArray:=by rfl) (hn:cs.length=n:=by rfl) (ho:off+cs.length<=c:=by decide) (h1:zH cs=true:=by rfl) (hm0:m=hS.mark:=by rfl):
  We P tab m N0 [(⟨none,none,.store n x y⟩,[])] g cl ⟨t,ds,rd⟩ (inC X) (B5 K hS):=by
 subst hm0;obtain⟨q,row,q1,q2,rfl,hst,hown⟩:=zO5 o hi ho h1 hR;have hx:ev t x=.pointer (some ⟨q,0+(i*c+off),none⟩):=hx;rw[Qk]at hx;have hy:ev t y=u:=hy;have hnn:Nat.beq cs.length n=true:=by rw[hn];exact GP _
 have gX:∀ c,X.get c=hS.get c:=fun c=>by have:=congrArg (fun h:WF=>h.get c) hX;exact this
 have nX:X.n=hS.n:=by have:=congrArg WF.n hX;exact this
 rw[We,QC (show ¬Nat.beq (zG (W4.store n x y)) 3=true from Bool.noConfusion)];have hst':ze (inC (inC X)) ⟨q,i*c+off,none⟩ cs=some ((inC (inC X)).set q (.row row true 0)):=by
  have e1:(inC (inC X)).get q=X.get q:=rfl;unfold ze at hst |-;rw[e1];cases hq:X.get q with
  |none=>rw[hq]at hst;cases hst
  |some o=>
   rw[hq]at hst;cases o with
   |row cells own lo=>
    cases own with
    |false=>cases hst
    |true=>
     simp only at hst |-;cases hbb:(Nat.ble (i*c+off+cs.length) cells.length&&Nat.ble lo (i*c+off)&&Option.isNone (none:Option _)&&zH cs)with
     |false=>rw[hbb]at hst;cases hst
     |true=>
      rw[hbb]at hst;simp only[cond_true,QA]at hst |-;have:=congrArg (fun H:WF=>H.get q) hst;simp only[zT,Q9,QA]at this;rw[this]
   |_=>cases hst
 refine VS undef ((inC (inC X)).set q (.row row true 0)) rfl (by
  simp only[WN,hx,hy,hu,Gw,hnn,hst',QH,cond_true]) ?_
 refine WO.nil ⟨⟨fun k hk=> ?_,QE _,.inl rfl⟩,?_⟩
 ·have hk2:k∈(inC (inC X)).log q:=hk;rcases yw hk2 with rfl|hk3
  ·omega
  ·cases hk3
 have get2:∀ k,(zq hS ((inC (inC X)).set q (.row row true 0))).get k=if k=q then some (.row row true 0)else hS.get k:=fun k=>by
  have e1:((inC (inC X)).set q (.row row true 0)).get k=if k=q then some (.row row true 0)else(inC (inC X)).get k:=zT ..;refine e1.trans ?_;split
  ·rfl
  ·exact gX k
 refine k (zq hS ((inC (inC X)).set q (.row row true 0))) ?_ (hown _ (QE _) (by rw[get2,QG rfl]) (fun k _ hk=>by rw[get2,QC hk,gX])) nX (fun c hc hv=>by rw[get2,QC (fun e=>hv _ _ (by rw[e]))]);refine⟨by show hB.n<=X.n;rw[nX];exact e0.n,fun c hc=>by rw[get2,QC (by omega)];exact e0.get c hc,fun w c hc=> ?_,e0.mark,fun hmk=>e0.wr hmk⟩;have hc:X.n<=c:=hc;rw[get2,QC (by omega)];exact e0.wf w c (by omega)
end
section
variable {P:Program}{tab:Wv}{t:WI Value}{h:WF}{ds:List Deferred}{rd:Option Nat}{l:List WG}{Q:WR->WF->Prop}
theorem V3{hB hS X:WF}{N0 m g:Nat}{cl:Bool}{j n:Nat}{cells cs:List Value}{p u:Value}{x y:Operand}{K:WP->WR->WF->Prop}(o:WH hB X p cells)(e0:WK hB hS)(hm:hS.mark<=hB.n)(hX:zq hS X=hS)
  (k:∀ h',WK hB h'->WH hB h' p (zO cells j cs)->Ws p hS h'->K .normal ⟨t,ds,rd⟩ h') (hl:j+cs.length<=cells.length)
  (hx:WQ t x (zw p j):=by exact zX) (hy:WQ t y u:=by exact zX) (hu:u.cells=cs.toArray:=by rfl) (hn:cs.length=n:=by rfl) (h1:zH cs=true:=by rfl) (hm0:m=hS.mark:=by rfl):
  We P tab m N0 [(⟨none,none,.store n x y⟩,[])] g cl ⟨t,ds,rd⟩ (inC X) (B5 K hS):=by
 subst hm0;obtain⟨q,q1,q2,rfl,q4⟩:=o;have hx:ev t x=.pointer (some ⟨q,0+j,none⟩):=hx;rw[Qk]at hx;have hy:ev t y=u:=hy;have hnn:Nat.beq cs.length n=true:=by rw[hn];exact GP _
 have gX:∀ c,X.get c=hS.get c:=fun c=>by have:=congrArg (fun h:WF=>h.get c) hX;exact this
 have nX:X.n=hS.n:=by have:=congrArg WF.n hX;exact this
 rw[We,QC (show ¬Nat.beq (zG (W4.store n x y)) 3=true from Bool.noConfusion)];have hst':ze (inC (inC X)) ⟨q,j,none⟩ cs=some ((inC (inC X)).set q (.row (zO cells j cs) true 0)):=by
  have e1:(inC (inC X)).get q=some (.row cells true 0):=q4;have h2:Nat.ble (j+cs.length) cells.length=true:=QF hl;have h3:Nat.ble 0 j=true:=QF (QU _);simp only[ze,e1,h2,h3,h1,Qf,Qn,cond_true]
 refine VS undef ((inC (inC X)).set q (.row (zO cells j cs) true 0)) rfl (by
  simp only[WN,hx,hy,hu,Gw,hnn,hst',QH,cond_true]) ?_
 refine WO.nil ⟨⟨fun k hk=> ?_,QE _,.inl rfl⟩,?_⟩
 ·have hk2:k∈(inC (inC X)).log q:=hk;rcases yw hk2 with rfl|hk3
  ·omega
  ·cases hk3
 have get2:∀ k,(zq hS ((inC (inC X)).set q (.row (zO cells j cs) true 0))).get k=if k=q then some (.row (zO cells j cs) true 0)else hS.get k:=fun k=>by
  have e1:((inC (inC X)).set q (.row (zO cells j cs) true 0)).get k=if k=q then some (.row (zO cells j cs) true 0)else(inC (inC X)).get k:=zT ..;refine e1.trans ?_;split
  ·rfl
  ·exact gX k
 refine k (zq hS ((inC (inC X)).set q (.row (zO cells j cs) true 0))) ?_ ⟨q,q1,q2,rfl,by rw[get2,QG rfl]⟩ ⟨by show hS.n<=X.n;omega,fun c hc hv=>by rw[get2,QC (fun e=>hv (by rw[e]))]⟩;refine⟨by show hB.n<=X.n;rw[nX];exact e0.n,fun c hc=>by rw[get2,QC (by omega)];exact e0.get c hc,fun w c hc=> ?_,e0.mark,fun hmk=>e0.wr hmk⟩;have hc:X.n<=c:=hc;rw[get2,QC (by omega)];exact e0.wf w c (by omega)
end
def zBp(a b:Int):List (Int×Int)->List (Int×Int)
 |[]=>[(a,b)]
 |(k,v)::es=>if a == k then(k,b)::es else(k,v)::zBp a b es
section
variable {P:Program}{tab:Wv}{t:WI Value}{h h0:WF}{ds:List Deferred}{rd:Option Nat}{l:List WG}{Q:WR->WF->Prop}
end
section
variable {P:Program}{tab:Wv}{N0 m g:Nat}{cl:Bool}{t:WI Value}{ds:List Deferred}{rd:Option Nat}{K:WP->WR->WF->Prop}
theorem XM{hS X:WF}{d n:Nat}{y:Operand}{v:Value}{zero cs:List Value}(eX:WK (inC (zB 1 hS)) X)(hm:hS.mark<=hS.n)(k:∀ H p,WK hS H->WH hS H p cs->K .normal ⟨t.set d p,ds,rd⟩ H)
  (hy:∀ p,WQ (t.set d p) y v:=by intro p;exact zX) (hv:v.cells=cs.toArray:=by rfl) (hz:zero.length=n:=by rfl) (hn:cs.length=n:=by rfl) (h1:zH cs=true:=by rfl) (hm0:m=hS.mark:=by rfl) (hg0:g=hS.n:=by rfl):
  We P tab m N0 [(⟨some d,none,.alloc zero⟩,[]),(⟨none,none,.store n (.tmp d) y⟩,[])] g cl ⟨t,ds,rd⟩ (inC X) (B5 K hS):=by
 subst hm0 hg0;have hlt:hS.n<X.n:=eX.n;refine XL hm hlt ?_ (hy _) hv hz hn h1;have e6:=zHQ (o:= .row zero true 0) (o':= .row cs true 0) (k:=0) eX;have o6:=zG6 (cs:=cs) (o:= .row zero true 0) eX;exact k _ _ e6 o6
theorem We.mk{h:WF}{d:Nat}{gd:Option (Nat×Bool)}{op:W4}{ob:Wm}{f:Nat->Value}{l:List (WG×List Nat)}{Q:WR->WF->Prop}(hm:m<=g)(hmade:yg t op=some (ob,f))(hx:We P tab m N0 l (g+1) false ⟨t.set d (f g),ds,rd⟩ ((inC h).lay g ob) Q)(hk:Nat.beq (zG op) 3=true:=by rfl)(hw:zW t gd=true:=by rfl):
  We P tab m N0 ((⟨some d,gd,op⟩,[])::l) g cl ⟨t,ds,rd⟩ (inC h) Q:=by
 rw[We,QG hk];exact⟨rfl,.inl ⟨hw,hm,ob,f,hmade,hx⟩⟩
theorem We.no{h:WF}{d j:Nat}{b want:Bool}{op:W4}{l:List (WG×List Nat)}{Q:WR->WF->Prop}(hx:We P tab m N0 l (g+1) cl ⟨t.set d undef,ds,rd⟩ (inC h) Q)(hk:Nat.beq (zG op) 3=true:=by rfl)(s:Wq t j (.bool b):=by exact YZ)(hb:(b == want)=false:=by rfl):
  We P tab m N0 ((⟨some d,some (j,want),op⟩,[])::l) g cl ⟨t,ds,rd⟩ (inC h) Q:=by
 rw[We,QG hk];have s:zC t j=.bool b:=s;exact⟨rfl,.inr ⟨by simp only[zW,s,hb],hx⟩⟩
theorem zKf{j:Nat}{b want:Bool}(s:Wq t j (.bool b))(hb:(b == want)=true):zW t (some (j,want))=true:=by
 have s:zC t j=.bool b:=s;simp only[zW,s,hb]
theorem We.inC{h:WF}{fr:WR}{x:WG×List Nat}{l:List (WG×List Nat)}{Q:WR->WF->Prop}(hx:We P tab m N0 (x::l) g cl fr (Am.inC h) Q):We P tab m N0 (x::l) g cl fr h Q:=by
 obtain⟨o,un⟩:=x;unfold We at hx |-;exact hx
theorem zDf(h:WF)(g:Nat)(o:Wm)(j:Nat):((Am.inC h).lay g o).get j=if j=g then some o else h.get j:=zd _ _ _ _
theorem V8{X:WF}{d:Nat}{gd:Option (Nat×Bool)}{op:W4}{ob:Wm}{f:Nat->Value}{x:WG×List Nat}{l:List (WG×List Nat)}{Q:WR->WF->Prop}(hm:m<=g)(hmade:yg t op=some (ob,f))
  (k:∀ X',X'.n=X.n->(∀ j,X'.get j=if j=g then some ob else X.get j)->We P tab m N0 (x::l) (g+1) false ⟨t.set d (f g),ds,rd⟩ (Am.inC X') Q) (hk:Nat.beq (zG op) 3=true) (hw:zW t gd=true:=by rfl):We P tab m N0 ((⟨some d,gd,op⟩,[])::x::l) g cl ⟨t,ds,rd⟩ (Am.inC X) Q:=
 We.mk hm hmade (We.inC (k _ rfl fun j=>zDf X g ob j)) hk hw
theorem Vk{X:WF}{d n:Nat}{gd:Option (Nat×Bool)}{zero:List Value}{parts:List (Nat×Nat×Operand)}{vs:List (Nat×Nat×Value)}{x:WG×List Nat}{l:List (WG×List Nat)}{Q:WR->WF->Prop}(xs:List Int)(hm:m<=g)
  (k:∀ X',X'.n=X.n->(∀ j,X'.get j=if j=g then some (.row (xs.map I) true 0)else X.get j)->We P tab m N0 (x::l) (g+1) false ⟨t.set d (.slice (some ⟨g,0,none⟩) xs.length 1),ds,rd⟩ (Am.inC X') Q)
  (hp:BA t parts vs:=by(repeat (apply BA.cons;(exact zP)));exact BA.nil) (hn:xs.length=n:=by rfl) (hf:y9 (zS zero n) vs=some (xs.map I):=by rfl) (hw:zW t gd=true:=by first|rfl|exact zKf YZ rfl):
  We P tab m N0 ((⟨some d,gd,.buildSlice n 1 zero parts⟩,[])::x::l) g cl ⟨t,ds,rd⟩ (Am.inC X) Q:=by
 subst hn;have hp:zr t parts=vs:=hp;exact V8 (f:=fun g=> .slice (some ⟨g,0,none⟩) xs.length 1) hm (by simp only[yg,hp,hf,QH]) k rfl hw
theorem Xd{X:WF}{d c n:Nat}{zero:List Value}{x y:Operand}{o:WG×List Nat}{l:List (WG×List Nat)}{Q:WR->WF->Prop}(hm:m<=g)(hr:n<=100000)
  (k:∀ X',X'.n=X.n->(∀ j,X'.get j=if j=g then some (.row (zS zero n) true 0)else X.get j)->We P tab m N0 (o::l) (g+1) false ⟨t.set d (.slice (some ⟨g,0,none⟩) n c),ds,rd⟩ (Am.inC X') Q) (hx:WQ t x (I (n:Int)):=by exact zX) (hy:WQ t y (I (n:Int)):=by exact zX):
  We P tab m N0 ((⟨some d,none,.mkSlice c zero x y⟩,[])::o::l) g cl ⟨t,ds,rd⟩ (Am.inC X) Q:=by
 have hx:ev t x=I (n:Int):=hx;have hy:ev t y=I (n:Int):=hy;have hn:BH (I (n:Int))=some n:=rfl;have h1:Nat.ble n room=true:=QF (by have:room=4294967296:=rfl;omega);have h2:Nat.ble n n=true:=QF (QE _);exact V8 (f:=fun g=> .slice (some ⟨g,0,none⟩) n c) hm (by simp only[yg,hx,hy,hn,h1,h2,Qn,cond_true]) k rfl
theorem XZ{X:WF}{d:Nat}{x:Operand}{v:Value}{cs:List Value}{o:WG×List Nat}{l:List (WG×List Nat)}{Q:WR->WF->Prop}(hm:m<=g)
  (k:∀ X',X'.n=X.n->(∀ j,X'.get j=if j=g then some (.row cs true 0)else X.get j)->We P tab m N0 (o::l) (g+1) false ⟨t.set d (.pointer (some ⟨g,0,none⟩)),ds,rd⟩ (Am.inC X') Q) (hx:WQ t x v:=by exact zX) (hv:v.cells.toList=cs:=by rfl):
  We P tab m N0 ((⟨some d,none,.box x⟩,[])::o::l) g cl ⟨t,ds,rd⟩ (Am.inC X) Q:=by
 have hx:ev t x=v:=hx;subst hv;exact V8 (f:=fun g=> .pointer (some ⟨g,0,none⟩)) hm (by simp only[yg,hx]) k rfl
end
theorem zBL{h:WF}{q off:Nat}{row cs:List Value}(hq:h.get q=some (.row row true 0))(hl:off+cs.length<=row.length)(h1:zH cs=true):ze h ⟨q,off,none⟩ cs=some (h.set q (.row (zO row off cs) true 0)):=by
 have h2:Nat.ble (off+cs.length) row.length=true:=QF hl;have h3:Nat.ble 0 off=true:=QF (QU _);simp only[ze,hq,h2,h3,h1,Qf,Qn,cond_true]
section
variable {P:Program}{tab:Wv}{t:WI Value}{ds:List Deferred}{rd:Option Nat}
variable {m N0 g:Nat}{cl:Bool}{K:WP->WR->WF->Prop}{hS X:WF}{q off n:Nat}{row cs:List Value}{x y:Operand}{u:Value}
theorem V4{h:WF}{Q:WR->WF->Prop}{l:List WG}(hq:h.get q=some (.row row true 0))(hl:off+cs.length<=row.length)(hx:WQ t x (.pointer (some ⟨q,off,none⟩)))(hy:WQ t y u)(hu:u.cells=cs.toArray)(hn:cs.length=n)(h1:zH cs=true)
  (k:WO P tab l ⟨t,ds,rd⟩ (h.set q (.row (zO row off cs) true 0)) Q):WO P tab (⟨none,none,.store n x y⟩::l) ⟨t,ds,rd⟩ h Q:=by
 have hx:ev t x=_:=hx;have hy:ev t y=u:=hy;have hnn:Nat.beq cs.length n=true:=by rw[hn];exact GP _
 exact VS undef _ rfl (by simp only[WN,hx,hy,hu,Gw,hnn,zBL hq hl h1,QH,cond_true]) k
theorem zDo{h:WF}{q m:Nat}(hm:m<=q)(hw:h.wr=[]):∀ k∈(h.log q),m<=k:=fun k hk=>by
 rcases yw hk with rfl|h2
 ·exact hm
 ·rw[hw]at h2;cases h2
theorem XC{o:WG×List Nat}{l:List (WG×List Nat)}{Q:WR->WF->Prop}(hq:X.get q=some (.row row true 0))(hm:m<=q)(k:∀ X',X'.n=X.n->(∀ j,j≠q->X'.get j=X.get j)->X'.get q=some (.row (zO row off cs) true 0)->(Wf X->Wf X')->∀ cl',We P tab m N0 (o::l) g cl' ⟨t,ds,rd⟩ (Am.inC X') Q)
  (hl:off+cs.length<=row.length) (hx:WQ t x (.pointer (some ⟨q,off,none⟩)):=by exact zX) (hy:WQ t y u:=by exact zX) (hu:u.cells=cs.toArray:=by rfl) (hn:cs.length=n:=by rfl) (h1:zH cs=true:=by rfl):
  We P tab m N0 ((⟨none,none,.store n x y⟩,[])::o::l) g cl ⟨t,ds,rd⟩ (Am.inC X) Q:=by
 refine We.q rfl ?_;refine V4 hq hl hx hy hu hn h1 ?_;refine WO.nil (zMd (zDo hm rfl) (QE _) fun cl'=>k ((Am.inC X).set q (.row (zO row off cs) true 0)) rfl (fun j hj=> ?_) ?_ (fun w j hj=> ?_) cl')
 ·exact(zT _ _ _ _).trans (QC hj)
 ·exact(zT _ _ _ _).trans (QG rfl)
 ·have hj:X.n<=j:=hj;by_cases e:j=q
  ·subst e;have:=w.lt hq;omega
  ·exact(zT _ _ _ _).trans ((QC e).trans (w j hj))
theorem Xh(hq:X.get q=some (.row row true 0))(hm:m<=q)(k:∀ H,H.n=X.n->(∀ j,j≠q->H.get j=X.get j)->H.get q=some (.row (zO row off cs) true 0)->(Wf X->Wf H)->H.mark=hS.mark->H.wr=hS.wr->K .normal ⟨t,ds,rd⟩ H)
  (hl:off+cs.length<=row.length) (hx:WQ t x (.pointer (some ⟨q,off,none⟩)):=by exact zX) (hy:WQ t y u:=by exact zX) (hu:u.cells=cs.toArray:=by rfl) (hn:cs.length=n:=by rfl) (h1:zH cs=true:=by rfl):
  We P tab m N0 [(⟨none,none,.store n x y⟩,[])] g cl ⟨t,ds,rd⟩ (Am.inC X) (B5 K hS):=by
 refine We.q rfl ?_;refine V4 hq hl hx hy hu hn h1 ?_;refine WO.nil (zPT (zDo hm rfl) (QE _) (k _ rfl (fun j hj=> ?_) ?_ (fun w j hj=> ?_) rfl rfl))
 ·exact(zT _ _ _ _).trans (QC hj)
 ·exact(zT _ _ _ _).trans (QG rfl)
 ·have hj:X.n<=j:=hj;by_cases e:j=q
  ·subst e;have:=w.lt hq;omega
  ·exact(zT _ _ _ _).trans ((QC e).trans (w j hj))
theorem V9{o:WG×List Nat}{l:List (WG×List Nat)}{Q:WR->WF->Prop}{hB:WF}{p:Value}{cells:List Value}{j:Nat}(oc:WH hB X p cells)(hm:m<=hB.n)(k:∀ X',X'.n=X.n->(∀ j,p≠ .pointer (some ⟨j,0,none⟩)->X'.get j=X.get j)->WH hB X' p (zO cells j cs)->(Wf X->Wf X')->∀ cl',We P tab m N0 (o::l) g cl' ⟨t,ds,rd⟩ (Am.inC X') Q)
  (hl:j+cs.length<=cells.length:=by decide) (hx:WQ t x (zw p j):=by exact zX) (hy:WQ t y u:=by exact zX) (hu:u.cells=cs.toArray:=by rfl) (hn:cs.length=n:=by rfl) (h1:zH cs=true:=by rfl):
  We P tab m N0 ((⟨none,none,.store n x y⟩,[])::o::l) g cl ⟨t,ds,rd⟩ (Am.inC X) Q:=by
 obtain⟨q,q1,q2,rfl,q3⟩:=oc;rw[show zw (.pointer (some ⟨q,0,none⟩)) j=.pointer (some ⟨q,j,none⟩) by show Value.pointer (some ⟨q,0+j,none⟩)=_;rw[Qk]]at hx;exact XC q3 (QN hm q1) (fun X' n1 k1 g1 w1=>k X' n1 (fun j hj=>k1 j fun e=>hj (by rw[e])) ⟨q,q1,n1▸q2,rfl,g1⟩ w1) hl hx hy hu hn h1
theorem V6{hB:WF}{p:Value}{cells:List Value}{j:Nat}(oc:WH hB X p cells)(hm:m<=hB.n)(k:∀ H,H.n=X.n->(∀ j,p≠ .pointer (some ⟨j,0,none⟩)->H.get j=X.get j)->WH hB H p (zO cells j cs)->(Wf X->Wf H)->H.mark=hS.mark->H.wr=hS.wr->K .normal ⟨t,ds,rd⟩ H)
  (hl:j+cs.length<=cells.length:=by decide) (hx:WQ t x (zw p j):=by exact zX) (hy:WQ t y u:=by exact zX) (hu:u.cells=cs.toArray:=by rfl) (hn:cs.length=n:=by rfl) (h1:zH cs=true:=by rfl):
  We P tab m N0 [(⟨none,none,.store n x y⟩,[])] g cl ⟨t,ds,rd⟩ (Am.inC X) (B5 K hS):=by
 obtain⟨q,q1,q2,rfl,q3⟩:=oc;rw[show zw (.pointer (some ⟨q,0,none⟩)) j=.pointer (some ⟨q,j,none⟩) by show Value.pointer (some ⟨q,0+j,none⟩)=_;rw[Qk]]at hx;exact Xh q3 (QN hm q1) (fun X' n1 k1 g1 w1=>k X' n1 (fun j hj=>k1 j fun e=>hj (by rw[e])) ⟨q,q1,n1▸q2,rfl,g1⟩ w1) hl hx hy hu hn h1
section
variable {α:Type}[Inhabited α]{R:WF->List Value->α->Prop}{c b i:Nat}{v:Value}{xs:List α}{a:α}
theorem UR{o:WG×List Nat}{l:List (WG×List Nat)}{Q:WR->WF->Prop}(a:α)(oc:WZ c R b X v xs)(hm:m<=b)(hi:i<xs.length)(hR:∀ old hx,R X old (xs.getD i default)->old.length=c->R hx (zO old off cs) a)(k:∀ X',X'.n=X.n->(∀ j,j<X.n->(∀ n k',v≠ .slice (some ⟨j,0,none⟩) n k')->X'.get j=X.get j)->WZ c R b X' v (xs.set i a)->(Wf X->Wf X')->∀ cl',We P tab m N0 (o::l) g cl' ⟨t,ds,rd⟩ (Am.inC X') Q)
  (ho:off+cs.length<=c:=by decide) (hx:WQ t x (zR v (i*c+off)):=by exact zX) (hy:WQ t y u:=by exact zX) (hu:u.cells=cs.toArray:=by rfl) (hn:cs.length=n:=by rfl) (h1:zH cs=true:=by rfl):
  We P tab m N0 ((⟨none,none,.store n x y⟩,[])::o::l) g cl ⟨t,ds,rd⟩ (Am.inC X) Q:=by
 obtain⟨q,row,q1,q2,rfl,q4,q5,q6⟩:=zB8 oc hi ho hR;rw[show zR (.slice (some ⟨q,0,none⟩) xs.length c) (i*c+off)=.pointer (some ⟨q,i*c+off,none⟩) by show Value.pointer (some ⟨q,0+(i*c+off),none⟩)=_;rw[Qk]]at hx;exact XC q4 (QN hm q1) (fun X' n1 k1 g1 w1=>k X' n1 (fun j hj hv=>k1 j fun e=>hv _ _ (by subst e;rfl)) (q6 X' (Nat.le_of_eq n1.symm) g1 fun j _ hj=>k1 j hj) w1) q5 hx hy hu hn h1
theorem UM(a:α)(oc:WZ c R b X v xs)(hm:m<=b)(hi:i<xs.length)(hR:∀ old hx,R X old (xs.getD i default)->old.length=c->R hx (zO old off cs) a)(k:∀ H,H.n=X.n->(∀ j,j<X.n->(∀ n k',v≠ .slice (some ⟨j,0,none⟩) n k')->H.get j=X.get j)->WZ c R b H v (xs.set i a)->(Wf X->Wf H)->H.mark=hS.mark->H.wr=hS.wr->K .normal ⟨t,ds,rd⟩ H)
  (ho:off+cs.length<=c:=by decide) (hx:WQ t x (zR v (i*c+off)):=by exact zX) (hy:WQ t y u:=by exact zX) (hu:u.cells=cs.toArray:=by rfl) (hn:cs.length=n:=by rfl) (h1:zH cs=true:=by rfl):
  We P tab m N0 [(⟨none,none,.store n x y⟩,[])] g cl ⟨t,ds,rd⟩ (Am.inC X) (B5 K hS):=by
 obtain⟨q,row,q1,q2,rfl,q4,q5,q6⟩:=zB8 oc hi ho hR;rw[show zR (.slice (some ⟨q,0,none⟩) xs.length c) (i*c+off)=.pointer (some ⟨q,i*c+off,none⟩) by show Value.pointer (some ⟨q,0+(i*c+off),none⟩)=_;rw[Qk]]at hx;exact Xh q4 (QN hm q1) (fun X' n1 k1 g1 w1=>k X' n1 (fun j hj hv=>k1 j fun e=>hv _ _ (by subst e;rfl)) (q6 X' (Nat.le_of_eq n1.symm) g1 fun j _ hj=>k1 j hj) w1) q5 hx hy hu hn h1
end
theorem zID{c g off len n:Nat}(hn:n<=len):yU c (.slice (some ⟨g,off,none⟩) len c) none (some n) (some n)=some (.slice (some ⟨g,off,none⟩) n (if n=0 then 0 else c)):=by
 have b1:Nat.ble 0 n=true:=QF (QU _);have b2:Nat.ble n len=true:=QF hn;have b3:Nat.ble n n=true:=QF (QE _);simp only[yU,Ge,Q1,b1,b2,b3,Qf,Qn,cond_true,GP,G7,G9,Nat.sub_zero];by_cases h:n=0
 ·subst h;rfl
 ·rw[QC h];cases hb:Nat.beq n 0 with
  |true=>exact absurd (QI hb) h
  |false=>rfl
theorem zA7{c g off len n:Nat}(hn:n<=len):yU c (.slice (some ⟨g,off,none⟩) len c) (some n) none none=some (.slice (some ⟨g,off+n*c,none⟩) (len-n) c):=by
 have b1:Nat.ble n len=true:=QF hn;have b2:Nat.ble len len=true:=QF (QE _);simp only[yU,Ge,Q1,b1,b2,Qf,Qn,cond_true,GP]
theorem UV{h:WF}{Q:WR->WF->Prop}{l:List WG}{d c i:Nat}{x y z:Operand}{v r:Value}(hr:yU c v none (some i) (some i)=some r)(k:WO P tab l ⟨t.set d r,ds,rd⟩ h Q)(hx:WQ t x v:=by exact zX)(hy:WQ t y (I (i:Int)):=by exact zX)(hz:WQ t z (I (i:Int)):=by exact zX):
  WO P tab (⟨some d,none,.slice c x none (some y) (some z)⟩::l) ⟨t,ds,rd⟩ h Q:=by
 have hx:ev t x=v:=hx;have hy:ev t y=I (i:Int):=hy;have hz:ev t z=I (i:Int):=hz;exact WO.op r h rfl (by simp only[WN,hx,Yv,hy,hz,BH,hr,QH];first|done|rfl) k
theorem Xs{h:WF}{Q:WR->WF->Prop}{l:List WG}{d c n:Nat}{zero:List Value}(hr:n<=100000)(k:∀ h',WK h h'->h'.n=h.n+1->h'.get h.n=some (.row (zS zero n) true 0)->WO P tab l ⟨t.set d (.slice (some ⟨h.n,0,none⟩) n c),ds,rd⟩ h' Q)
  (hx:WQ t x (I (n:Int)):=by exact zX) (hy:WQ t y (I (n:Int)):=by exact zX):WO P tab (⟨some d,none,.mkSlice c zero x y⟩::l) ⟨t,ds,rd⟩ h Q:=by
 have h1:Nat.ble n room=true:=QF (by have:room=4294967296:=rfl;omega);have h2:Nat.ble n n=true:=QF (QE _);have hx:ev t x=I (n:Int):=hx;have hy:ev t y=I (n:Int):=hy;have hn:BH (I (n:Int))=some n:=rfl;exact WO.op _ _ rfl (by simp only[WN,hx,hy,hn,h1,h2,Qn,cond_true]<;>rfl) (k _ (Zl _ _) rfl (zZ _ _))
theorem Xe{h:WF}{Q:WR->WF->Prop}{l:List WG}{d c k:Nat}{w:Value}{ys:List Value}(hq:h.get q=some (.row row true 0))(s:Wt c h w k ys)(hc:0<c)(hk:k<=n)(hl:off+ys.length<=row.length)(h1:zH ys=true)
  (hX:∀ h',h'.n=h.n->(∀ j,j≠q->h'.get j=h.get j)->h'.get q=some (.row (zO row off ys) true 0)->(Wf h->Wf h')->h'.mark=h.mark->(h.mark<=q->h'.wr=h.wr)->WO P tab l ⟨t.set d (I k),ds,rd⟩ h' Q)
  (hx:WQ t x (.slice (some ⟨q,off,none⟩) n c):=by exact zX) (hy:WQ t y w:=by exact zX):WO P tab (⟨some d,none,.copy c x y⟩::l) ⟨t,ds,rd⟩ h Q:=by
 have hx:ev t x=_:=hx;have hy:ev t y=_:=hy;have hs:=ZI s;have hlen:ys.length / c=k:=by rw[s.1];exact Nat.mul_div_cancel _ hc
 have hmin:min (ys.length / c) n=k:=by rw[hlen];exact GD hk
 have htk:ys.take (k*c)=ys:=Qo (by rw[s.1];exact QE _);by_cases h0:k=0
 ·subst h0;have hys:ys=[]:=GH (by rw[s.1,G7]);subst hys;refine WO.op (I (0:Nat)) h rfl ?_ (hX h rfl (fun _ _=>rfl) ?_ id rfl (fun _=>rfl))
  ·simp only[WN,hx,hy,hs,hmin];rfl
  ·rw[hq];simp[zO]
 ·have hb:Nat.beq k 0=false:=by cases hb:Nat.beq k 0 with
   |false=>rfl
   |true=>exact absurd (QI hb) h0
  refine WO.op (I k) (h.set q (.row (zO row off ys) true 0)) rfl ?_ (hX _ rfl (fun j hj=>by rw[zT,QC hj]) (by rw[zT,QG rfl]) (fun wf j hj=> ?_) rfl fun hm=>YR hm)
  ·simp only[WN,hx,hy,hs,hmin,htk,hb,QR,GP,Qf,Qn,cond_true,zBL hq hl h1,QH]
  ·have hj:h.n<=j:=hj;by_cases e:j=q
   ·subst e;have:=wf.lt hq;omega
   ·rw[zT,QC e];exact wf j hj
end
section
variable {P:Program}{tab:Wv}{t:WI Value}{ds:List Deferred}{rd:Option Nat}
variable {q off n:Nat}{row:List Value}{x y:Operand}
theorem Xv{h:WF}{Q:WR->WF->Prop}{l:List WG}{d c k m:Nat}{w:Value}{ys:List Value}(hq:h.get q=some (.row row true 0))(s:Wt c h w k ys)(hc:0<c)(hk:min k n=m)(hl:off+m*c<=row.length)(h1:zH ys=true)
  (hX:∀ h',h'.n=h.n->(∀ j,j≠q->h'.get j=h.get j)->h'.get q=some (.row (zO row off (ys.take (m*c))) true 0)->(Wf h->Wf h')->h'.mark=h.mark->(h.mark<=q->h'.wr=h.wr)->(∀ j∈h'.wr,j=q\/j∈h.wr)->WO P tab l ⟨t.set d (I m),ds,rd⟩ h' Q)
  (hx:WQ t x (.slice (some ⟨q,off,none⟩) n c):=by exact zX) (hy:WQ t y w:=by exact zX):WO P tab (⟨some d,none,.copy c x y⟩::l) ⟨t,ds,rd⟩ h Q:=by
 have hx:ev t x=_:=hx;have hy:ev t y=_:=hy;have hs:=ZI s;have hlen:ys.length / c=k:=by rw[s.1];exact Nat.mul_div_cancel _ hc
 have hmin:min (ys.length / c) n=m:=by rw[hlen];exact hk
 have hml:(ys.take (m*c)).length=m*c:=by
  rw[Ql,s.1];have:m*c<=k*c:=Qr _ (by omega);omega
 by_cases h0:m=0
 ·subst h0;refine WO.op (I (0:Nat)) h rfl ?_ (hX h rfl (fun _ _=>rfl) ?_ id rfl (fun _=>rfl) fun j hj=> .inr hj)
  ·simp only[WN,hx,hy,hs,hmin];rfl
  ·rw[hq];simp[zO]
 ·have hb:Nat.beq m 0=false:=by cases hb:Nat.beq m 0 with
   |false=>rfl
   |true=>exact absurd (QI hb) h0
  have h2:zH (ys.take (m*c))=true:=by
   unfold zH at *;rw[QV]at *;exact fun a ha=>h1 a (JH ha)
  refine WO.op (I m) (h.set q (.row (zO row off (ys.take (m*c))) true 0)) rfl ?_ (hX _ rfl (fun j hj=>by rw[zT,QC hj]) (by rw[zT,QG rfl]) (fun wf j hj=> ?_) rfl (fun hm=>YR hm) fun j hj=>yw hj)
  ·simp only[WN,hx,hy,hs,hmin,hb,QR,GP,Qf,Qn,cond_true,zBL hq (by rw[hml];exact hl) h2,QH]
  ·have hj:h.n<=j:=hj;by_cases e:j=q
   ·subst e;have:=wf.lt hq;omega
   ·rw[zT,QC e];exact wf j hj
theorem zOe{h h0:WF}{v w:Value}{xs ys:List Int}(o:Wb h0 h v xs)(s:Wd h w ys)(e0:WK h0 h)(hne:ys≠[])(hr:xs.length+ys.length<=4294967296):
  ∃ v' h',z8 1 v w h=some (v',h')/\WK h0 h'/\Wn h h' v' (xs++ys)/\Bh v h h':=by
 have hsrc:=ZI s;have hroom:room=4294967296:=rfl;obtain⟨z,zs,rfl⟩:∃ z zs,ys=z::zs:=by
  cases ys with
  |nil=>exact absurd rfl hne
  |cons z zs=>exact⟨z,zs,rfl⟩
 have hone:zH (I z::zs.map I)=true:=zB9 (z::zs);have hlen:(I z::zs.map I).length / 1=(z::zs).length:=by simp
 rcases o with⟨rfl,rfl⟩|⟨g,g1,g2,rfl,g3⟩
 ·have h1:Nat.ble (z::zs).length room=true:=QF (by rw[hroom];simpa using hr);refine⟨.slice (some ⟨h.n,0,none⟩) (z::zs).length 1,h.push (.row ((z::zs).map I) true 0),?_,e0.push _,⟨h.n,QE _,by simp[WF.push],rfl,zZ _ _⟩,⟨GO _,fun k hk _=> ?_⟩⟩
  ·simp only[z8,hsrc,Q6,hone,hlen,h1,QS,cond_true,QR];rfl
  ·rw[zY,QC (by omega)]
 ·have h1:Nat.ble (xs.length+(z::zs).length) room=true:=QF (by rw[hroom];exact hr);have h2:cut (xs.map I) 0 (xs.length*1)=some (xs.map I):=by rw[yt (by simp)];simp[Qo]
  have hn:(h.kill g).n=h.n:=rfl;have h3:Nat.ble 0 (0+xs.length*1)=true:=QF (QU _);refine⟨.slice (some ⟨h.n,0,none⟩) (xs.length+(z::zs).length) 1,(h.kill g).push (.row (xs.map I++(z::zs).map I) true (0-0)),?_,(e0.kill g1).push _,⟨h.n,QE _,by simp[WF.push,WF.kill],by simp,?_⟩,⟨GO _,fun k hk hv=> ?_⟩⟩
  ·simp only[z8,hsrc,Q6,hone,hlen,h1,g3,h2,h3,QS,cond_true,QR];rfl
  ·have:=zZ (h.kill g) (.row (xs.map I++(z::zs).map I) true (0-0));rw[hn]at this;rw[this];simp
  ·rw[zY,QC (by rw[hn];omega),yh,QC (fun e=>hv _ _ _ rfl e.symm)]
theorem UD{h h0:WF}{Q:WR->WF->Prop}{l:List WG}{d:Nat}{v w:Value}{xs ys:List Int}(o:Wb h0 h v xs)(s:Wd h w ys)(e0:WK h0 h)(hne:ys≠[])(hr:xs.length+ys.length<=4294967296)(k:∀ v' h',WK h0 h'->Wn h h' v' (xs++ys)->Bh v h h'->WO P tab l ⟨t.set d v',ds,rd⟩ h' Q)
  (hx:WQ t x v:=by exact zX) (hy:WQ t y w:=by exact zX):WO P tab (⟨some d,none,.append 1 x y⟩::l) ⟨t,ds,rd⟩ h Q:=by
 have hx:ev t x=v:=hx;have hy:ev t y=w:=hy;obtain⟨v',h',a,b,c,u⟩:=zOe o s e0 hne hr;exact WO.op v' h' rfl (by simp only[WN,hx,hy,a]) (k v' h' b c u)
theorem UI{α:Type}{c b d1 d2:Nat}{R:WF->List Value->α->Prop}{h hB:WF}{Q:WR->WF->Prop}{l:List WG}{v w:Value}{xs:List α}{cs zero:List Value}(a:α)(Dn:Nat->Prop)(o:WZ c R b h v xs)(e0:WK hB h)(hb:hB.n<=b)(hbn:b<=h.n)(hc0:0<c)(hl:xs.length<=100000)
  (d:Dep R h cs a Dn) (hD:∀ k,Dn k->b<=k/\k<h.n) (hv:∀ g n k,v=.slice (some ⟨g,0,none⟩) n k->¬Dn g)
  (k:∀ v' h' lit,WK hB h'->WZ c R b h' v' (xs++[a])->h.n<=h'.n->(∀ k,k<h.n->(∀ n k',v≠ .slice (some ⟨k,0,none⟩) n k')->h'.get k=h.get k)->(∃ n k g,v'=.slice (some ⟨g,0,none⟩) n k/\h.n<=g)->WO P tab l ⟨(t.set d1 lit).set d2 v',ds,rd⟩ h' Q)
  (hx:WQ t x w:=by exact zX) (hw:w.cells=cs.toArray:=by rfl) (hc:cs.length=c:=by rfl) (h1:zH cs=true:=by rfl) (hz:zero.length=c:=by rfl) (hy:∀ u,WQ (t.set d1 u) y v:=by intro u;exact zX):
  WO P tab (⟨some d1,none,.buildSlice 1 c zero [(0,c,x)]⟩::⟨some d2,none,.append c y (.tmp d1)⟩::l) ⟨t,ds,rd⟩ h Q:=by
 have hx:ev t x=w:=hx;refine WO.op (.slice (some ⟨h.n,0,none⟩) 1 c) (h.push (.row cs true 0)) rfl (by
  simp only[WN,zr,Q6,Gl,hx,zEL hw hc hz,QH];rfl) ?_
 obtain⟨v',H',q1,q2,q3,q4,q5,q6,q7,q8,q9⟩:=zEA (H:=h.push (.row cs true 0)) (gl:=h.n) o hc hc0 h1 hl hbn d hD hv (GO _) (G2 _) (fun k hk=>by rw[zY,QC (by omega)]) (zZ _ _);have hyv:ev (t.set d1 (.slice (some ⟨h.n,0,none⟩) 1 c)) y=v:=hy _;have e1:ev (t.set d1 (.slice (some ⟨h.n,0,none⟩) 1 c)) (.tmp d1)=.slice (some ⟨h.n,0,none⟩) 1 c:=by simp only[ev,yH,Q9]
 refine WO.op v' H' rfl (by simp only[WN,hyv,e1,q1]) (k v' H' _ ?_ q2 (by rw[q3];show h.n<=h.n+1+1;omega) (fun k hk hvk=> ?_) (let⟨n,k,g,e,hg⟩:=q9;⟨n,k,g,e,QN (GO _) hg⟩))
 ·have hvb:∀ k,k<hB.n->∀ n k',v≠ .slice (some ⟨k,0,none⟩) n k':=fun k hk n k' e=>by
   rcases o with⟨e2,_⟩|⟨g,_,_,g1,_,e2,_⟩
   ·rw[e2]at e;cases e
   ·rw[e2]at e;cases e;omega
  refine⟨by rw[q3];show hB.n<=h.n+1+1;have:=e0.n;omega,fun k hk=> ?_,fun w=>q8 ?_,q5.trans e0.mark,fun hm=> ?_⟩
  ·have:=e0.n;rw[q4 k (by show k<h.n+1;omega) (hvb k hk),zY,QC (by omega)];exact e0.get k hk
  ·intro k hk;have hk:h.n+1<=k:=hk;rw[zY,QC (by omega)];exact e0.wf w k (by omega)
  ·rw[q7 (by show h.mark<=b;rw[e0.mark];omega)];exact e0.wr hm
 ·rw[q4 k (by show k<h.n+1;omega) hvk,zY,QC (by omega)]
end
def blk:Value->Option Nat
 | .slice (some a) _ _=>some a.block
 | .pointer (some a)=>some a.block
 |_=>none
def Wp(v w:Value):Prop:=∀ b,blk v=some b->blk w≠some b
theorem Wp.symm{v w:Value}(o:Wp v w):Wp w v:=fun b h k=>o b k h
def UpB(v:Value)(h h':WF):Prop:=h.n<=h'.n/\∀ g,g<h.n->blk v≠some g->h'.get g=h.get g
theorem Bh.upB{v:Value}{h h':WF}(u:Bh v h h'):UpB v h h':=⟨u.1,fun g hg hv=>u.2 g hg fun a n c e he=>hv (by rw[e,<-he];rfl)⟩
theorem Ws.upB{v:Value}{h h':WF}(u:Ws v h h'):UpB v h h':=⟨u.1,fun g hg hv=>u.2 g hg fun e=>hv (by rw[e];rfl)⟩
theorem zGY{v:Value}{h h':WF}(hn:h.n<=h'.n)(u:∀ k,k<h.n->(∀ n k',v≠ .slice (some ⟨k,0,none⟩) n k')->h'.get k=h.get k):UpB v h h':=⟨hn,fun g hg hv=>u g hg fun n k e=>hv (by rw[e];rfl)⟩
def zC1(h:WF)(v:Value):Prop:=∀ b,blk v=some b->h.n<=b
def zET(h:WF)(v:Value):Prop:=∀ b,blk v=some b->b<h.n
theorem VI{h:WF}{v w:Value}(a:zC1 h v)(b:zET h w):Wp v w:=fun k hk hw=>by have:=a k hk;have:=b k hw;omega
section
variable {hB h h':WF}{v w p:Value}{l:List Int}{cs:List Value}
theorem Wb.within(o:Wb hB h w l):zET h w:=fun b hb=>by
 rcases o with⟨rfl,_⟩|⟨g,_,g2,rfl,_⟩
 ·cases hb
 ·cases hb;exact g2
theorem Wb.since'(o:Wb hB h w l):zC1 hB w:=fun b hb=>by
 rcases o with⟨rfl,_⟩|⟨g,g1,_,rfl,_⟩
 ·cases hb
 ·cases hb;exact g1
theorem WH.within(o:WH hB h p cs):zET h p:=fun b hb=>by obtain⟨g,_,g2,rfl,_⟩:=o;cases hb;exact g2
theorem WH.since'(o:WH hB h p cs):zC1 hB p:=fun b hb=>by obtain⟨g,g1,_,rfl,_⟩:=o;cases hb;exact g1
theorem Wb.upB(o:Wb hB h w l)(u:UpB v h h')(d:Wp v w):Wb hB h' w l:=by
 rcases o with o|⟨g,g1,g2,rfl,g3⟩
 ·exact .inl o
 ·exact .inr ⟨g,g1,QK g2 u.1,rfl,(u.2 g g2 fun e=>d _ e rfl).trans g3⟩
theorem WH.upB(o:WH hB h p cs)(u:UpB v h h')(d:Wp v p):WH hB h' p cs:=by
 obtain⟨g,g1,g2,rfl,g3⟩:=o;exact⟨g,g1,QK g2 u.1,rfl,(u.2 g g2 fun e=>d _ e rfl).trans g3⟩
section
variable {α:Type}{c b:Nat}{R:WF->List Value->α->Prop}{xs:List α}
theorem WZ.within(o:WZ c R b h w xs):zET h w:=fun b hb=>by
 rcases o with⟨rfl,_⟩|⟨g,_,_,_,g2,rfl,_⟩
 ·cases hb
 ·cases hb;exact g2
theorem WZ.upB(hi:∀ h h' cs a,R h cs a->R h' cs a)(o:WZ c R b h w xs)(u:UpB v h h')(d:Wp v w):WZ c R b h' w xs:=by
 rcases o with o|⟨g,cells,D,g1,g2,rfl,g3,g4,_,_,g7⟩
 ·exact .inl o
 ·exact .inr ⟨g,cells,fun _=>False,g1,QK g2 u.1,rfl,(u.2 g g2 fun e=>d _ e rfl).trans g3,g4,id,fun _ h=>h.elim,fun i a ha hx _ _=>hi _ _ _ _ (g7 i a ha).self⟩
end
theorem Vz{P:Program}{tab:Wv}{t:WI Value}{ds:List Deferred}{rd:Option Nat}{Q:WR->WF->Prop}{l:List WG}{d c:Nat}{zero cs:List Value}{x:Operand}{w:Value}
  (k:∀ h',WK h h'->h'.n=h.n+1->Wt c h' (.slice (some ⟨h.n,0,none⟩) 1 c) 1 cs->h'.get h.n=some (.row cs true 0)->WO P tab l ⟨t.set d (.slice (some ⟨h.n,0,none⟩) 1 c),ds,rd⟩ h' Q)
  (hx:WQ t x w:=by exact zX) (hw:w.cells=cs.toArray:=by rfl) (hc:cs.length=c:=by rfl) (hz:zero.length=c:=by rfl):WO P tab (⟨some d,none,.buildSlice 1 c zero [(0,c,x)]⟩::l) ⟨t,ds,rd⟩ h Q:=by
 have hx:ev t x=w:=hx;refine WO.op (.slice (some ⟨h.n,0,none⟩) 1 c) (h.push (.row cs true 0)) rfl (by
  simp only[WN,zr,Q6,Gl,hx,zEL hw hc hz,QH];rfl) (k _ (Zl _ _) rfl (Wt.own (G2 _) (zZ _ _) (by rw[hc,Nat.one_mul])) (zZ _ _))
end
section
variable {P:Program}{tab:Wv}{t:WI Value}{h:WF}{ds:List Deferred}{rd:Option Nat}{l:List WG}{Q:WR->WF->Prop}
end
section
variable {P:Program}{tab:Wv}
def ok7(m N0:Nat)(Bad:Nat->Prop)(un:List Nat)(cl:Bool)(t:WI Value)(o:WG)(h h':WF):Prop:=
 (∀ k∈h'.wr,m<=k)/\h.n<=h'.n/\(un=[]\/(cl=true/\h'.wr=[]/\∀ g,zi t o=some g->¬Bad g/\g<N0))
end
section
variable {P:Program}{tab:Wv}{m N0:Nat}{Bad:Nat->Prop}{l:List (WG×List Nat)}{o:WG}{un:List Nat}{g:Nat}{cl:Bool}{fr:WR}{h h0 h':WF}{Q:WR->WF->Prop}{K:WP->WR->WF->Prop}{t:WI Value}
end
section
variable {P:Program}{tab:Wv}{t:WI Value}{ds:List Deferred}{rd:Option Nat}
end
theorem zLA{c:Nat}{v x:Value}{h h':WF}{v':Value}(e:z8 c v x h=some (v',h')):∀ k∈h'.wr,k∈h.wr\/blk v=some k:=by
 unfold z8 at e;split at e
 ·cases e
 ·split at e<;>first|(cases e;exact fun k hk=> .inl hk)|cases e
 ·simp only at e;cases h1:zH _ with
  |false=>rw[h1]at e;cases e
  |true=>
   rw[h1]at e;simp only[QS,QR]at e;split at e
   ·cases h2:Nat.ble _ room with
    |false=>rw[h2]at e;cases e
    |true=>rw[h2]at e;cases e;exact fun k hk=> .inl hk
   ·rename_i a len kk;cases h2:(Nat.ble (len+_) room&&a.spot.isNone)with
    |false=>rw[h2]at e;cases e
    |true=>
     rw[h2]at e;simp only[cond_true]at e;cases h3:Nat.beq kk 0 with
     |true=>
      rw[h3]at e;cases h4:Nat.beq len 0 with
      |false=>rw[h4]at e;cases e
      |true=>rw[h4]at e;cases e;exact fun k hk=> .inl hk
     |false=>
      rw[h3]at e;simp only[QR]at e;cases h4:Nat.beq kk c with
      |false=>rw[h4]at e;cases e
      |true=>
       rw[h4]at e;simp only[cond_true]at e;split at e
       ·split at e
        ·cases h5:Nat.ble _ (_+_*_)with
         |false=>rw[h5]at e;cases e
         |true=>
          rw[h5]at e;cases e;intro k hk;have hk:k∈h.log a.block:=hk;rcases yw hk with rfl|q
          ·exact .inr rfl
          ·exact .inl q
        ·cases e
       ·cases e
   ·cases e
section
variable {P:Program}{tab:Wv}{t:WI Value}{ds:List Deferred}{rd:Option Nat}{m g:Nat}{Bad:Nat->Prop}{un:List Nat}{l:List (WG×List Nat)}{Q:WR->WF->Prop}{K:WP->WR->WF->Prop}
theorem W8.inC{x:WG×List Nat}{h:WF}{fr:WR}(hx:W8 P tab m Bad (x::l) g fr (Am.inC h) Q):W8 P tab m Bad (x::l) g fr h Q:=by
 obtain⟨o,un⟩:=x;simp only[W8]at hx |-;exact hx
theorem zQt{o:WG}{h h':WF}{fr:WR}{x:WG×List Nat}(e:WK (inC h) h')(hr:zi t o=none)(hx:W8 P tab m Bad (x::l) g fr (inC h') Q):uK6 P tab m Bad un t o (x::l) g Q fr h':=by
 have hw:=e.wrnil;exact⟨fun k hk=>(by rw[hw]at hk;cases hk),.inr ⟨hr,fun k hk=>(by rw[hw]at hk;cases hk)⟩,fun k hk=>(by rw[hr]at hk;cases hk),W8.inC hx⟩
section
variable {hS X:WF}{q off n:Nat}{row cs:List Value}{x y:Operand}{u:Value}
theorem zHf{q:Nat}{X:WF}{o:Wm}{row:List Value}(hq:X.get q=some (.row row true 0)):(Wf X->Wf ((inC X).set q o)):=fun w j hj=>by
 have hj:X.n<=j:=hj;by_cases e:j=q
 ·subst e;have:=w.lt hq;omega
 ·exact(zT _ _ _ _).trans ((QC e).trans (w j hj))
theorem zMb{X:WF}{q:Nat}:∀ k∈(inC X).log q,k=q:=fun k hk=>by
 rcases yw hk with h|h
 ·exact h
 ·cases h
theorem Xk{o:WG×List Nat}(hq:X.get q=some (.row row true 0))(hm:m<=q)(hb:un=[]\/Bad q)(k:∀ X',X'.n=X.n->(∀ j,j≠q->X'.get j=X.get j)->X'.get q=some (.row (zO row off cs) true 0)->(Wf X->Wf X')->W8 P tab m Bad (o::l) g ⟨t,ds,rd⟩ (Am.inC X') Q)
  (hl:off+cs.length<=row.length) (hx:WQ t x (.pointer (some ⟨q,off,none⟩)):=by exact zX) (hy:WQ t y u:=by exact zX) (hu:u.cells=cs.toArray:=by rfl) (hn:cs.length=n:=by rfl) (h1:zH cs=true:=by rfl):
  W8 P tab m Bad ((⟨none,none,.store n x y⟩,un)::o::l) g ⟨t,ds,rd⟩ (Am.inC X) Q:=by
 refine W8.q rfl ?_;refine V4 hq hl hx hy hu hn h1 ?_;have hk:=k ((Am.inC X).set q (.row (zO row off cs) true 0)) rfl (fun j hj=>(zT _ _ _ _).trans (QC hj)) ((zT _ _ _ _).trans (QG rfl)) (zHf hq);exact WO.nil ⟨zDo hm rfl,hb.imp id fun hb=>⟨rfl,fun j hj=>by rw[zMb j hj];exact hb⟩,fun j hj=>(by cases hj),W8.inC hk⟩
theorem XG(hq:X.get q=some (.row row true 0))(hm:m<=q)(hb:un=[]\/Bad q)(k:∀ H,H.n=X.n->(∀ j,j≠q->H.get j=X.get j)->H.get q=some (.row (zO row off cs) true 0)->(Wf X->Wf H)->H.mark=hS.mark->H.wr=hS.wr->K .normal ⟨t,ds,rd⟩ H)
  (hl:off+cs.length<=row.length) (hx:WQ t x (.pointer (some ⟨q,off,none⟩)):=by exact zX) (hy:WQ t y u:=by exact zX) (hu:u.cells=cs.toArray:=by rfl) (hn:cs.length=n:=by rfl) (h1:zH cs=true:=by rfl):
  W8 P tab m Bad [(⟨none,none,.store n x y⟩,un)] g ⟨t,ds,rd⟩ (Am.inC X) (B5 K hS):=by
 refine W8.q rfl ?_;refine V4 hq hl hx hy hu hn h1 ?_;exact WO.nil ⟨zDo hm rfl,hb.imp id fun hb=>⟨rfl,fun j hj=>by rw[zMb j hj];exact hb⟩,fun j hj=>(by cases hj),k (zq hS ((Am.inC X).set q (.row (zO row off cs) true 0))) rfl (fun j hj=>(zT _ _ _ _).trans (QC hj)) ((zT _ _ _ _).trans (QG rfl)) (zHf hq) rfl rfl⟩
theorem UJ{α:Type}{c b d1 d2:Nat}{R:WF->List Value->α->Prop}{v w:Value}{xs:List α}{zero:List Value}{o:WG×List Nat}(a:α)
  (eX:WK (Am.inC (zB 1 hS)) X) (ow:WZ c R b hS v xs) (hm:m<=b) (hbn:b<=hS.n) (hc0:0<c) (hl:xs.length<=100000) (d:∀ h,R h cs a) (hB:∀ k,blk v=some k->Bad k)
  (k:∀ Y v' lit,Y.n=X.n+1->(∀ k,k<X.n->k≠hS.n->blk v≠some k->Y.get k=X.get k)->WZ c R b Y v' (xs++[a])->(∃ n' k' g',v'=.slice (some ⟨g',0,none⟩) n' k'/\X.n<=g')->(Wf X->Wf Y)->W8 P tab m Bad (o::l) (hS.n+1) ⟨(t.set d1 lit).set d2 v',ds,rd⟩ (Am.inC Y) Q)
  (hx:WQ t x w:=by exact zX) (hw:w.cells=cs.toArray:=by rfl) (hc:cs.length=c:=by rfl) (h1:zH cs=true:=by rfl) (hz:zero.length=c:=by rfl) (hy:∀ u,WQ (t.set d1 u) y v:=by intro u;exact zX):
  W8 P tab m Bad ((⟨some d1,none,.buildSlice 1 c zero [(0,c,x)]⟩,[])::(⟨some d2,none,.append c y (.tmp d1)⟩,un)::o::l) hS.n ⟨t,ds,rd⟩ (Am.inC X) Q:=by
 have hx:ev t x=w:=hx;have hnX:hS.n+1<=X.n:=eX.n;refine W8.mk (ob:= .row cs true 0) (f:=fun g=> .slice (some ⟨g,0,none⟩) 1 c) rfl (QN hm hbn) (by simp only[yg,zr,Q6,Gl,hx,zEL hw hc hz,QH]) ?_;generalize hH1:(Am.inC X).lay hS.n (.row cs true 0)=H1;have n1:H1.n=X.n:=by rw[<-hH1];rfl
 have get1:∀ c',H1.get c'=if c'=hS.n then some (.row cs true 0)else X.get c':=fun c'=>by rw[<-hH1];exact zd _ _ _ _
 have getX:∀ k,k<hS.n->X.get k=hS.get k:=fun k hk=>eX.get k (by show k<hS.n+1;omega);have oX1:WZ c R b (Am.inC H1) v xs:=ow.upd (fun k _ hk=>by show H1.get k=_;rw[get1,QC (by omega),getX k hk]) (by show hS.n<=H1.n;omega);obtain⟨v',H2,q1,q2,q3,q4,q5,q6,q7,q8,n',k',g',q9,q10⟩:=zEA (H:=Am.inC H1) (gl:=hS.n) oX1 hc hc0 h1 hl (by show b<=H1.n;omega) (fun hx _ _=>d hx:Dep R (Am.inC H1) cs a (fun _=>False)) (fun _ h=>h.elim) (fun _ _ _ _ h=>h) (QE _) (by show hS.n<H1.n;omega) (fun _ _=>rfl) (by show H1.get hS.n=_;rw[get1,QG rfl]);have hyv:ev (t.set d1 (.slice (some ⟨hS.n,0,none⟩) 1 c)) y=v:=hy _;have e1:ev (t.set d1 (.slice (some ⟨hS.n,0,none⟩) 1 c)) (.tmp d1)=.slice (some ⟨hS.n,0,none⟩) 1 c:=by simp only[ev,yH,Q9]
 have h2n:H2.n=X.n+1:=by rw[q3];show H1.n+1=_;omega
 refine W8.inC ?_;refine W8.q rfl ?_;refine WO.op v' H2 rfl (by simp only[WN,hyv,e1,q1]) ?_;have hwr:=zLA q1;refine WO.nil ⟨fun c' hc'=> ?_,.inr ⟨rfl,fun c' hc'=> ?_⟩,fun j hj=>(by cases hj),?_⟩
 ·rcases q6 c' hc' with h|h
  ·cases h
  ·omega
 ·rcases hwr c' hc' with h|h
  ·cases h
  ·exact hB c' h
 refine W8.inC (k H2 v' _ h2n (fun k hk hne hv=> ?_) q2 ⟨n',k',g',q9,by have:H1.n<=g':=q10;omega⟩ (fun w=>q8 fun k2 hk2=> ?_))
 ·rw[q4 k (by show k<H1.n;omega) fun n k' e=>hv (by rw[e];rfl)];show H1.get k=_;rw[get1,QC hne]
 ·have hk2:H1.n<=k2:=hk2;show H1.get k2=_;rw[get1,QC (by omega)];exact w k2 (by omega)
end
end
section
variable {P:Program}{tab:Wv}{t:WI Value}{h:WF}{ds:List Deferred}{rd:Option Nat}{l:List WG}{Q:WR->WF->Prop}
end
end Go.Am
