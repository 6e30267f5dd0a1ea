/- A part of the machine and of its soundness; proves no statement. -/
import Derived.Test.YtfnndahpddkniaaGreatDoorAmU
set_option linter.all false
namespace Go.Am
section
variable {P:Program}{tab:Wo}
def BG(P:Program)(tab:Wo)(m:Nat)(Bad:Nat->Prop):List (U3×List Nat)->Nat->WH->U0->(WH->U0->Prop)->Prop
 |[],_,fr,h,Q=>Q fr h
 |(o,un)::l,g,fr,h,Q=>
  if Nat.beq (zH o.op) 3=true then
   un=[]/\zS fr.tm o.guard=true/\m<=g/\zh fr.tm o=none/\∃ ob f,yh fr.tm o.op=some (ob,f)/\BG P tab m Bad l (g+1) (val o.dst fr (f g)) ((inC h).lay g ob) Q
  else WO P tab [o] fr (inC h) fun fr' h'=>(∀ g∈h'.wr,m<=g)/\(un=[]\/(zh fr.tm o=none/\∀ g∈h'.wr,Bad g))/\(∀ g,zh fr.tm o=some g->¬Bad g)/\BG P tab m Bad l g fr' h' Q
theorem zJ5{Bad:Nat->Prop}{un:List Nat}{t:U5 Value}{o:U3}{h':U0}(hk:un=[]\/(zh t o=none/\∀ g∈h'.wr,Bad g))(ws:List (Nat×Nat))(bs:List (Nat×Nat)){rs:List (Nat×Nat×Option (Nat×Nat×List Value))}(hr:∀ e∈rs,¬Bad e.2.1):
  ((match zh t o with
   |some g=>(ws.all fun x=> !(Nat.beq g x.2&&un.contains x.1))&&bs.all fun x=> !un.contains x.1||Nat.ble (g+1) x.2
   |none=>true)&&rs.all fun x=> !(un.contains x.1&&h'.wr.contains x.2.1)||zEc h' x.2.1 x.2.2)=true:=by
 rcases hk with rfl|⟨h1,h2⟩
 ·exact zM8 o ws rs bs t h'
 ·rw[h1];simp only[Qd];rw[QY];intro x hx;have:h'.wr.contains x.2.1=false:=by
   cases hc:h'.wr.contains x.2.1 with
   |false=>rfl
   |true=>exact absurd (h2 _ (List.contains_iff_mem.1 hc)) (hr x hx)
  rw[this,Qo];rfl
theorem BG.run{m:Nat}{Bad:Nat->Prop}:∀ {ops:List (U3×List Nat)} {g:Nat} {fr:WH} {h:U0} {Q:WH->U0->Prop},BG P tab m Bad ops g fr h Q->
  ∃ fr' h',Q fr' h'/\∀ (i:Nat) (ws:List (Nat×Nat)) (rs:List (Nat×Nat×Option (Nat×Nat×List Value))) (bs:List (Nat×Nat)),(∀ e∈ws,m<=e.2)->(∀ e∈rs,¬Bad e.2.1)->
   ∃ ws',(∀ e∈ws',m<=e.2)/\Ev fun n=>yU P (BI P tab n) ops i g ws rs bs fr h=some (fr',h',ws'):=by
 intro ops;induction ops with
 |nil=>intro g fr h Q hx;exact⟨fr,h,hx,fun i ws rs bs hw _=>⟨ws,hw,Ev.all fun n=>rfl⟩⟩
 |cons x ops ihl=>
  intro g fr h Q hx;obtain⟨o,un⟩:=x;simp only[BG]at hx;have go:∀ {g':Nat} {fr1:WH} {h1:U0},(g'=bif Nat.beq (zH o.op) 3 then g+1 else g)->(Ev fun n=>yb P (BI P tab n) g o fr (inC h)=some (fr1,h1))->(∀ x∈h1.wr,m<=x)->(un=[]\/(zh fr.tm o=none/\∀ g∈h1.wr,Bad g))->(∀ g,zh fr.tm o=some g->¬Bad g)->BG P tab m Bad ops g' fr1 h1 Q->
    ∃ fr' h',Q fr' h'/\∀ (i:Nat) (ws:List (Nat×Nat)) (rs:List (Nat×Nat×Option (Nat×Nat×List Value))) (bs:List (Nat×Nat)),(∀ e∈ws,m<=e.2)->(∀ e∈rs,¬Bad e.2.1)->
     ∃ ws',(∀ e∈ws',m<=e.2)/\Ev fun n=>yU P (BI P tab n) ((o,un)::ops) i g ws rs bs fr h=some (fr',h',ws'):=by
   intro g' fr1 h1 hg ev hw hk hb hx;obtain⟨fr',h',q,run⟩:=ihl hx;refine⟨fr',h',q,fun i ws rs bs hws hrs=> ?_⟩;obtain⟨ws',w1,w2⟩:=run (i+1) (h1.wr.map (fun g=>(i,g))++ws) (match zh fr.tm o with
     |some g=>(i,g,zAR fr.tm h o.op)::rs
     |none=>rs) ((i,h.n)::bs) (fun e he=>by
      rcases Qu.1 he with he|he
      ·obtain⟨y,hy,rfl⟩:=Q8.1 he;exact hw y hy
      ·exact hws e he) (fun e he=>by
      cases hr:zh fr.tm o with
      |none=>rw[hr]at he;exact hrs e he
      |some k=>
       rw[hr]at he;rcases GI.1 he with rfl|he
       ·exact hb k hr
       ·exact hrs e he)
   refine⟨ws',w1,(ev.and w2).mono fun n ⟨e1,e2⟩=> ?_⟩;simp only[yU];have e1':yb P (BI P tab n) g o fr {h with mark:=h.n,wr:=[]}=some (fr1,h1):=e1;rw[e1'];have hok:=zJ5 hk ws bs hrs;exact(congrArg (fun b:Bool=>bif b then yU P (BI P tab n) ops (i+1) (bif Nat.beq (zH o.op) 3 then g+1 else g) (h1.wr.map (fun g=>(i,g))++ws) (match zh fr.tm o with
     |some g=>(i,g,zAR fr.tm h o.op)::rs
     |none=>rs) ((i,h.n)::bs) fr1 h1 else none) hok).trans (by rw[cond_true,<-hg];exact e2)
  by_cases hk:Nat.beq (zH o.op) 3=true
  ·rw[QF hk]at hx;obtain⟨rfl,hw,hm,hr,ob,f,hmade,hx⟩:=hx;refine go (g':=g+1) (by rw[hk];rfl) (Ev.all fun n=> ?_) (h1:=(inC h).lay g ob) (fun x hx=> ?_) (.inl rfl) (fun k hk2=>by rw[hr]at hk2;cases hk2) hx
   ·unfold yb;simp only[hk,hw,hmade,cond_true]
   ·rcases yt hx with rfl|hx
    ·exact hm
    ·cases hx
  ·rw[QC hk]at hx;have hk':Nat.beq (zH o.op) 3=false:=by cases hb:Nat.beq (zH o.op) 3 with
    |false=>rfl
    |true=>exact absurd hb hk
   unfold WO at hx;obtain⟨fr1,h1,⟨q1,q2,q3,q4⟩,ev⟩:=hx;refine go (g':=g) (by rw[hk'];rfl) (ev.mono fun n e=> ?_) q1 q2 q3 q4;unfold yb;simp only[hk',QV];simp only[yr]at e;cases ha:yK P (BI P tab n) o fr (inC h)with
   |none=>rw[ha]at e;cases e
   |some p=>rw[ha]at e;exact e
theorem Vg{ops:List (U3×List Nat)}{fr:WH}{h:U0}{K:WF->WH->U0->Prop}(Bad:Nat->Prop)(k:Nat)(hk:zGC ops=k)(hne:ops.isEmpty=false)
  (hx:BG P tab h.mark Bad ops h.n fr (inC (zC k h)) (zAv K h)):WX P tab (.regionC ops) fr h K:=by
 subst hk;have hx':BG P tab h.mark Bad ops h.n fr (zC (zGC ops) h) (zAv K h):=by
  cases ops with
  |nil=>cases hne
  |cons x ops=>exact hx
 obtain⟨fr',h',q,run⟩:=BG.run (h:=zC (zGC ops) h) hx';obtain⟨ws',w1,w2⟩:=run 0 [] [] [] (fun e he=>by cases he) (fun e he=>by cases he);unfold WX;refine⟨.normal,fr',_,q,Ev.up (w2.mono fun n e=> ?_)⟩;rw[zp];simp only[zl,Ye];have e':yU P (BI P tab n) ops 0 h.n [] [] [] fr {h with n:=h.n+(ops.filter fun x=>Nat.beq (zH x.1.op) 3).length}=some (fr',h',ws'):=e;rw[e'];have:((ws'.map (·.2)).filter fun g=> !Nat.ble h.mark g)=[]:=by
  rw[List.filter_eq_nil_iff];intro g hg;obtain⟨y,hy,rfl⟩:=Q8.1 hg;have:Nat.ble h.mark y.2=true:=QG (w1 y hy);simp[this]
 simp[this,outC]
end
section
variable {P:Program}{tab:Wo}{m:Nat}{Bad:Nat->Prop}{l:List (U3×List Nat)}{o:U3}{un:List Nat}{g:Nat}{fr:WH}{h h0 h':U0}{Q:WH->U0->Prop}{K:WF->WH->U0->Prop}{t:U5 Value}
def uK6(P:Program)(tab:Wo)(m:Nat)(Bad:Nat->Prop)(un:List Nat)(t:U5 Value)(o:U3)(l:List (U3×List Nat))(g:Nat)(Q:WH->U0->Prop):WH->U0->Prop:=
 fun fr' h'=>(∀ g∈h'.wr,m<=g)/\(un=[]\/(zh t o=none/\∀ g∈h'.wr,Bad g))/\(∀ g,zh t o=some g->¬Bad g)/\BG P tab m Bad l g fr' h' Q
theorem BG.q(hk:Nat.beq (zH o.op) 3=false)(hx:WO P tab [o] fr (inC h) (uK6 P tab m Bad un fr.tm o l g Q)):BG P tab m Bad ((o,un)::l) g fr (inC h) Q:=by
 simp only[BG];rw[QC (by rw[hk];exact Bool.noConfusion)];exact hx
theorem zP6(hr:zh t o=none)(hx:BG P tab m Bad l g fr (inC h) Q):uK6 P tab m Bad [] t o l g Q fr (inC h):=
 ⟨fun g hg=>(by cases hg),.inl rfl,fun g hg=>(by rw[hr]at hg;cases hg),hx⟩
theorem zJd{d:Option Nat}{agg:Bool}{n k:Nat}{x:Operand}{a:Addr}(hr:WB t x (yG (.pointer (some a)) k))(hb:¬Bad a.block)(hx:BG P tab m Bad l g fr (inC h) Q):uK6 P tab m Bad [] t ⟨d,none,.load agg n x⟩ l g Q fr (inC h):=by
 refine⟨fun g hg=>(by cases hg),.inl rfl,fun g hg=> ?_,hx⟩;unfold WB yG at hr;simp only[zh,zS,cond_true,hr,QA]at hg;rw[<-hg];exact hb
theorem BG.mk{d:Nat}{op:Wn}{ob:Wa}{f:Nat->Value}(hk:Nat.beq (zH op) 3=true)(hm:m<=g)(hmade:yh t op=some (ob,f)){ds:List Deferred}{rd:Option Nat}(hx:BG P tab m Bad l (g+1) ⟨t.set d (f g),ds,rd⟩ ((inC h).lay g ob) Q):BG P tab m Bad ((⟨some d,none,op⟩,[])::l) g ⟨t,ds,rd⟩ (inC h) Q:=by
 simp only[BG];rw[QF hk];refine⟨by trivial,rfl,hm,?_,ob,f,hmade,hx⟩;cases op<;>first|rfl|cases hk
end
structure AR(hB h:U0)(p:Value)(cells:List Value)(n:Nat)(A:Nat->List Int):Prop where
 own:U1 hB h p cells
 len:cells.length=n
 all:∀ j,j<n->U7 hB h (cells.getD j undef) (A j)
 apart:∀ i j g a b c d,i<n->j<n->i≠j->cells.getD i undef=.slice (some ⟨g,0,none⟩) a b->cells.getD j undef=.slice (some ⟨g,0,none⟩) c d->False
theorem AR.ext{hB h h':U0}{p:Value}{cells:List Value}{n:Nat}{A:Nat->List Int}(r:AR hB h p cells n A)(e:Ext h h'):AR hB h' p cells n A:=
 ⟨r.own.ext e,r.len,fun j hj=>(r.all j hj).ext e,r.apart⟩
theorem AR.off{hB h:U0}{p:Value}{cells:List Value}{n:Nat}{A:Nat->List Int}(r:AR hB h p cells n A){j:Nat}(hj:j<n){g gp a b:Nat}(hp:p=.pointer (some ⟨gp,0,none⟩))(hv:cells.getD j undef=.slice (some ⟨g,0,none⟩) a b):g≠gp:=by
 intro e;subst e;obtain⟨q,_,_,hq,hg⟩:=r.own;rw[hp]at hq;cases hq;rcases r.all j hj with⟨h1,_⟩|⟨q2,_,_,h2,h3⟩
 ·rw[h1]at hv;cases hv
 ·rw[h2]at hv;cases hv;rw[hg]at h3;have he:cells=(A j).map I:=by simpa using h3
  have:=congrArg (fun l=>l.getD j undef) he;simp only[h2]at this;have hlen:j<((A j).map I).length:=by rw[<-he,r.len];exact hj
  rw[QH,QB hlen]at this;simp at this
section
variable {P:Program}{tab:Wo}{t:U5 Value}{ds:List Deferred}{rd:Option Nat}
theorem zFL{l:List Value}{i j:Nat}{v d:Value}(hi:i<l.length):(l.set i v).getD j d=if j=i then v else l.getD j d:=by
 simp only[QH,List.getElem?_set];by_cases h:i=j
 ·subst h;simp[hi]
 ·rw[QC h,QC (fun e=>h e.symm)]
theorem zBX{l:List Value}{i:Nat}{v:Value}(hi:i<l.length):zi l i [v]=l.set i v:=by
 unfold zi;rw[QX,List.set_eq_take_append_cons_drop,QF hi];simp
theorem zMd{cells:List Value}{i:Nat}(hi:i<cells.length):(cut cells i 1).bind (zM false)=some (cells.getD i undef):=by
 have h1:cells.drop i=cells[i]::cells.drop (i+1):=GO hi;have h2:cells.getD i undef=cells[i]:=by simp[List.getD,QB hi]
 have hc:cut cells i 1=some [cells[i]]:=(ZG (by omega)).trans (by rw[h1];rfl);rw[hc,h2];rfl
theorem zGI(a n k):(Value.slice a n k).cells=#[.slice a n k]:=rfl
theorem XG{d1 d2 d3 s i n:Nat}{x y z:Operand}{un:List Nat}{hB h:U0}{p v:Value}{cells:List Value}{A:Nat->List Int}{k:Int}{K:WF->WH->U0->Prop}
  (r:AR hB h p cells n A) (e0:Ext hB h) (hm:h.mark<=hB.n) (hi:i<n) (hv:cells.getD i undef=v) (hlen:(A i).length<=1000)
  (hy:WB t y (I k)) (hx:WB (t.set d1 (.slice (some ⟨h.n,0,none⟩) 1 1)) x v) (h21:Nat.beq d1 d2=false) (hs:∀ w,WB ((t.set d1 (.slice (some ⟨h.n,0,none⟩) 1 1)).set d2 w) (.tmp s) p) (hz:∀ w,WB ((t.set d1 (.slice (some ⟨h.n,0,none⟩) 1 1)).set d2 w) z (I (i:Int))) (h32:Nat.beq d2 d3=false)
  (kk:∀ h1 w t',(∀ j,Nat.beq j d1=false->Nat.beq j d2=false->Nat.beq j d3=false->zB t' j=zB t j)->Ext hB h1->AR hB h1 p (cells.set i w) n (fun j=>if j=i then A i++[k]else A j)->(∀ g,g<h.n->p≠ .pointer (some ⟨g,0,none⟩)->(∀ a b,v≠ .slice (some ⟨g,0,none⟩) a b)->h1.get g=h.get g)->h.n<=h1.n->K .normal ⟨t',ds,rd⟩ h1):
  BG P tab h.mark (fun g=>∃ a b,v=.slice (some ⟨g,0,none⟩) a b) [(⟨some d1,none,.buildSlice 1 1 [I 0] [(0,1,y)]⟩,[]),(⟨some d2,none,.append 1 x (.tmp d1)⟩,un),(⟨some d3,none,.idxArr n 1 (.tmp s) z⟩,[]),(⟨none,none,.store 1 (.tmp d3) (.tmp d2)⟩,[])] h.n ⟨t,ds,rd⟩ (inC (zC 1 h)) (zAv K h):=by
 have hon:=r.all i hi;rw[hv]at hon;obtain⟨gp,gp1,gp2,hp,gp3⟩:=r.own;have hmade:yh t (.buildSlice 1 1 [I 0] [(0,1,y)])=some (.row [I k] true 0,fun g=> .slice (some ⟨g,0,none⟩) 1 1):=by
  have hy:ev t y=I k:=hy;simp only[yh,zw,Qr,Gb,hy];rfl
 refine BG.mk rfl (by have:=e0.n;omega) hmade ?_;generalize hH1:(inC (zC 1 h)).lay h.n (.row [I k] true 0)=H1;have n1:H1.n=h.n+1:=by rw[<-hH1];rfl
 have get1:∀ c,H1.get c=if c=h.n then some (.row [I k] true 0)else h.get c:=fun c=>by rw[<-hH1];exact zQ _ _ _ _
 have sl:WJ (inC H1) (.slice (some ⟨h.n,0,none⟩) 1 1) [k]:=⟨rfl,.inr ⟨h.n,0,[I k],rfl,ZW (own:=true) (lo:=0) (by have:=get1 h.n;rw[QF rfl]at this;exact this),rfl,by show h.n<H1.n;omega⟩⟩;have hsrc:=Zv sl;obtain⟨H2,ha,n2,get2,keep2,wr2,wf2⟩:∃ H2,yP 1 v (.slice (some ⟨h.n,0,none⟩) 1 1) (inC H1)=some (.slice (some ⟨h.n+1,0,none⟩) (A i++[k]).length 1,H2)/\H2.n=h.n+2/\H2.get (h.n+1)=some (.row ((A i++[k]).map I) true 0)/\
   (∀ c,c≠h.n+1->(∀ a b,v≠ .slice (some ⟨c,0,none⟩) a b)->H2.get c=H1.get c)/\(∀ c∈H2.wr,∃ a b,v=.slice (some ⟨c,0,none⟩) a b)/\(∀ c,h.n+2<=c->H1.get c=none->H2.get c=none):=by
  have hone:zK [I k]=true:=rfl;have hn1:(inC H1).n=h.n+1:=n1;rcases hon with⟨rfl,hA⟩|⟨q,q1,q2,rfl,q3⟩
  ·refine⟨(inC H1).push (.row [I k] true 0),?_,?_,?_,fun c hc _=> ?_,fun c hc=>(by cases hc),fun c hc h0=> ?_⟩
   ·have:Nat.ble 1 room=true:=rfl;simp only[yP,hsrc,Qr,Gb,hone,QW,QV,QX,Nat.div_one,this,cond_true,hA,GK];rw[<-hn1];rfl
   ·show(inC H1).n+1=_;omega
   ·rw[hA,<-hn1,zT,QF rfl];rfl
   ·rw[zT,QC (by omega)];rfl
   ·rw[zT,QC (by omega)];exact h0
  ·have hq:(inC H1).get q=some (.row ((A i).map I) true 0):=by
    have:=get1 q;rw[QC (by omega)]at this;exact this.trans q3
   refine⟨((inC H1).kill q).push (.row ((A i).map I++[I k]) true (0-0)),?_,?_,?_,fun c hc hv=> ?_,fun c hc=> ?_,fun c hc h0=> ?_⟩
   ·have h1:Nat.ble ((A i).length+1) room=true:=QG (by have:room=4294967296:=rfl;omega);have h2:cut ((A i).map I) 0 ((A i).length*1)=some ((A i).map I):=by rw[ZG (by simp)];simp[Q9]
    have h3:Nat.ble 0 (0+(A i).length*1)=true:=QG (QK _);simp only[yP,hsrc,Qr,Gb,hone,QW,QV,QX,Nat.div_one,h1,h2,h3,hq,cond_true,hn1,QR];rfl
   ·show(inC H1).n+1=_;omega
   ·have e:((inC H1).kill q).n=h.n+1:=n1;rw[<-e,zT,QF rfl];simp
   ·rw[zT,QC (by show c≠(inC H1).n;omega),yl,QC (fun e=>hv _ _ (by rw[e]))];rfl
   ·have hc2:c∈(inC H1).log q:=hc;rcases yt hc2 with rfl|h
    ·exact⟨_,_,rfl⟩
    ·cases h
   ·rw[zT,QC (by show c≠(inC H1).n;omega),yl];split
    ·rfl
    ·exact h0
 have hbad:∀ c,(∃ a b,v=.slice (some ⟨c,0,none⟩) a b)->hB.n<=c/\c<h.n/\c≠gp:=by
  rintro c ⟨a,b,e⟩;have hne:=r.off hi hp (hv.trans e);rcases hon with⟨h1,_⟩|⟨q,q1,q2,h1,_⟩
  ·rw[e]at h1;cases h1
  ·rw[e]at h1;cases h1;exact⟨q1,q2,hne⟩
 have hgp:∀ a b,v≠ .slice (some ⟨gp,0,none⟩) a b:=fun a b e=>(hbad gp ⟨a,b,e⟩).2.2 rfl;rw[BG,QC (show ¬Nat.beq (zH (Wn.append 1 x (.tmp d1))) 3=true from Bool.noConfusion)];have hx:ev (t.set d1 (.slice (some ⟨h.n,0,none⟩) 1 1)) x=v:=hx;have e1:ev (t.set d1 (.slice (some ⟨h.n,0,none⟩) 1 1)) (.tmp d1)=.slice (some ⟨h.n,0,none⟩) 1 1:=by simp only[ev,ze,Q0]
 refine WO.op (.slice (some ⟨h.n+1,0,none⟩) (A i++[k]).length 1) H2 rfl (by simp only[U8,hx,e1,ha]) ?_;refine WO.nil ⟨fun c hc=> ?_,.inr ⟨rfl,wr2⟩,fun c hc=>(by cases hc),?_⟩
 ·have:=(hbad c (wr2 c hc)).1;omega
 rw[BG,QC (show ¬Nat.beq (zH (Wn.idxArr n 1 (.tmp s) z)) 3=true from Bool.noConfusion)];have own2:U1 hB (inC H2) p cells:=by
  refine⟨gp,gp1,by show gp<H2.n;omega,hp,?_⟩;show H2.get gp=_;rw[keep2 gp (by omega) hgp,get1,QC (by omega)];exact gp3
 have hs2:=hs (.slice (some ⟨h.n+1,0,none⟩) (A i++[k]).length 1);have hz2:=hz (.slice (some ⟨h.n+1,0,none⟩) (A i++[k]).length 1);have hidx:=Vm (P:=P) (ih:=Ex.bot) (c:=1) (n:=n) (i:=i) hs2 (by have hz2:ev _ z=I (i:Int):=hz2;rw[hz2];rfl) own2 hi;rw[JF]at hidx;refine WO.op _ (inC H2) rfl hidx ?_;refine WO.nil ⟨fun c hc=>(by cases hc),?_,fun c hc=>(by cases hc),?_⟩
 ·exact .inr ⟨rfl,fun c hc=>(by cases hc)⟩
 rw[BG,QC (show ¬Nat.beq (zH (Wn.store 1 (.tmp d3) (.tmp d2))) 3=true from Bool.noConfusion)];have hst:zo (inC (inC H2)) ⟨gp,i,none⟩ [.slice (some ⟨h.n+1,0,none⟩) (A i++[k]).length 1]=some ((inC (inC H2)).set gp (.row (cells.set i (.slice (some ⟨h.n+1,0,none⟩) (A i++[k]).length 1)) true 0)):=by
  obtain⟨q,_,_,hq,hg⟩:=own2;rw[hp]at hq;cases hq;have hg':(inC (inC H2)).get gp=some (.row cells true 0):=hg;have h1:Nat.ble (i+1) cells.length=true:=QG (by rw[r.len];exact hi);have h0:Nat.ble 0 i=true:=QG (QK _);have h2:zK [.slice (some ⟨h.n+1,0,none⟩) (A i++[k]).length 1]=true:=rfl;simp only[zo,hg',QX,h1,h0,h2,Qt,zBX (show i<cells.length by rw[r.len];exact hi)];rfl
 have hd32:¬d2=d3:=fun e=>by subst e;simp at h32
 refine VU undef ((inC (inC H2)).set gp (.row (cells.set i (.slice (some ⟨h.n+1,0,none⟩) (A i++[k]).length 1)) true 0)) rfl (by
  have a1:∀ tt:U5 Value,ev (tt.set d3 (yG p i)) (.tmp d3)=.pointer (some ⟨gp,i,none⟩):=fun tt=>by
   simp only[ev,ze,Q0,hp,yG,GC]
  have a2:∀ w,ev (((t.set d1 (.slice (some ⟨h.n,0,none⟩) 1 1)).set d2 w).set d3 (yG p i)) (.tmp d2)=w:=fun w=>by
   simp only[ev,ze,QC hd32,Q0]
  simp only[val,U8,a1,a2,zGI,Gj,QX,GS,hst,QI,cond_true]) ?_
 refine WO.nil ⟨fun c hc=> ?_,.inl rfl,fun c hc=>(by cases hc),?_⟩
 ·have hc2:c∈(inC (inC H2)).log gp:=hc;rcases yt hc2 with rfl|h
  ·omega
  ·cases h
 generalize hH:outC h ((inC (inC H2)).set gp (.row (cells.set i (.slice (some ⟨h.n+1,0,none⟩) (A i++[k]).length 1)) true 0))=H;have nH:H.n=h.n+2:=by rw[<-hH];exact n2
 have getH:∀ c,H.get c=if c=gp then some (.row (cells.set i (.slice (some ⟨h.n+1,0,none⟩) (A i++[k]).length 1)) true 0)else H2.get c:=fun c=>by rw[<-hH];exact zQ _ _ _ _
 have keepH:∀ c,c<h.n->c≠gp->(∀ a b,v≠ .slice (some ⟨c,0,none⟩) a b)->H.get c=h.get c:=fun c h1 h2 h3=>by
  rw[getH,QC h2,keep2 c (by omega) h3,get1,QC (by omega)]
 have lowH:∀ c,c<hB.n->H.get c=h.get c:=fun c hc=>keepH c (by have:=e0.n;omega) (by omega) (fun a b e=>by have:=(hbad c ⟨a,b,e⟩).1;omega);show K .normal _ _;rw[hH];refine kk H (.slice (some ⟨h.n+1,0,none⟩) (A i++[k]).length 1) _ (fun j a1 a2 a3=> ?_) ?_ ?_ (fun c h1 h2 h3=>keepH c h1 (fun e=>h2 (by rw[hp,e])) h3) (by omega)
 ·have b1:¬j=d1:=fun e=>by subst e;simp at a1
  have b2:¬j=d2:=fun e=>by subst e;simp at a2
  have b3:¬j=d3:=fun e=>by subst e;simp at a3
  simp only[val,ze,QC b1,QC b2,QC b3]
 ·refine⟨by rw[nH];have:=e0.n;omega,fun c hc=>(lowH c hc).trans (e0.get c hc),fun w c hc=> ?_,?_,fun hmk=> ?_⟩
  ·rw[nH]at hc;rw[getH,QC (by omega)];exact wf2 c hc (by rw[get1,QC (by omega)];exact e0.wf w c (by omega))
  ·rw[<-hH];exact e0.mark
  ·rw[<-hH];exact e0.wr hmk
 ·refine⟨⟨gp,gp1,by omega,hp,by rw[getH,QF rfl]⟩,by rw[Gv];exact r.len,fun j hj=> ?_,fun j1 j2 g a b c d hj1 hj2 hne e1 e2=> ?_⟩
  ·rw[zFL (by rw[r.len];exact hi)];by_cases e:j=i
   ·rw[QF e];simp only[QF e];exact .inr ⟨h.n+1,by have:=e0.n;omega,by omega,rfl,by rw[getH,QC (by omega)];exact get2⟩
   ·rw[QC e];simp only[QC e];rcases r.all j hj with h1|⟨q,q1,q2,h1,q3⟩
    ·exact .inl h1
    ·refine .inr ⟨q,q1,by omega,h1,?_⟩;rw[keepH q q2 (r.off hj hp h1) (fun a b e2=>r.apart j i q _ _ a b hj hi e h1 (hv.trans e2))];exact q3
  ·rw[zFL (by rw[r.len];exact hi)]at e1 e2;have old:∀ j a b,j<n->cells.getD j undef=.slice (some ⟨g,0,none⟩) a b->g<h.n:=fun j a b hj e=>by
    rcases r.all j hj with⟨h1,_⟩|⟨q,_,q2,h1,_⟩
    ·rw[e]at h1;cases h1
    ·rw[e]at h1;cases h1;exact q2
   by_cases f1:j1=i
   ·rw[QF f1]at e1;cases e1;by_cases f2:j2=i
    ·exact hne (f1.trans f2.symm)
    ·rw[QC f2]at e2;have:=old j2 _ _ hj2 e2;omega
   ·rw[QC f1]at e1;by_cases f2:j2=i
    ·rw[QF f2]at e2;cases e2;have:=old j1 _ _ hj1 e1;omega
    ·rw[QC f2]at e2;exact r.apart j1 j2 g a b c d hj1 hj2 hne e1 e2
theorem AR.one{hB h:U0}{p:Value}{cells:List Value}{n:Nat}{A:Nat->List Int}(r:AR hB h p cells n A):zK cells=true:=by
 unfold zK;rw[QY];intro x hx;obtain⟨j,hj,rfl⟩:=JJ.1 hx;have e:cells.getD j undef=cells[j]:=by simp[List.getD,QB hj]
 have:=r.all j (by rw[<-r.len];exact hj);rw[e]at this;rcases this with⟨h,_⟩|⟨_,_,_,h,_⟩<;>rw[h]
theorem AR.updC{hB h h':U0}{p:Value}{cells:List Value}{n:Nat}{A:Nat->List Int}(r:AR hB h p cells n A)(o:U1 hB h' p cells)(u:Wg p h h'):AR hB h' p cells n A:=by
 refine⟨o,r.len,fun j hj=> ?_,r.apart⟩;rcases r.all j hj with h1|⟨q,q1,q2,h1,q3⟩
 ·exact .inl h1
 ·refine .inr ⟨q,q1,QM q2 u.1,h1,(u.2 q q2 fun e=> ?_).trans q3⟩;exact r.off hj e h1 rfl
theorem zJ0{cells:List Value}{n:Nat}(hn:cells.length=n):(cut cells 0 n).bind (zM true)=some (.agg cells.toArray):=by
 subst hn;rw[ZG (by omega)];simp[Q9,zM]
theorem XB{d i:Nat}{x:Operand}{p:Value}{cells:List Value}{h0 h:U0}{l:List U3}{Q:WH->U0->Prop}(o:U1 h0 h p cells)(hi:i<cells.length)(k:WO P tab l ⟨t.set d (cells.getD i undef),ds,rd⟩ h Q)(hx:WB t x (yG p i):=by exact zj):WO P tab (⟨some d,none,.load false 1 x⟩::l) ⟨t,ds,rd⟩ h Q:=
 Xp (U1.load hx o (zMd hi)) k
theorem XX{d n:Nat}{x:Operand}{p:Value}{cells:List Value}{h0 h:U0}{l:List U3}{Q:WH->U0->Prop}(o:U1 h0 h p cells)(hn:cells.length=n)(k:WO P tab l ⟨t.set d (.agg cells.toArray),ds,rd⟩ h Q)(hx:WB t x p:=by exact zj):WO P tab (⟨some d,none,.load true n x⟩::l) ⟨t,ds,rd⟩ h Q:=
 Xp (Vj hx o (zJ0 hn)) k
end
section
variable {P:Program}{tab:Wo}{ds:List Deferred}{rd:Option Nat}{h:U0}{l:List U3}{t:U5 Value}
theorem goV{G' G:Prop}(k:G')(r:Wrap G'->G:=by
  intro hgo;first|with_reducible show BG _ _ _ _ (_::_) _ _ _ _|refine go ?_
  repeat (first|((apply BG.q;rfl);refine go ?_)|refine zP6 rfl ?_|(apply zJd;(exact zP);(assumption)))
  first|with_reducible show BG _ _ _ _ (_::_) _ _ _ _|refine go ?_
  exact hgo.out):G:=r ⟨k⟩
end
section
variable {P:Program}{tab:Wo}{t:U5 Value}{ds:List Deferred}{rd:Option Nat}
theorem zDV{h0 h:U0}{p:Value}{xs:List Int}{j:Nat}{a:Int}(o:U1 h0 h p (xs.map I))(hj:j<xs.length):∃ g,h0.n<=g/\g<h.n/\p=.pointer (some ⟨g,0,none⟩)/\zo h ⟨g,j,none⟩ [I a]=some (h.set g (.row ((xs.set j a).map I) true 0)):=by
 obtain⟨g,g1,g2,hp,g3⟩:=o;refine⟨g,g1,g2,hp,?_⟩;have h1:Nat.ble (j+1) (xs.map I).length=true:=QG (by simp;omega);have h0:Nat.ble 0 j=true:=QG (QK _);have h2:zK [I a]=true:=rfl;simp only[zo,g3,QX,h1,h0,h2,Qt,zAQ _ _ _ hj];rfl
theorem V6{x y:Operand}{p:Value}{xs:List Int}{j:Nat}{a:Int}{h0 h:U0}{l:List U3}{Q:WH->U0->Prop}(o:U1 h0 h p (xs.map I))(e0:Ext h0 h)(hj:j<xs.length)
  (k:∀ h',Ext h0 h'->U1 h0 h' p ((xs.set j a).map I)->Wg p h h'->WO P tab l ⟨t,ds,rd⟩ h' Q) (hx:WB t x (yG p j):=by exact zj) (hy:WB t y (I a):=by exact zj):WO P tab (⟨none,none,.store 1 x y⟩::l) ⟨t,ds,rd⟩ h Q:=by
 refine Vr hx hy (v:=I a) (cs:=[I a]) rfl rfl rfl o e0 (by simp;omega) fun h' a1 a2 a3=>k h' a1 ?_ a3;rw[zAQ _ _ _ hj]at a2;exact a2
theorem UR{N0 g:Nat}{cl:Bool}{x y:Operand}{p:Value}{xs:List Int}{j:Nat}{a:Int}{h0 X:U0}{m:Nat}{w:U3×List Nat}{l:List (U3×List Nat)}{Q:WH->U0->Prop}(o:U1 h0 X p (xs.map I))(hm:m<=h0.n)(hj:j<xs.length)
  (k:∀ X',X'.n=X.n->U1 h0 X' p ((xs.set j a).map I)->Wg p X X'->(Wf X->Wf X')->WP P tab m N0 (w::l) g false ⟨t,ds,rd⟩ (inC X') Q) (hx:WB t x (yG p j):=by exact zj) (hy:WB t y (I a):=by exact zj):
  WP P tab m N0 ((⟨none,none,.store 1 x y⟩,[])::w::l) g cl ⟨t,ds,rd⟩ (inC X) Q:=by
 obtain⟨q,q1,q2,hp,hst⟩:=zDV (a:=a) o hj;rw[WP,QC (show ¬Nat.beq (zH (Wn.store 1 x y)) 3=true from Bool.noConfusion)];have hst':zo (inC (inC X)) ⟨q,j,none⟩ [I a]=some ((inC (inC X)).set q (.row ((xs.set j a).map I) true 0)):=by
  have:U1 h0 (inC (inC X)) p (xs.map I):=o;obtain⟨q',_,_,hp',h⟩:=zDV (a:=a) this hj;rw[hp]at hp';cases hp';exact h
 have hx:ev t x=yG p j:=hx;have hy:ev t y=I a:=hy;have hc:(I a).cells=#[I a]:=rfl;refine VU undef ((inC (inC X)).set q (.row ((xs.set j a).map I) true 0)) rfl (by
  simp only[U8,hx,hp,yG,GC,hy,hc,hst',QI];rfl) ?_
 have hlog:(inC (inC X)).log q=[q]:=by
  have:Nat.ble X.n q=false:=by
   cases hb:Nat.ble X.n q with
   |false=>rfl
   |true=>have:=QP hb;omega
  show(bif Nat.ble X.n q then[]else q::[])=_;rw[this];rfl
 have hwr:((inC (inC X)).set q (.row ((xs.set j a).map I) true 0)).wr=[q]:=hlog;refine WO.nil ⟨⟨fun c hc=> ?_,QE _,.inl rfl⟩,?_⟩
 ·rw[hwr]at hc;rw[Qb]at hc;subst hc;omega
 ·rw[hwr,show(cl&&[q].isEmpty)=false by cases cl<;>rfl];have:=k ((inC (inC X)).set q (.row ((xs.set j a).map I) true 0)) rfl ⟨q,q1,q2,hp,by rw[zt,QF rfl]⟩ ⟨QE _,fun c _ hc=>by rw[zt,QC (fun e=>hc (by rw[hp,e]))];rfl⟩ (fun wf c hc=>by have hc:X.n<=c:=hc;rw[zt,QC (by omega)];exact wf c hc);obtain⟨o2,un2⟩:=w;unfold WP at this |-;exact this
theorem Xw{N0 g:Nat}{cl:Bool}{x y:Operand}{p:Value}{xs:List Int}{j:Nat}{a:Int}{h0 hS X:U0}{K:WF->WH->U0->Prop}(o:U1 h0 X p (xs.map I))(e0:Ext h0 hS)(hm:hS.mark<=h0.n)(hn:X.n=hS.n)(u:Wg p hS X)(wf:Wf hS->Wf X)(hj:j<xs.length)
  (k:∀ h1,Ext h0 h1->U1 h0 h1 p ((xs.set j a).map I)->Wg p hS h1->K .normal ⟨t,ds,rd⟩ h1) (hx:WB t x (yG p j):=by exact zj) (hy:WB t y (I a):=by exact zj):
  WP P tab hS.mark N0 [(⟨none,none,.store 1 x y⟩,[])] g cl ⟨t,ds,rd⟩ (inC X) (zAv K hS):=by
 obtain⟨q,q1,q2,hp,_⟩:=zDV (a:=a) o hj;rw[WP,QC (show ¬Nat.beq (zH (Wn.store 1 x y)) 3=true from Bool.noConfusion)];have hst':zo (inC (inC X)) ⟨q,j,none⟩ [I a]=some ((inC (inC X)).set q (.row ((xs.set j a).map I) true 0)):=by
  have:U1 h0 (inC (inC X)) p (xs.map I):=o;obtain⟨q',_,_,hp',h⟩:=zDV (a:=a) this hj;rw[hp]at hp';cases hp';exact h
 have hx:ev t x=yG p j:=hx;have hy:ev t y=I a:=hy;have hc:(I a).cells=#[I a]:=rfl;refine VU undef ((inC (inC X)).set q (.row ((xs.set j a).map I) true 0)) rfl (by
  simp only[U8,hx,hp,yG,GC,hy,hc,hst',QI];rfl) ?_
 refine WO.nil ⟨⟨fun c hc=> ?_,QE _,.inl rfl⟩,?_⟩
 ·have hc2:c∈(inC (inC X)).log q:=hc;rcases yt hc2 with rfl|h
  ·omega
  ·cases h
 have get2:∀ c,(outC hS ((inC (inC X)).set q (.row ((xs.set j a).map I) true 0))).get c=if c=q then some (.row ((xs.set j a).map I) true 0)else X.get c:=fun c=>zQ _ _ _ _;refine k (outC hS ((inC (inC X)).set q (.row ((xs.set j a).map I) true 0))) ?_ ⟨q,q1,q2,hp,by rw[get2,QF rfl]⟩ ⟨by show hS.n<=X.n;omega,fun c hc hv=>by rw[get2,QC (fun e=>hv (by rw[hp,e]))];exact u.2 c hc hv⟩;refine⟨by show h0.n<=X.n;rw[hn];exact e0.n,fun c hc=> ?_,fun w c hc=> ?_,e0.mark,fun hmk=>e0.wr hmk⟩
 ·rw[get2,QC (by omega)];exact(u.2 c (by have:=e0.n;omega) (fun e=>by rw[hp]at e;cases e;omega)).trans (e0.get c hc)
 ·have hc:X.n<=c:=hc;rw[get2,QC (by omega)];exact wf (e0.wf w) c hc
theorem zKu{xs:List Int}{j n:Nat}(h:j+n<=xs.length):(cut (xs.map I) j n).bind (zM true)=some (.agg (((xs.drop j).take n).map I).toArray):=by
 rw[ZG (by simp;omega)];simp[zM]
theorem Vo{d j n:Nat}{x:Operand}{p:Value}{xs:List Int}{h0 h:U0}{l:List U3}{Q:WH->U0->Prop}(o:U1 h0 h p (xs.map I))(hn:j+n<=xs.length)(k:WO P tab l ⟨t.set d (.agg (((xs.drop j).take n).map I).toArray),ds,rd⟩ h Q)(hx:WB t x (yG p j):=by exact zj):WO P tab (⟨some d,none,.load true n x⟩::l) ⟨t,ds,rd⟩ h Q:=
 Xp (U1.load hx o (zKu hn)) k
theorem zNK{e:TypeId}{kk:IntKind}{d:Nat}(he:P.underlying e=some (.int kk))(ha:zX P (isAgg e)=some false){xs ys:List Int}(hl:xs.length=ys.length):∀ (m i:Nat),i+m=xs.length->
  zX P (do
   let s <-(forIn (List.range' i m) (none,()) fun f (__s:Option Bool×Unit)=>do
           let __do_lift <-part e (xs.map I).toArray (f*1)
           let __do_lift_1 <-part e (ys.map I).toArray (f*1)
           let __do_lift <-Op.equalIn (d+1) e __do_lift __do_lift_1
           if(!__do_lift)=true then pure (ForInStep.done (some false,()))
            else pure (ForInStep.yield (none,())):Sem (Option Bool×Unit))
   match s.fst with
        |some r=>pure r
        |none=>pure true)=some (decide (xs.drop i=ys.drop i)):=by
 intro m;induction m with
 |zero=>
  intro i hi;have h1:xs.drop i=[]:=List.drop_eq_nil_of_le (by omega);have h2:ys.drop i=[]:=List.drop_eq_nil_of_le (by omega);rw[h1,h2];rfl
 |succ m ih=>
  intro i hi;have hx:i<xs.length:=by omega
  have hy:i<ys.length:=by omega
  have px:zX P (part e (xs.map I).toArray (i*1))=some (I xs[i]):=zB6 (by rw[ha]) (by simp[hx]);have py:zX P (part e (ys.map I).toArray (i*1))=some (I ys[i]):=zB6 (by rw[ha]) (by simp[hy]);have heq:zX P (Op.equalIn (d+1) e (I xs[i]) (I ys[i]))=some (decide (xs[i]=ys[i])):=by
   rw[Op.equalIn,zL,yc he];simp only[Qa,Q0,zF0];congr 1
  rw[List.range'_succ,List.forIn_cons];simp only[bind_assoc,zL,px,py,Qa,heq];have e1:(xs.drop i=ys.drop i)↔(xs[i]=ys[i]/\xs.drop (i+1)=ys.drop (i+1)):=by rw[GO hx,GO hy,List.cons.injEq]
  by_cases h:xs[i]=ys[i]
  ·have:=ih (i+1) (by omega);rw[QT h,show decide (xs.drop i=ys.drop i)=decide (xs.drop (i+1)=ys.drop (i+1))from decide_eq_decide.2 (e1.trans ⟨fun h=>h.2,fun k=>⟨h,k⟩⟩),<-this,zL];rfl
  ·rw[QQ h,show decide (xs.drop i=ys.drop i)=false from QQ fun k=>h (e1.1 k).1];rfl
theorem zPc{t e:TypeId}{kk:IntKind}{n:Nat}{xs ys:List Int}{x y:Operand}(ht:P.underlying t=some (.array n e))(he:P.underlying e=some (.int kk))(ha:zX P (isAgg e)=some false)(hs:zX P (sizeOf e)=some 1)(hg:P.eqGuardType P.depth t=false)(hx:xs.length=n)(hy:ys.length=n):
  zX P (do eqGuard .eql t x y (.agg (xs.map I).toArray) (.agg (ys.map I).toArray);binOp .eql t (.agg (xs.map I).toArray) (.agg (ys.map I).toArray))=some (.bool (decide (xs=ys))):=by
 have h1:zX P (eqGuard .eql t x y (.agg (xs.map I).toArray) (.agg (ys.map I).toArray))=some ():=by
  unfold eqGuard;simp only[QW,QZ,GX];rw[zL,yI];simp only[Qa];rw[zL,yI];simp only[Qa,hg,Qg,Q0];rfl
 rw[zL,h1];simp only[Qa];unfold binOp;simp only[];rw[zL];have h2:zX P (Op.equal t (.agg (xs.map I).toArray) (.agg (ys.map I).toArray))=some (decide (xs=ys)):=by
  unfold Op.equal Op.maxDepth;rw[show(10000:Nat)=9999+1 from rfl,Op.equalIn,zL,yc ht];simp only[Qa];rw[zL,hs];simp only[Qa];have:=zNK (P:=P) (d:=9998) he ha (xs:=xs) (ys:=ys) (by omega) n 0 (by omega);rw[Q3,Q3]at this;rw[<-this,zL,zL];first|rw[Std.Legacy.Range.forIn_eq_forIn_range']|rw[Std.Range.forIn_eq_forIn_range']
  have hsz:(Std.Legacy.Range.size [:n])=n:=by simp[Std.Legacy.Range.size]
  rw[hsz];congr 1;funext a;obtain⟨a,_⟩:=a;cases a<;>rfl
 rw[h2];rfl
noncomputable def zOh(P:Program)(t:TypeId)(n:Nat):Bool:=
 (match P.underlying t with
 |some (.array m e)=>Nat.beq m n&&(match P.underlying e with|some (.int _)=>true|_=>false)&&(match zX P (isAgg e)with|some false=>true|_=>false)&&(match zX P (sizeOf e)with|some 1=>true|_=>false)
 |_=>false)&& !P.eqGuardType P.depth t
theorem zOF{t:TypeId}{n:Nat}{xs ys:List Int}{x y:Operand}(h:zOh P t n=true)(hx:xs.length=n)(hy:ys.length=n):
  zX P (do eqGuard .eql t x y (.agg (xs.map I).toArray) (.agg (ys.map I).toArray);binOp .eql t (.agg (xs.map I).toArray) (.agg (ys.map I).toArray))=some (.bool (decide (xs=ys))):=by
 unfold zOh at h;rw[QJ]at h;obtain⟨h,hg⟩:=h;have hg:P.eqGuardType P.depth t=false:=by cases hh:P.eqGuardType P.depth t with|false=>rfl|true=>rw[hh]at hg;cases hg
 split at h
 ·rename_i m e ht;simp only[QJ]at h;obtain⟨⟨⟨h1,h2⟩,h3⟩,h4⟩:=h;have hm:=QL h1;subst hm;split at h2
  ·rename_i kk he;refine zPc ht he ?_ ?_ hg hx hy
   ·split at h3
    ·assumption
    ·cases h3
   ·split at h4
    ·assumption
    ·cases h4
  ·cases h2
 ·cases h
def zJf(K:WF->WH->U0->Prop):WF->WH->U0->Prop
 | .normal,fr,h=>K .normal fr h
 | .exit i,fr,h=>K (.exit i) fr h
 | .goto _,_,_=>False
 | .ret,fr,h=>K .ret fr h
theorem zGn{K fr h}(hx:K .ret fr h):zJf K .ret fr h:=hx
theorem V4{b fr h K}(hx:WX P tab b fr h (zJf K)):WX P tab (.scope b) fr h K:=by
 unfold WX at hx |-;obtain⟨e,fr',h',k,ev⟩:=hx;have run:∀ n,(BI P tab n).exec b fr h=some (e,fr',h')->(∀ l,e≠ .goto l)->Z9 (BI P tab n) zOk b b fr h=some (e,fr',h'):=fun n h1 h2=>by
  show Z9 (BI P tab n) (4294967295+1) b b fr h=_;rw[Z9,h1];cases e with
  |goto l=>exact absurd rfl (h2 l)
  |_=>rfl
 cases e with
 |goto l=>exact k.elim
 |normal=>exact⟨_,_,_,k,Ev.up (ev.mono fun n e=>by rw[zp];simp only[zl];exact run n e (fun l h=>by cases h))⟩
 |exit i=>exact⟨_,_,_,k,Ev.up (ev.mono fun n e=>by rw[zp];simp only[zl];exact run n e (fun l h=>by cases h))⟩
 |ret=>exact⟨_,_,_,k,Ev.up (ev.mono fun n e=>by rw[zp];simp only[zl];exact run n e (fun l h=>by cases h))⟩
end
def Bl{α:Type}(R:U0->List Value->α->Prop)(h:U0)(cs:List Value)(a:α)(D:Nat->Prop):Prop:=
 ∀ hx:U0,(∀ k o,D k->h.get k=some o->hx.get k=some o)->h.n<=hx.n->R hx cs a
def OwnR{α:Type}(c:Nat)(R:U0->List Value->α->Prop)(b:Nat)(h:U0)(v:Value)(xs:List α):Prop:=
 (v=.slice none 0 0/\xs=[])\/∃ g cells D,b<=g/\g<h.n/\v=.slice (some ⟨g,0,none⟩) xs.length c/\h.get g=some (.row cells true 0)/\cells.length=xs.length*c/\¬D g/\(∀ k,D k->b<=k/\k<h.n)/\
  ∀ (i:Nat) (a:α),xs[i]?=some a->Bl R h ((cells.drop (i*c)).take c) a D
section
variable {α:Type}{c b:Nat}{R:U0->List Value->α->Prop}{h h':U0}{v:Value}{xs:List α}
theorem Bl.self{cs:List Value}{a:α}{D:Nat->Prop}(d:Bl R h cs a D):R h cs a:=d h (fun _ _ _ e=>e) (QE _)
theorem Bl.mono{cs:List Value}{a:α}{D E:Nat->Prop}(d:Bl R h cs a D)(hE:∀ k,D k->E k)(hk:∀ k o,D k->h.get k=some o->h'.get k=some o)(hn:h.n<=h'.n):Bl R h' cs a E:=
 fun hx h1 h2=>d hx (fun k o hd e=>h1 k o (hE k hd) (hk k o hd e)) (QU hn h2)
theorem OwnR.nil:OwnR c R b h (.slice none 0 0) ([]:List α):= .inl ⟨rfl,rfl⟩
theorem OwnR.upd(o:OwnR c R b h v xs)(hk:∀ k,b<=k->k<h.n->h'.get k=h.get k)(hn:h.n<=h'.n):OwnR c R b h' v xs:=by
 rcases o with o|⟨g,cells,D,g1,g2,g3,g4,g5,g6,g7,g8⟩
 ·exact .inl o
 ·exact .inr ⟨g,cells,D,g1,QM g2 hn,g3,(hk g g1 g2).trans g4,g5,g6,fun k hd=>⟨(g7 k hd).1,QM (g7 k hd).2 hn⟩,fun i a ha=>(g8 i a ha).mono (fun _ h=>h) (fun k o hd e=>(hk k (g7 k hd).1 (g7 k hd).2).trans e) hn⟩
theorem OwnR.ext(o:OwnR c R b h v xs)(e:Ext h h'):OwnR c R b h' v xs:=o.upd (fun k _ hk=>e.get k hk) e.n
theorem OwnR.dep(o:OwnR c R b h v xs){hx:U0}(hk:∀ k o,b<=k->k<h.n->h.get k=some o->hx.get k=some o)(hn:h.n<=hx.n):Ww c R hx v xs:=by
 rcases o with⟨rfl,rfl⟩|⟨g,cells,D,g1,g2,rfl,g4,g5,g6,g7,g8⟩
 ·exact Ww.nil
 ·refine⟨cells,⟨g5,.inr ⟨g,0,cells,rfl,ZW (hk g _ g1 g2 g4),?_,QM g2 hn⟩⟩,fun i a ha=>g8 i a ha hx (fun k o hd e=>hk k o (g7 k hd).1 (g7 k hd).2 e) hn⟩;rw[ZG (by omega)];simp[<-g5]
theorem OwnR.sl(o:OwnR c R b h v xs):Ww c R h v xs:=o.dep (fun _ _ _ _ e=>e) (QE _)
theorem OwnR.base{b':Nat}(o:OwnR c R b h v xs)(hb:b'<=b):OwnR c R b' h v xs:=by
 rcases o with o|⟨g,cells,D,g1,g2,g3,g4,g5,g6,g7,g8⟩
 ·exact .inl o
 ·exact .inr ⟨g,cells,D,QU hb g1,g2,g3,g4,g5,g6,fun k hd=>⟨QU hb (g7 k hd).1,(g7 k hd).2⟩,g8⟩
theorem U7.depI{hb:U0}{w:Value}{l:List Int}(o:U7 hb h w l){hx:U0}(hk:∀ k o,hb.n<=k->k<h.n->h.get k=some o->hx.get k=some o)(hn:h.n<=hx.n):WJ hx w l:=by
 rcases o with⟨rfl,rfl⟩|⟨g,g1,g2,rfl,g4⟩
 ·exact WJ.nil hx
 ·exact WJ.own (QM g2 hn) (hk g _ g1 g2 g4)
theorem zMN{cells cs:List Value}{n i:Nat}(hl:cells.length=n*c)(hc:cs.length=c)(hi:i<n):(((cells++cs).drop (i*c)).take c)=(cells.drop (i*c)).take c:=by
 have h1:i*c+c<=n*c:=by rw[<-G4];exact GP _ hi
 rw[List.drop_append,List.take_append_of_le_length];rw[List.length_drop];omega
theorem zK7{cells cs:List Value}{n:Nat}(hl:cells.length=n*c)(hc:cs.length=c):(((cells++cs).drop (n*c)).take c)=cs:=by
 rw[List.drop_append,List.drop_eq_nil_of_le (by omega),GK,hl,Nat.sub_self,Q3,Q9 (by omega)]
theorem OwnR.snoc(o:OwnR c R b h v xs){cs:List Value}{a:α}{Dn:Nat->Prop}{g':Nat}{olds:List Value}(hc:cs.length=c)(d:Bl R h cs a Dn)(hD:∀ k,Dn k->b<=k/\k<h.n)(hv:∀ g n k,v=.slice (some ⟨g,0,none⟩) n k->¬Dn g)
  (hold:∀ g n k,v=.slice (some ⟨g,0,none⟩) n k->h.get g=some (.row olds true 0)) (hnil:v=.slice none 0 0->olds=[])
  (hg:h.n<=g') (hb:b<=g') (hg2:g'<h'.n) (hget:h'.get g'=some (.row (olds++cs) true 0)) (keep:∀ k,b<=k->k<h.n->(∀ n k',v≠ .slice (some ⟨k,0,none⟩) n k')->h'.get k=h.get k):
  OwnR c R b h' (.slice (some ⟨g',0,none⟩) (xs++[a]).length c) (xs++[a]):=by
 rcases o with⟨rfl,rfl⟩|⟨g,cells,D,g1,g2,rfl,g4,g5,g6,g7,g8⟩
 ·have:=hnil rfl;subst this;refine .inr ⟨g',cs,Dn,hb,hg2,rfl,by simpa using hget,by simp[hc],fun hd=>by have:=(hD _ hd).2;omega,fun k hd=>⟨(hD k hd).1,by have:=(hD k hd).2;omega⟩,fun i x hx=> ?_⟩;have hi:i=0:=by
   have:=(QS.1 hx).1;simp at this;omega
  subst hi;simp at hx;subst hx;rw[Nat.zero_mul,Q3,Q9 (by omega)];exact d.mono (fun _ h=>h) (fun k o hd e=>(keep k (hD k hd).1 (hD k hd).2 (fun _ _ e=>by cases e)).trans e) (by omega)
 ·have:=hold g _ _ rfl;rw[g4]at this;cases this;refine .inr ⟨g',olds++cs,fun k=>D k\/Dn k,hb,hg2,rfl,hget,by rw[QR,QR,QX,G4,g5,hc],fun hd=> ?_,fun k hd=> ?_,fun i x hx=> ?_⟩
  ·rcases hd with hd|hd
   ·have:=(g7 _ hd).2;omega
   ·have:=(hD _ hd).2;omega
  ·rcases hd with hd|hd
   ·exact⟨(g7 k hd).1,by have:=(g7 k hd).2;omega⟩
   ·exact⟨(hD k hd).1,by have:=(hD k hd).2;omega⟩
  ·by_cases hi:i<xs.length
   ·rw[Q6 hi]at hx;rw[zMN g5 hc hi];refine(g8 i x hx).mono (fun k h=> .inl h) (fun k o hd e=>(keep k (g7 k hd).1 (g7 k hd).2 (fun n k' e2=> ?_)).trans e) (by omega);cases e2;exact g6 hd
   ·rw[GH (by omega)]at hx;have hi2:i=xs.length:=by
     have:=(QS.1 hx).1;simp at this;omega
    subst hi2;simp at hx;subst hx;rw[zK7 g5 hc];refine d.mono (fun k h=> .inr h) (fun k o hd e=>(keep k (hD k hd).1 (hD k hd).2 (fun n k' e2=> ?_)).trans e) (by omega);exact hv k n k' e2 hd
end
section
variable {P:Program}{tab:Wo}{t:U5 Value}{h:U0}{ds:List Deferred}{rd:Option Nat}{l:List U3}{Q:WH->U0->Prop}
theorem zAH{zero cs:List Value}{v:Value}{c:Nat}(hv:v.cells=cs.toArray)(hc:cs.length=c)(hz:zero.length=c):Zg (zg zero 1) [(0,c,v)]=some cs:=by
 have h1:zg zero 1=zero:=by simp[zg]
 have h2:Nat.beq v.cells.size c=true:=by rw[hv];simp[hc]
 have h3:Nat.ble (0+c) zero.length=true:=QG (by omega);rw[h1];simp only[Zg,h2,h3,Qt,cond_true,hv];congr 1;simp[zi,hc,hz]
theorem Yw{α:Type}{c b gl:Nat}{R:U0->List Value->α->Prop}{h H:U0}{v:Value}{xs:List α}{cs:List Value}{a:α}{Dn:Nat->Prop}(o:OwnR c R b h v xs)(hc:cs.length=c)(hc0:0<c)(h1:zK cs=true)(hl:xs.length<=100000)(hbn:b<=h.n)
  (d:Bl R h cs a Dn) (hD:∀ k,Dn k->b<=k/\k<h.n) (hv:∀ g n k,v=.slice (some ⟨g,0,none⟩) n k->¬Dn g) (hH:h.n<=H.n) (hgl:gl<H.n) (hkeep:∀ k,k<h.n->H.get k=h.get k) (hlit:H.get gl=some (.row cs true 0)):
  ∃ v' H',yP c v (.slice (some ⟨gl,0,none⟩) 1 c) H=some (v',H')/\OwnR c R b H' v' (xs++[a])/\H'.n=H.n+1/\(∀ k,k<H.n->(∀ n k',v≠ .slice (some ⟨k,0,none⟩) n k')->H'.get k=H.get k)/\H'.mark=H.mark/\(∀ k∈H'.wr,k∈H.wr\/b<=k)/\
   (H.mark<=b->H'.wr=H.wr)/\(Wf H->Wf H')/\(∃ n k g,v'=.slice (some ⟨g,0,none⟩) n k/\H.n<=g):=by
 obtain⟨y,ys,rfl⟩:∃ y ys,cs=y::ys:=by
  cases cs with
  |nil=>simp at hc;omega
  |cons y ys=>exact⟨y,ys,rfl⟩
 have hsrc:yT c H (.slice (some ⟨gl,0,none⟩) 1 c)=some (y::ys):=by
  have e1:yW H gl=some (y::ys):=ZW hlit;have e2:cut (y::ys) 0 (1*c)=some (y::ys):=by rw[ZG (by omega)];simp[<-hc]
  have e3:Nat.beq 1 0=false:=rfl;rw[Nat.one_mul]at e2;simp only[yT,e1,e3,Nat.one_mul,e2,GS,Qn,Qt,cond_true,QV]
 have hdiv:(y::ys).length / c=1:=by rw[hc];exact Nat.div_self hc0
 have hroom:room=4294967296:=rfl;rcases id o with⟨rfl,rfl⟩|⟨g,cells,D,g1,g2,rfl,g4,g5,g6,g7,g8⟩
 ·have hb1:Nat.ble 1 room=true:=rfl;refine⟨.slice (some ⟨H.n,0,none⟩) 1 c,H.push (.row (y::ys) true 0),?_,?_,rfl,fun k hk _=> ?_,rfl,fun k hk=> .inl hk,fun _=>rfl,fun w k hk=> ?_,⟨_,_,_,rfl,QE _⟩⟩
  ·simp only[yP,hsrc,h1,QW,QV,hdiv,hb1,cond_true];rfl
  ·have:=o.snoc (h':=H.push (.row (y::ys) true 0)) (g':=H.n) (olds:=[]) hc d hD hv (fun g n k e=>by cases e) (fun _=>rfl) hH (QU hbn hH) (Q1 _) (zU _ _) (fun k _ hk _=>by rw[zT,QC (by omega)];exact hkeep k hk);exact this
  ·rw[zT,QC (by omega)]
  ·have hk:H.n+1<=k:=hk;rw[zT,QC (by omega)];exact w k (by omega)
 ·have hb1:Nat.ble (xs.length+1) room=true:=QG (by omega);have hq:H.get g=some (.row cells true 0):=(hkeep g g2).trans g4;have h2:cut cells 0 (xs.length*c)=some cells:=by rw[ZG (by omega)];simp[<-g5]
  have h3:Nat.ble 0 (0+xs.length*c)=true:=QG (QK _);have hcc:Nat.beq c 0=false:=by cases hz:Nat.beq c 0 with
   |false=>rfl
   |true=>have:=QL hz;omega
  have hKn:(H.kill g).n=H.n:=rfl;refine⟨.slice (some ⟨H.n,0,none⟩) (xs.length+1) c,(H.kill g).push (.row (cells++y::ys) true (0-0)),?_,?_,rfl,fun k hk hvk=> ?_,rfl,fun k hk=> ?_,fun hm=> ?_,fun w k hk=> ?_,⟨_,_,_,rfl,QE _⟩⟩
  ·simp only[yP,hsrc,h1,QW,QV,hdiv,hb1,hcc,GS,hq,h2,h3,cond_true,Qn,Qt]
  ·have:=o.snoc (h':=(H.kill g).push (.row (cells++y::ys) true (0-0))) (g':=H.n) (olds:=cells) hc d hD hv (fun g n k e=>by cases e;exact g4) (fun e=>by cases e) hH (QU hbn hH) (Q1 _) (zU (H.kill g) _) (fun k _ hk hvk=>by
    rw[zT,QC (by rw[hKn];omega),yl,QC (fun e=>hvk _ _ (by rw[e]))];exact hkeep k hk)
   rw[QR,QX]at this;exact this
  ·rw[zT,QC (by rw[hKn];omega),yl,QC (fun e=>hvk _ _ (by rw[e]))]
  ·have hk2:k∈H.log g:=hk;rcases yt hk2 with rfl|h
   ·exact .inr g1
   ·exact .inl h
  ·show H.log g=H.wr;exact Y8 (by omega)
  ·have hk:H.n+1<=k:=hk;rw[zT,QC (by rw[hKn];omega),yl];split
   ·rfl
   ·exact w k (by omega)
theorem Vw{α:Type}{c b d1 d2:Nat}{R:U0->List Value->α->Prop}{hB:U0}{v w:Value}{xs:List α}{cs zero:List Value}(a:α)(Dn:Nat->Prop){x y:Operand}(o:OwnR c R b h v xs)(e0:Ext hB h)(hb:hB.n<=b)(hbn:b<=h.n)(hc0:0<c)(hl:xs.length<=100000)
  (d:Bl R h cs a Dn) (hD:∀ k,Dn k->b<=k/\k<h.n) (hv:∀ g n k,v=.slice (some ⟨g,0,none⟩) n k->¬Dn g)
  (k:∀ v' h' lit,Ext hB h'->OwnR c R b h' v' (xs++[a])->h.n<=h'.n->(∀ k,k<h.n->(∀ n k',v≠ .slice (some ⟨k,0,none⟩) n k')->h'.get k=h.get k)->WO P tab l ⟨(t.set d1 lit).set d2 v',ds,rd⟩ h' Q)
  (hx:WB t x w:=by exact zj) (hw:w.cells=cs.toArray:=by rfl) (hc:cs.length=c:=by rfl) (h1:zK cs=true:=by rfl) (hz:zero.length=c:=by rfl) (hy:∀ u,WB (t.set d1 u) y v:=by intro u;exact zj):
  WO P tab (⟨some d1,none,.buildSlice 1 c zero [(0,c,x)]⟩::⟨some d2,none,.append c y (.tmp d1)⟩::l) ⟨t,ds,rd⟩ h Q:=by
 have hx:ev t x=w:=hx;refine WO.op (.slice (some ⟨h.n,0,none⟩) 1 c) (h.push (.row cs true 0)) rfl (by
  simp only[U8,zw,Qr,Gb,hx,zAH hw hc hz,QI];rfl) ?_
 obtain⟨v',H',q1,q2,q3,q4,q5,q6,q7,q8,q9⟩:=Yw (H:=h.push (.row cs true 0)) (gl:=h.n) o hc hc0 h1 hl hbn d hD hv (GU _) (Q1 _) (fun k hk=>by rw[zT,QC (by omega)]) (zU _ _);have hyv:ev (t.set d1 (.slice (some ⟨h.n,0,none⟩) 1 c)) y=v:=hy _;have e1:ev (t.set d1 (.slice (some ⟨h.n,0,none⟩) 1 c)) (.tmp d1)=.slice (some ⟨h.n,0,none⟩) 1 c:=by simp only[ev,ze,Q0]
 refine WO.op v' H' rfl (by simp only[U8,hyv,e1,q1]) (k v' H' _ ?_ q2 (by rw[q3];show h.n<=h.n+1+1;omega) (fun k hk hvk=> ?_))
 ·have hvb:∀ k,k<hB.n->∀ n k',v≠ .slice (some ⟨k,0,none⟩) n k':=fun k hk n k' e=>by
   rcases o with⟨e2,_⟩|⟨g,_,_,g1,_,e2,_⟩
   ·rw[e2]at e;cases e
   ·rw[e2]at e;cases e;omega
  refine⟨by rw[q3];show hB.n<=h.n+1+1;have:=e0.n;omega,fun k hk=> ?_,fun w=>q8 ?_,q5.trans e0.mark,fun hm=> ?_⟩
  ·have:=e0.n;rw[q4 k (by show k<h.n+1;omega) (hvb k hk),zT,QC (by omega)];exact e0.get k hk
  ·intro k hk;have hk:h.n+1<=k:=hk;rw[zT,QC (by omega)];exact e0.wf w k (by omega)
  ·rw[q7 (by show h.mark<=b;rw[e0.mark];omega)];exact e0.wr hm
 ·rw[q4 k (by show k<h.n+1;omega) hvk,zT,QC (by omega)]
theorem Xy{α:Type}{c b d1 d2 d3 s j m N0:Nat}{cl:Bool}{R:U0->List Value->α->Prop}{hB hS X:U0}{p v w:Value}{xs:List α}{cs zero cells:List Value}(a:α)(Dn:Nat->Prop){x y:Operand}{K:WF->WH->U0->Prop}
  (eX:Ext (inC (zC 1 hS)) X) (o:OwnR c R b hS v xs) (e0:Ext hB hS) (hm:hS.mark<=hB.n) (hb:hB.n<=b) (hbn:b<=hS.n) (hc0:0<c) (hl:xs.length<=100000) (op:U1 hB hS p cells) (hpb:∀ g,p=.pointer (some ⟨g,0,none⟩)->g<b)
  (d:Bl R X cs a Dn) (hD:∀ k,Dn k->b<=k/\k<X.n) (hv:∀ g n k,v=.slice (some ⟨g,0,none⟩) n k->¬Dn g) (hDs:¬Dn hS.n) (hj:j<cells.length) (hcl:zK cells=true)
  (k:∀ H v' t',zEU [d1,d2,d3] t t'->Ext hB H->U1 hB H p (cells.set j v')->zK (cells.set j v')=true->OwnR c R b H v' (xs++[a])->(∀ k,k<hS.n->p≠ .pointer (some ⟨k,0,none⟩)->(∀ n k',v≠ .slice (some ⟨k,0,none⟩) n k')->H.get k=hS.get k)->hS.n<=H.n->K .normal ⟨t',ds,rd⟩ H)
  (hx:WB t x w:=by exact zj) (hw:w.cells=cs.toArray:=by rfl) (hc:cs.length=c:=by rfl) (h1:zK cs=true:=by rfl) (hz:zero.length=c:=by rfl) (hy:∀ u,WB (t.set d1 u) y v:=by intro u;exact zj) (hs:∀ u u',WB ((t.set d1 u).set d2 u') (.tmp s) p:=by intro u u';exact zj) (h32:Nat.beq d2 d3=false:=by rfl) (hm0:m=hS.mark:=by rfl):
  WP P tab m N0 [(⟨some d1,none,.buildSlice 1 c zero [(0,c,x)]⟩,[]),(⟨some d2,none,.append c y (.tmp d1)⟩,[]),(⟨some d3,none,.fld j (.tmp s)⟩,[]),(⟨none,none,.store 1 (.tmp d3) (.tmp d2)⟩,[])] hS.n cl ⟨t,ds,rd⟩ (inC X) (zAv K hS):=by
 subst hm0;have hx:ev t x=w:=hx;have hnX:hS.n+1<=X.n:=eX.n;obtain⟨gp,gp1,gp2,hp,gp3⟩:=op;have hgpb:=hpb gp hp;rw[WP,QF (show Nat.beq (zH (Wn.buildSlice 1 c zero [(0,c,x)])) 3=true from rfl)];refine⟨rfl,.inl ⟨rfl,by have:=e0.n;omega,.row cs true 0,_,by simp only[yh,zw,Qr,Gb,hx,zAH hw hc hz,QI];rfl,?_⟩⟩;generalize hH1:(inC (inC X)).lay hS.n (.row cs true 0)=H1;have n1:H1.n=X.n:=by rw[<-hH1];rfl
 have get1:∀ c',H1.get c'=if c'=hS.n then some (.row cs true 0)else X.get c':=fun c'=>by rw[<-hH1];exact zQ _ _ _ _
 have getX:∀ k,k<hS.n->X.get k=hS.get k:=fun k hk=>eX.get k (by show k<hS.n+1;omega);have oX:OwnR c R b X v xs:=o.upd (fun k _ hk=>getX k hk) (by omega);have oX1:OwnR c R b (inC H1) v xs:=by
  rcases o with o|⟨g,cl',D,g1,g2,g3,g4,g5,g6,g7,g8⟩
  ·exact .inl o
  ·refine .inr ⟨g,cl',D,g1,by show g<H1.n;omega,g3,?_,g5,g6,fun k hd=>⟨(g7 k hd).1,by have:=(g7 k hd).2;show k<H1.n;omega⟩,fun i a ha=>(g8 i a ha).mono (fun _ h=>h) (fun k o hd e=> ?_) (by show hS.n<=H1.n;omega)⟩
   ·show H1.get g=_;rw[get1,QC (by omega),getX g g2];exact g4
   ·have:=(g7 k hd).2;show H1.get k=_;rw[get1,QC (by omega),getX k this];exact e
 have d1':Bl R (inC H1) cs a Dn:=d.mono (fun _ h=>h) (fun k o hd e=>by
  show H1.get k=_;rw[get1,QC (fun e2:k=hS.n=>by subst e2;exact hDs hd)];exact e) (by show X.n<=H1.n;omega)
 obtain⟨v',H2,q1,q2,q3,q4,q5,q6,q7,q8,n',k',g',q9,q10⟩:=Yw (H:=inC H1) (gl:=hS.n) oX1 hc hc0 h1 hl (by show b<=H1.n;omega) d1' (fun k hd=>⟨(hD k hd).1,by have:=(hD k hd).2;show k<H1.n;omega⟩) hv (QE _) (by show hS.n<H1.n;omega) (fun _ _=>rfl) (by show H1.get hS.n=_;rw[get1,QF rfl]);rw[WP,QC (show ¬Nat.beq (zH (Wn.append c y (.tmp d1))) 3=true from Bool.noConfusion)];have hyv:ev (t.set d1 (.slice (some ⟨hS.n,0,none⟩) 1 c)) y=v:=hy _;have e1:ev (t.set d1 (.slice (some ⟨hS.n,0,none⟩) 1 c)) (.tmp d1)=.slice (some ⟨hS.n,0,none⟩) 1 c:=by simp only[ev,ze,Q0]
 refine WO.op v' H2 rfl (by simp only[U8,hyv,e1,q1]) ?_;refine WO.nil ⟨⟨fun c' hc'=> ?_,by show H1.n<=H2.n;rw[q3];exact GU _,.inl rfl⟩,?_⟩
 ·rcases q6 c' hc' with h|h
  ·cases h
  ·omega
 have hvp:∀ n k,v≠ .slice (some ⟨gp,0,none⟩) n k:=fun n k e=>by
  rcases o with⟨e2,_⟩|⟨g,_,_,g1,_,e2,_⟩
  ·rw[e2]at e;cases e
  ·rw[e2]at e;cases e;omega
 have own2:H2.get gp=some (.row cells true 0):=by
  rw[q4 gp (by show gp<H1.n;omega) hvp];show H1.get gp=_;rw[get1,QC (by omega),getX gp gp2];exact gp3
 rw[WP,QC (show ¬Nat.beq (zH (Wn.fld j (.tmp s))) 3=true from Bool.noConfusion)];have hs2:ev ((t.set d1 (.slice (some ⟨hS.n,0,none⟩) 1 c)).set d2 v') (.tmp s)=p:=hs _ _;refine WO.op (.pointer (some ⟨gp,j,none⟩)) (inC H2) rfl (by simp only[U8,hs2,hp,GC,Qn,cond_true]) ?_;refine WO.nil ⟨⟨fun c' hc'=>(by cases hc'),QE _,.inl rfl⟩,?_⟩;rw[WP,QC (show ¬Nat.beq (zH (Wn.store 1 (.tmp d3) (.tmp d2))) 3=true from Bool.noConfusion)];have hvone:zK [v']=true:=by rw[q9];rfl
 have hvcells:v'.cells=#[v']:=by rw[q9];rfl
 have hst:zo (inC (inC H2)) ⟨gp,j,none⟩ [v']=some ((inC (inC H2)).set gp (.row (cells.set j v') true 0)):=by
  have hg':(inC (inC H2)).get gp=some (.row cells true 0):=own2;have h1:Nat.ble (j+1) cells.length=true:=QG hj;have h0:Nat.ble 0 j=true:=QG (QK _);simp only[zo,hg',QX,h1,h0,hvone,Qt,zBX hj];rfl
 have hd32:¬d2=d3:=fun e=>by subst e;simp at h32
 refine VU undef ((inC (inC H2)).set gp (.row (cells.set j v') true 0)) rfl (by
  have a1:∀ tt:U5 Value,ev (tt.set d3 (.pointer (some ⟨gp,j,none⟩))) (.tmp d3)=.pointer (some ⟨gp,j,none⟩):=fun tt=>by
   simp only[ev,ze,Q0]
  have a2:∀ w,ev (((t.set d1 (.slice (some ⟨hS.n,0,none⟩) 1 c)).set d2 w).set d3 (.pointer (some ⟨gp,j,none⟩))) (.tmp d2)=w:=fun w=>by
   simp only[ev,ze,QC hd32,Q0]
  simp only[val,U8,a1,a2,hvcells,Gj,QX,GS,hst,QI,cond_true]) ?_
 refine WO.nil ⟨⟨fun c' hc'=> ?_,QE _,.inl rfl⟩,?_⟩
 ·have hc2:c'∈(inC (inC H2)).log gp:=hc';rcases yt hc2 with rfl|h
  ·omega
  ·cases h
 generalize hH:outC hS ((inC (inC H2)).set gp (.row (cells.set j v') true 0))=H;have nH:H.n=X.n+1:=by rw[<-hH];show H2.n=_;rw[q3];show H1.n+1=_;omega
 have getH:∀ c',H.get c'=if c'=gp then some (.row (cells.set j v') true 0)else H2.get c':=fun c'=>by rw[<-hH];exact zQ _ _ _ _
 have keepH:∀ c',c'<hS.n->c'≠gp->(∀ n k,v≠ .slice (some ⟨c',0,none⟩) n k)->H.get c'=hS.get c':=fun c' h1 h2 h3=>by
  rw[getH,QC h2,q4 c' (by show c'<H1.n;omega) h3];show H1.get c'=_;rw[get1,QC (by omega),getX c' h1]
 have hvB:∀ k,k<hB.n->∀ n k',v≠ .slice (some ⟨k,0,none⟩) n k':=fun k hk n k' e=>by
  rcases o with⟨e2,_⟩|⟨g,_,_,g1,_,e2,_⟩
  ·rw[e2]at e;cases e
  ·rw[e2]at e;cases e;omega
 have oneH:zK (cells.set j v')=true:=by
  unfold zK at *;rw[QY]at *;intro z hz;rcases List.mem_or_eq_of_mem_set hz with h|h
  ·exact hcl z h
  ·subst h;rw[q9]
 show K .normal _ _;rw[hH];refine k H v' _ (fun i hi=> ?_) ?_ ⟨gp,gp1,by rw[nH];omega,hp,by rw[getH,QF rfl]⟩ oneH (q2.upd (fun k hk1 hk2=>by rw[getH,QC (by omega)]) (by rw[nH,q3];show H1.n+1<=_;omega)) (fun c' h1 h2 h3=>keepH c' h1 (fun e=>h2 (by rw[hp,e])) h3) (by rw[nH];omega)
 ·have hc:=ZN hi;rw[List.contains_eq_mem,Gf]at hc;have b1:¬i=d1:=fun e=>hc (by simp[e]);have b2:¬i=d2:=fun e=>hc (by simp[e]);have b3:¬i=d3:=fun e=>hc (by simp[e]);simp only[val,ze,QC b1,QC b2,QC b3]
 ·have hn0:=e0.n;refine⟨by rw[nH];omega,fun k hk=>(keepH k (by omega) (by omega) (hvB k hk)).trans (e0.get k hk),fun w k hk=> ?_,?_,fun hmk=> ?_⟩
  ·rw[nH]at hk;rw[getH,QC (by omega)];refine q8 (fun k2 hk2=> ?_) k (by rw[q3];show H1.n+1<=k;omega);have hk2:H1.n<=k2:=hk2;show H1.get k2=_;rw[get1,QC (by omega)];exact eX.wf (fun k3 hk3=>e0.wf w k3 (by have:hS.n+1<=k3:=hk3;omega)) k2 (by omega)
  ·rw[<-hH];exact e0.mark
  ·rw[<-hH];exact e0.wr hmk
end
section
variable {P:Program}{tab:Wo}{m:Nat}{Bad:Nat->Prop}{l:List (U3×List Nat)}{o:U3}{un:List Nat}{g:Nat}{fr:WH}{h h0 h':U0}{Q:WH->U0->Prop}{K:WF->WH->U0->Prop}{t:U5 Value}{ds:List Deferred}{rd:Option Nat}
theorem zMK{d:Option Nat}{agg:Bool}{n j:Nat}{x:Operand}{v:Value}(hv:∃ a n k,v=.slice (some a) n k/\¬Bad a.block)(hx:BG P tab m Bad l g fr (inC h) Q)(hr:WB t x (zv v j):=by exact zj):uK6 P tab m Bad [] t ⟨d,none,.load agg n x⟩ l g Q fr (inC h):=by
 obtain⟨a,n',k',rfl,hb⟩:=hv;exact zJd (a:=a) (k:=j) hr hb hx
theorem zLw{N0 j n:Nat}{d:Option Nat}{agg:Bool}{x:Operand}{v:Value}{un:List Nat}(hv:∃ a n k,v=.slice (some a) n k/\a.block<N0)(hx:WP P tab m N0 l g true fr (inC h) Q)(hr:WB t x (zv v j):=by exact zj):
  uK2 P tab m N0 un t ⟨d,none,.load agg n x⟩ (inC h) l g true Q fr (inC h):=by
 obtain⟨a,n',k',rfl,hb⟩:=hv;refine zDB (fun k hk=> ?_) hx;unfold WB zv at hr;simp only[zh,zS,cond_true,hr,QA]at hk;omega
theorem YG{α:Type}{c i:Nat}{R:U0->List Value->α->Prop}{v:Value}{xs:List α}(s:Ww c R h v xs)(hi:i<xs.length):∃ a n k,v=.slice (some a) n k/\a.block<h.n:=by
 obtain⟨cells,⟨h1,⟨h2,_⟩|⟨g,off,row,rfl,_,_,hg⟩⟩,_⟩:=s
 ·omega
 ·exact⟨_,_,_,rfl,hg⟩
theorem zFB{c i n:Nat}{h:U0}{v:Value}{cells:List Value}(a:WW c h v n cells)(hi:i<n):We h v (i*c) ((cells.drop (i*c)).take c):=by
 have hlen:cells.length=n*c:=a.1;have hle:i*c+c<=cells.length:=by
  rw[hlen,<-G4];exact GP _ hi
 intro P ih t x agg k off r hx hn hr;cases hc:cut ((cells.drop (i*c)).take c) off k with
 |none=>rw[hc]at hr;cases hr
 |some m=>
  rw[hc]at hr;have h1:cut cells (i*c) c=Option.some ((cells.drop (i*c)).take c):=ZG hle;exact zD2 a hx (zD3 h1 hc) hn hr
theorem zW{α:Type}[Inhabited α]{c:Nat}{R:U0->List Value->α->Prop}{h:U0}{v:Value}{T:List α}{i:Nat}(s:Ww c R h v T)(hi:i<T.length):∃ cs,R h cs (T.getD i default)/\(∀ h',Ext h h'->We h' v (i*c) cs/\We (inC h') v (i*c) cs)/\zJ9 v:=by
 have hs:=s.some hi;obtain⟨cells,a,b⟩:=s;refine⟨_,by simpa [List.getD,QB hi]using b i T[i] (QB hi),fun h' e=> ?_,hs⟩;have a':=a.ext e;exact⟨zFB a' hi,zFB (h:=inC h') a' hi⟩
theorem UL{d1 d2 n:Nat}{z1 z2 cs1 cs2:List Value}{y1 y2:Operand}{v1 v2:Value}{u1 u2:List Nat}{hS:U0}(hm:hS.mark<=hS.n)
  (k:∀ H p1 p2,Ext hS H->U1 hS H p1 cs1->U1 hS H p2 cs2->K .normal ⟨(t.set d1 p1).set d2 p2,ds,rd⟩ H)
  (hy1:∀ a b,WB ((t.set d1 a).set d2 b) y1 v1:=by intro a b;exact zj) (hy2:∀ a b,WB ((t.set d1 a).set d2 b) y2 v2:=by intro a b;exact zj) (hv1:v1.cells=cs1.toArray:=by rfl) (hv2:v2.cells=cs2.toArray:=by rfl)
  (hz1:z1.length=n:=by rfl) (hz2:z2.length=n:=by rfl) (hc1:cs1.length=n:=by rfl) (hc2:cs2.length=n:=by rfl) (h1:zK cs1=true:=by rfl) (h2:zK cs2=true:=by rfl) (h12:Nat.beq d1 d2=false:=by rfl) (hm0:m=hS.mark:=by rfl):
  BG P tab m (fun g=>g=hS.n\/g=hS.n+1) [(⟨some d1,none,.alloc z1⟩,[]),(⟨some d2,none,.alloc z2⟩,[]),(⟨none,none,.store n (.tmp d1) y1⟩,u1),(⟨none,none,.store n (.tmp d2) y2⟩,u2)] hS.n ⟨t,ds,rd⟩ (inC (zC 2 hS)) (zAv K hS):=by
 subst hm0;have hd12:¬d1=d2:=fun e=>by subst e;simp at h12
 rw[BG,QF (show Nat.beq (zH (Wn.alloc z1)) 3=true from rfl)];refine⟨rfl,rfl,hm,rfl,.row z1 true 0,fun g=> .pointer (some ⟨g,0,none⟩),rfl,?_⟩;rw[BG,QF (show Nat.beq (zH (Wn.alloc z2)) 3=true from rfl)];refine⟨rfl,rfl,by show hS.mark<=hS.n+1;omega,rfl,.row z2 true 0,fun g=> .pointer (some ⟨g,0,none⟩),rfl,?_⟩;generalize hH2:(inC ((inC (inC (zC 2 hS))).lay hS.n (.row z1 true 0))).lay (hS.n+1) (.row z2 true 0)=H2;have n2:H2.n=hS.n+2:=by rw[<-hH2];rfl
 have get2:∀ c,H2.get c=if c=hS.n+1 then some (.row z2 true 0)else if c=hS.n then some (.row z1 true 0)else hS.get c:=fun c=>by
  rw[<-hH2];refine(zQ _ _ _ _).trans ?_;split
  ·rfl
  ·exact zQ _ _ _ _
 have store:∀ (X:U0) (g:Nat) (z cs:List Value),X.get g=some (.row z true 0)->z.length=n->cs.length=n->zK cs=true->zo (inC X) ⟨g,0,none⟩ cs=some ((inC X).set g (.row cs true 0)):=fun X g z cs hg hz hc h1=>by
  have hg':(inC X).get g=some (.row z true 0):=hg;have h2:Nat.ble (0+cs.length) z.length=true:=QG (by omega);have h3:Nat.ble 0 0=true:=rfl;have h4:zi z 0 cs=cs:=by simp[zi,hz,hc]
  simp only[zo,hg',h2,h3,h1,h4,Qn,Qt,cond_true]
 have e1:∀ a b,ev ((t.set d1 a).set d2 b) (.tmp d1)=a:=fun a b=>by simp only[ev,ze,QC hd12,Q0]
 have e2:∀ a b,ev ((t.set d1 a).set d2 b) (.tmp d2)=b:=fun a b=>by simp only[ev,ze,Q0]
 have y1e:∀ a b,ev ((t.set d1 a).set d2 b) y1=v1:=hy1;have y2e:∀ a b,ev ((t.set d1 a).set d2 b) y2=v2:=hy2;rw[BG,QC (show ¬Nat.beq (zH (Wn.store n (.tmp d1) y1)) 3=true from Bool.noConfusion)];refine VU undef ((inC H2).set hS.n (.row cs1 true 0)) rfl (by
  simp only[val,U8,e1,y1e,hv1,Gj,hc1,GS,store H2 hS.n z1 cs1 (by rw[get2,QC (by omega),QF rfl]) hz1 hc1 h1,QI,cond_true]) ?_
 refine WO.nil ⟨fun c hc=> ?_,.inr ⟨rfl,fun c hc=> ?_⟩,fun c hc=>(by cases hc),?_⟩
 ·have hc:c∈(inC H2).log hS.n:=hc;rcases yt hc with rfl|h
  ·exact hm
  ·cases h
 ·have hc:c∈(inC H2).log hS.n:=hc;rcases yt hc with rfl|h
  ·exact .inl rfl
  ·cases h
 generalize hH3:(inC H2).set hS.n (.row cs1 true 0)=H3;have n3:H3.n=hS.n+2:=by rw[<-hH3];exact n2
 have get3:∀ c,H3.get c=if c=hS.n then some (.row cs1 true 0)else H2.get c:=fun c=>by rw[<-hH3];exact zt _ _ _ _
 rw[BG,QC (show ¬Nat.beq (zH (Wn.store n (.tmp d2) y2)) 3=true from Bool.noConfusion)];refine VU undef ((inC H3).set (hS.n+1) (.row cs2 true 0)) rfl (by
  simp only[val,U8,e2,y2e,hv2,Gj,hc2,GS,store H3 (hS.n+1) z2 cs2 (by rw[get3,QC (by omega),get2,QF rfl]) hz2 hc2 h2,QI,cond_true]) ?_
 refine WO.nil ⟨fun c hc=> ?_,.inr ⟨rfl,fun c hc=> ?_⟩,fun c hc=>(by cases hc),?_⟩
 ·have hc:c∈(inC H3).log (hS.n+1):=hc;rcases yt hc with rfl|h
  ·omega
  ·cases h
 ·have hc:c∈(inC H3).log (hS.n+1):=hc;rcases yt hc with rfl|h
  ·exact .inr rfl
  ·cases h
 generalize hH4:outC hS ((inC H3).set (hS.n+1) (.row cs2 true 0))=H4;have n4:H4.n=hS.n+2:=by rw[<-hH4];exact n3
 have get4:∀ c,H4.get c=if c=hS.n+1 then some (.row cs2 true 0)else if c=hS.n then some (.row cs1 true 0)else hS.get c:=fun c=>by
  rw[<-hH4];refine(zt (inC H3) _ _ _).trans ?_;split
  ·rfl
  ·rename_i hne;refine(get3 c).trans ?_;split
   ·rfl
   ·rename_i hne2;rw[get2,QC hne,QC hne2]
 show K .normal _ _;rw[hH4];refine k H4 (.pointer (some ⟨hS.n,0,none⟩)) (.pointer (some ⟨hS.n+1,0,none⟩)) ⟨by omega,fun c hc=>by rw[get4,QC (by omega),QC (by omega)],fun w c hc=> ?_,?_,fun hmk=> ?_⟩ ⟨hS.n,QE _,by omega,rfl,by rw[get4,QC (by omega),QF rfl]⟩ ⟨hS.n+1,by omega,by omega,rfl,by rw[get4,QF rfl]⟩
 ·rw[get4,QC (by omega),QC (by omega)];exact w c (by omega)
 ·rw[<-hH4];rfl
 ·rw[<-hH4];rfl
def RBo(_:U0)(cs:List Value)(b:Bool):Prop:=cs=[.bool b]
abbrev zNu(h:U0)(v:Value)(l:List Bool):Prop:=Ww 1 RBo h v l
def Wz(h0 h:U0)(v:Value)(l:List Bool):Prop:=∃ g,h0.n<=g/\g<h.n/\v=.slice (some ⟨g,0,none⟩) l.length 1/\h.get g=some (.row (l.map .bool) true 0)
theorem Wz.ext{h0 h h' v l}(o:Wz h0 h v l)(e:Ext h h'):Wz h0 h' v l:=by
 obtain⟨g,a,b,c,d⟩:=o;exact⟨g,a,QM b e.n,c,(e.get g b).trans d⟩
theorem Wz.sl{h0 h v l}(o:Wz h0 h v l):zNu h v l:=by
 obtain⟨g,a,b,rfl,d⟩:=o;refine⟨l.map .bool,WW.own (own:=true) (lo:=0) b d (by simp),fun i x hx=> ?_⟩;obtain⟨hi,e⟩:=QS.1 hx;show((l.map Value.bool).drop (i*1)).take 1=_;rw[JF,GO (by simpa using hi)];simp[e]
theorem zIj(n:Nat):zg [.bool false] n=(List.replicate n false).map Value.bool:=by
 induction n with
 |zero=>rfl
 |succ n ih=>rw[zg,ih];rfl
theorem UI{d n:Nat}{x y:Operand}{l:List U3}(hr:n<=100000)(k:∀ v h',Ext h h'->Wz h h' v (List.replicate n false)->WO P tab l ⟨t.set d v,ds,rd⟩ h' Q)
  (hx:WB t x (I (n:Int)):=by exact zj) (hy:WB t y (I (n:Int)):=by exact zj):WO P tab (⟨some d,none,.mkSlice 1 [.bool false] x y⟩::l) ⟨t,ds,rd⟩ h Q:=by
 have h1:Nat.ble n room=true:=QG (by have:room=4294967296:=rfl;omega);have h2:Nat.ble n n=true:=QG (QE _);have hx:ev t x=I (n:Int):=hx;have hy:ev t y=I (n:Int):=hy;have hn:BE (I (n:Int))=some n:=rfl;refine WO.op _ _ rfl (by simp only[U8,hx,hy,hn,h1,h2,Qt,cond_true];rfl) (k _ _ (Zj _ _) ⟨h.n,QE _,by simp[U0.push],by simp,?_⟩);rw[zU,zIj]
theorem Vx{N0 g:Nat}{cl:Bool}{x y:Operand}{v:Value}{bs:List Bool}{b:Bool}{i j:Nat}{hB hS X:U0}{m:Nat}(o:Wz hB X v bs)(e0:Ext hB hS)(hm:hS.mark<=hB.n)(hX:outC hS X=hS)(hi:i<bs.length)
  (k:∀ h',Ext hB h'->Wz hB h' v (bs.set i b)->(∀ k,k<hS.n->(∀ n k',v≠ .slice (some ⟨k,0,none⟩) n k')->h'.get k=hS.get k)->hS.n<=h'.n->K .normal ⟨t,ds,rd⟩ h')
  (hx:WB t x (zv v j):=by exact zj) (hy:WB t y (.bool b):=by exact zj) (hj:j=i*1:=by rfl) (hm0:m=hS.mark:=by rfl):WP P tab m N0 [(⟨none,none,.store 1 x y⟩,[])] g cl ⟨t,ds,rd⟩ (inC X) (zAv K hS):=by
 subst hm0 hj;rw[JF]at hx;obtain⟨q,q1,q2,rfl,q3⟩:=o;have hx:ev t x=.pointer (some ⟨q,0+i,none⟩):=hx;have hy:ev t y=.bool b:=hy;have gX:∀ c,X.get c=hS.get c:=fun c=>by have:=congrArg (fun h:U0=>h.get c) hX;exact this
 have nX:X.n=hS.n:=by have:=congrArg U0.n hX;exact this
 rw[WP,QC (show ¬Nat.beq (zH (Wn.store 1 x y)) 3=true from Bool.noConfusion)];have hst:zo (inC (inC X)) ⟨q,0+i,none⟩ [.bool b]=some ((inC (inC X)).set q (.row ((bs.set i b).map .bool) true 0)):=by
  have g3':(inC (inC X)).get q=some (.row (bs.map .bool) true 0):=q3;have h2:Nat.ble (0+i+1) (bs.map Value.bool).length=true:=QG (by simp;omega);have h3:Nat.ble 0 (0+i)=true:=QG (QK _);have h4:zi (bs.map Value.bool) (0+i) [.bool b]=(bs.set i b).map .bool:=by
   rw[GC,zBX (by simpa using hi),List.map_set]
  have h5:zK [Value.bool b]=true:=rfl;simp only[zo,g3',QX,h2,h3,h4,h5,Qn,Qt,cond_true]
 have hc:(Value.bool b).cells=#[.bool b]:=rfl;refine VU undef ((inC (inC X)).set q (.row ((bs.set i b).map .bool) true 0)) rfl (by
  simp only[U8,hx,hy,hc,Gj,QX,GS,hst,QI,cond_true]) ?_
 refine WO.nil ⟨⟨fun k hk=> ?_,QE _,.inl rfl⟩,?_⟩
 ·have hk2:k∈(inC (inC X)).log q:=hk;rcases yt hk2 with rfl|hk3
  ·omega
  ·cases hk3
 have get2:∀ k,(outC hS ((inC (inC X)).set q (.row ((bs.set i b).map .bool) true 0))).get k=if k=q then some (.row ((bs.set i b).map .bool) true 0)else hS.get k:=fun k=>by
  have e1:((inC (inC X)).set q (.row ((bs.set i b).map .bool) true 0)).get k=if k=q then some (.row ((bs.set i b).map .bool) true 0)else(inC (inC X)).get k:=zt ..;refine e1.trans ?_;split
  ·rfl
  ·exact gX k
 refine k (outC hS ((inC (inC X)).set q (.row ((bs.set i b).map .bool) true 0))) ?_ ⟨q,q1,q2,by simp,by rw[get2,QF rfl]⟩ (fun c hc hv=>by rw[get2,QC (fun e=>hv _ _ (by rw[e]))]) (by show hS.n<=X.n;omega);refine⟨by show hB.n<=X.n;rw[nX];exact e0.n,fun c hc=>by rw[get2,QC (by omega)];exact e0.get c hc,fun w c hc=> ?_,e0.mark,fun hmk=>e0.wr hmk⟩;have hc:X.n<=c:=hc;rw[get2,QC (by omega)];exact e0.wf w c (by omega)
end
section
variable {P:Program}{tab:Wo}{t:U5 Value}{h:U0}{ds:List Deferred}{rd:Option Nat}{l:List U3}{Q:WH->U0->Prop}
end
section
variable {P:Program}{tab:Wo}{m N0:Nat}{l:List (U3×List Nat)}{o:U3}{g:Nat}{cl:Bool}{fr:WH}{h h0 h':U0}{Q:WH->U0->Prop}{K:WF->WH->U0->Prop}{x:U3×List Nat}{t:U5 Value}
theorem zOy(hw:∀ k∈h'.wr,m<=k)(hn:h.n<=h'.n)(hx:∀ cl',WP P tab m N0 (x::l) g cl' fr (inC h') Q):uK2 P tab m N0 [] t o (inC h) (x::l) g cl Q fr h':=⟨⟨hw,hn,.inl rfl⟩,by
 have:=hx (cl&&h'.wr.isEmpty);obtain⟨y,un⟩:=x;unfold WP at this |-;exact this⟩
theorem zFq{j n:Nat}{d:Option Nat}{gd:Option (Nat×Bool)}{agg:Bool}{x:Operand}{v:Value}{un:List Nat}(hv:∃ a n k,v=.slice (some a) n k/\a.block<N0)(hx:WP P tab m N0 l g true fr (inC h) Q)(hr:WB t x (zv v j):=by exact zj):
  uK2 P tab m N0 un t ⟨d,gd,.load agg n x⟩ (inC h) l g true Q fr (inC h):=by
 obtain⟨a,n',k',rfl,hb⟩:=hv;refine zDB (fun k hk=> ?_) hx;unfold WB zv at hr;cases hw:zS t gd with
 |false=>simp only[zh,hw,QV]at hk;cases hk
 |true=>
  simp only[zh,hw,cond_true,hr,QA]at hk;omega
theorem zO8{j n:Nat}{b:Bool}{d:Option Nat}{agg:Bool}{x:Operand}{un:List Nat}(hx:WP P tab m N0 l g true fr (inC h) Q)(s:Wb t j (.bool b):=by exact YV)(hb:b=true:=by exact zE2):
  uK2 P tab m N0 un t ⟨d,some (j,false),.load agg n x⟩ (inC h) l g true Q fr (inC h):=by
 refine zDB (fun k hk=> ?_) hx;unfold Wb at s;subst hb;have hw:zS t (some (j,false))=false:=by simp only[zS,s];rfl
 simp only[zh,hw,QV]at hk;cases hk
end
section
variable {α:Type}{c b:Nat}{R:U0->List Value->α->Prop}
theorem zOE{cells:List Value}{n:Nat}(hc:0<c)(hl:cells.length=n*c)(h:∀ i,i<n->zK ((cells.drop (i*c)).take c)=true):zK cells=true:=by
 unfold zK at *;rw[QY];intro x hx;obtain⟨j,hj,rfl⟩:=JD hx;have hi:j / c<n:=by rw[Nat.div_lt_iff_lt_mul hc];omega
 have h1:=QY.1 (h (j / c) hi);refine h1 _ ?_;have hd:j / c*c+j % c=j:=by rw[Nat.mul_comm];exact Nat.div_add_mod ..
 have hm:j % c<c:=Nat.mod_lt _ hc;rw[JJ];refine⟨j % c,by rw[Qj,List.length_drop];omega,?_⟩;rw[List.getElem_take,List.getElem_drop];congr 1
variable {P:Program}{tab:Wo}{t:U5 Value}{h:U0}{ds:List Deferred}{rd:Option Nat}{l:List U3}{Q:WH->U0->Prop}
theorem UY{d:Nat}{zero:List Value}(R:U0->List Value->α->Prop)(k:∀ v h',Ext h h'->OwnR c R h.n h' v []->WO P tab l ⟨t.set d v,ds,rd⟩ h' Q):WO P tab (⟨some d,none,.buildSlice 0 c zero []⟩::l) ⟨t,ds,rd⟩ h Q:=by
 refine WO.op (.slice (some ⟨h.n,0,none⟩) 0 c) (h.push (.row [] true 0)) rfl rfl (k _ _ (Zj _ _) (.inr ⟨h.n,[],fun _=>False,QE _,Q1 _,rfl,zU _ _,by simp,fun h=>h,fun k hk=>hk.elim,fun i a ha=>by simp at ha⟩))
theorem Xf{d:Nat}{hB:U0}{x y:Operand}{v w:Value}{ys:List α}(o:OwnR c R b h v ([]:List α))(s:Ww c R h w ys)(hc:0<c)(hind:∀ cs a,R h cs a->Bl R h cs a (fun _=>False))(hone:∀ cs a,R h cs a->zK cs=true)
  (e0:Ext hB h) (hb:hB.n<=b) (hbn:b<=h.n) (hl:ys.length<=100000) (k:∀ v' h',Ext hB h'->OwnR c R b h' v' ys->WO P tab l ⟨t.set d v',ds,rd⟩ h' Q) (hx:WB t x v:=by exact zj) (hy:WB t y w:=by exact zj):
  WO P tab (⟨some d,none,.append c x y⟩::l) ⟨t,ds,rd⟩ h Q:=by
 have hx:ev t x=v:=hx;have hy:ev t y=w:=hy;have hroom:room=4294967296:=rfl;obtain⟨cells,⟨hlen,hcase⟩,hR⟩:=s;have hpc:∀ i,i<ys.length->∃ a,ys[i]?=some a/\R h ((cells.drop (i*c)).take c) a:=fun i hi=>⟨ys[i],QB hi,hR i _ (QB hi)⟩;by_cases hy0:ys.length=0
 ·have hsrc:yT c h w=some []:=by
   rcases hcase with⟨_,rfl|⟨a,k',rfl⟩⟩|⟨g,off,row,rfl,_⟩
   ·rfl
   ·rfl
   ·rw[hy0];rfl
  have hys:ys=[]:=Gs hy0;subst hys;have hv:∃ a n k,v=.slice a n k/\(a=none->n=0/\k=0):=by
   rcases o with⟨rfl,_⟩|⟨g,_,_,_,_,rfl,_⟩
   ·exact⟨_,_,_,rfl,fun _=>⟨rfl,rfl⟩⟩
   ·exact⟨_,_,_,rfl,fun h=>by cases h⟩
  refine WO.op v h rfl ?_ (k v h e0 o);obtain⟨a,n,kk,rfl,ha⟩:=hv;cases a with
  |none=>obtain⟨rfl,rfl⟩:=ha rfl;simp only[U8,hx,hy,yP,hsrc]
  |some a=>simp only[U8,hx,hy,yP,hsrc]
 ·obtain⟨g,off,row,rfl,hrow,hcut,hg⟩:=hcase.resolve_left (fun h=>hy0 h.1);have hbe:Nat.beq ys.length 0=false:=by cases hb:Nat.beq ys.length 0 with
   |false=>rfl
   |true=>exact absurd (QL hb) hy0
  have hsrc:yT c h (.slice (some ⟨g,off,none⟩) ys.length c)=some cells:=by
   simp only[yT,hbe,GS,Qn,Qt,cond_true,QV,hrow,hcut]
  have h1:zK cells=true:=zOE hc hlen fun i hi=>by
   obtain⟨a,_,r⟩:=hpc i hi;exact hone _ _ r
  obtain⟨z,zs,hz⟩:∃ z zs,cells=z::zs:=by
   cases hcl:cells with
   |nil=>exfalso;rw[hcl,Gw]at hlen;have:0<ys.length*c:=Nat.mul_pos (by omega) hc;omega
   |cons z zs=>exact⟨z,zs,rfl⟩
  have hdiv:(z::zs).length / c=ys.length:=by rw[<-hz,hlen];exact Nat.mul_div_cancel _ hc
  rw[hz]at hsrc h1;have hcc:Nat.beq c 0=false:=by cases hz:Nat.beq c 0 with
   |false=>rfl
   |true=>have:=QL hz;omega
  have fin:∀ H:U0,h.n<H.n->H.get h.n=some (.row (z::zs) true 0)->OwnR c R b H (.slice (some ⟨h.n,0,none⟩) ys.length c) ys:=fun H hn hget=>
   .inr ⟨h.n,z::zs,fun _=>False,hbn,hn,rfl,hget,by rw[<-hz];exact hlen,fun h=>h,fun k hk=>hk.elim,fun i a ha=>by
    rw[<-hz];exact(hind _ _ (hR i a ha)).mono (fun _ h=>h) (fun _ _ h=>h.elim) (by omega)⟩
  rcases o with⟨rfl,_⟩|⟨g0,zII,D,g1,g2,rfl,g4,g5,_⟩
  ·have hb1:Nat.ble ys.length room=true:=QG (by omega);refine WO.op (.slice (some ⟨h.n,0,none⟩) ys.length c) (h.push (.row (z::zs) true 0)) rfl ?_ (k _ _ (e0.push _) (fin _ (Q1 _) (zU _ _)));simp only[U8,hx,hy,yP,hsrc,h1,QW,QV,hdiv,hb1,cond_true];rfl
  ·have hc0:zII=[]:=Gs (by rw[g5,Gw,Nat.zero_mul]);subst hc0;have hb1:Nat.ble (0+ys.length) room=true:=QG (by omega);have h2:cut [] 0 (0*c)=some ([]:List Value):=by rw[Nat.zero_mul];rfl
   have h3:Nat.ble 0 (0+0*c)=true:=QG (QK _);refine WO.op (.slice (some ⟨h.n,0,none⟩) (0+ys.length) c) ((h.kill g0).push (.row ([]++z::zs) true (0-0))) rfl ?_ (k _ _ ((e0.kill (QU hb g1)).push _) ?_)
   ·simp only[U8,hx,hy,yP,hsrc,h1,QW,QV,hdiv,Gw,hb1,hcc,GS,g4,h2,h3,cond_true,Qn,Qt]
   ·rw[GC];exact fin _ (Q1 _) (zU (h.kill g0) _)
end
section
variable {α:Type}[Inhabited α]{c b:Nat}{R:U0->List Value->α->Prop}{h:U0}{v:Value}{xs:List α}
variable {P:Program}{tab:Wo}{t:U5 Value}{ds:List Deferred}{rd:Option Nat}{l:List U3}{Q:WH->U0->Prop}
end
section
variable {P:Program}{tab:Wo}{t:U5 Value}{h:U0}{ds:List Deferred}{rd:Option Nat}{l:List U3}{Q:WH->U0->Prop}
end
section
variable {P:Program}{tab:Wo}{t:U5 Value}{h h0:U0}{ds:List Deferred}{rd:Option Nat}{l:List U3}{Q:WH->U0->Prop}
end
section
variable {P:Program}{tab:Wo}{N0 m g:Nat}{cl:Bool}{t:U5 Value}{ds:List Deferred}{rd:Option Nat}{K:WF->WH->U0->Prop}
theorem V8{hS X:U0}{d n:Nat}{y:Operand}{v:Value}{zero cs:List Value}(eX:Ext (inC (zC 1 hS)) X)(hm:hS.mark<=hS.n)(k:∀ H p,Ext hS H->U1 hS H p cs->K .normal ⟨t.set d p,ds,rd⟩ H)
  (hy:∀ p,WB (t.set d p) y v:=by intro p;exact zj) (hv:v.cells=cs.toArray:=by rfl) (hz:zero.length=n:=by rfl) (hn:cs.length=n:=by rfl) (h1:zK cs=true:=by rfl) (hm0:m=hS.mark:=by rfl) (hg0:g=hS.n:=by rfl):
  WP P tab m N0 [(⟨some d,none,.alloc zero⟩,[]),(⟨none,none,.store n (.tmp d) y⟩,[])] g cl ⟨t,ds,rd⟩ (inC X) (zAv K hS):=by
 subst hm0 hg0;have hlt:hS.n<X.n:=eX.n;refine XE hm hlt ?_ (hy _) hv hz hn h1;have e6:=zG0 (o:= .row zero true 0) (o':= .row cs true 0) (k:=0) eX;have o6:=zGk (cs:=cs) (o:= .row zero true 0) eX;exact k _ _ e6 o6
theorem WP.mk{h:U0}{d:Nat}{gd:Option (Nat×Bool)}{op:Wn}{ob:Wa}{f:Nat->Value}{l:List (U3×List Nat)}{Q:WH->U0->Prop}(hm:m<=g)(hmade:yh t op=some (ob,f))(hx:WP P tab m N0 l (g+1) false ⟨t.set d (f g),ds,rd⟩ ((inC h).lay g ob) Q)(hk:Nat.beq (zH op) 3=true:=by rfl)(hw:zS t gd=true:=by rfl):
  WP P tab m N0 ((⟨some d,gd,op⟩,[])::l) g cl ⟨t,ds,rd⟩ (inC h) Q:=by
 rw[WP,QF hk];exact⟨rfl,.inl ⟨hw,hm,ob,f,hmade,hx⟩⟩
theorem WP.no{h:U0}{d j:Nat}{b want:Bool}{op:Wn}{l:List (U3×List Nat)}{Q:WH->U0->Prop}(hx:WP P tab m N0 l (g+1) cl ⟨t.set d undef,ds,rd⟩ (inC h) Q)(hk:Nat.beq (zH op) 3=true:=by rfl)(s:Wb t j (.bool b):=by exact YV)(hb:(b == want)=false:=by rfl):
  WP P tab m N0 ((⟨some d,some (j,want),op⟩,[])::l) g cl ⟨t,ds,rd⟩ (inC h) Q:=by
 rw[WP,QF hk];have s:zB t j=.bool b:=s;exact⟨rfl,.inr ⟨by simp only[zS,s,hb],hx⟩⟩
theorem zKY{j:Nat}{b want:Bool}(s:Wb t j (.bool b))(hb:(b == want)=true):zS t (some (j,want))=true:=by
 have s:zB t j=.bool b:=s;simp only[zS,s,hb]
theorem WP.inC{h:U0}{fr:WH}{x:U3×List Nat}{l:List (U3×List Nat)}{Q:WH->U0->Prop}(hx:WP P tab m N0 (x::l) g cl fr (Am.inC h) Q):WP P tab m N0 (x::l) g cl fr h Q:=by
 obtain⟨o,un⟩:=x;unfold WP at hx |-;exact hx
theorem zNl(h:U0)(g:Nat)(o:Wa)(j:Nat):((Am.inC h).lay g o).get j=if j=g then some o else h.get j:=zQ _ _ _ _
theorem XF{X:U0}{d:Nat}{gd:Option (Nat×Bool)}{op:Wn}{ob:Wa}{f:Nat->Value}{x:U3×List Nat}{l:List (U3×List Nat)}{Q:WH->U0->Prop}(hm:m<=g)(hmade:yh t op=some (ob,f))
  (k:∀ X',X'.n=X.n->(∀ j,X'.get j=if j=g then some ob else X.get j)->WP P tab m N0 (x::l) (g+1) false ⟨t.set d (f g),ds,rd⟩ (Am.inC X') Q) (hk:Nat.beq (zH op) 3=true) (hw:zS t gd=true:=by rfl):WP P tab m N0 ((⟨some d,gd,op⟩,[])::x::l) g cl ⟨t,ds,rd⟩ (Am.inC X) Q:=
 WP.mk hm hmade (WP.inC (k _ rfl fun j=>zNl X g ob j)) hk hw
theorem Vh{X:U0}{d n:Nat}{gd:Option (Nat×Bool)}{zero:List Value}{parts:List (Nat×Nat×Operand)}{vs:List (Nat×Nat×Value)}{x:U3×List Nat}{l:List (U3×List Nat)}{Q:WH->U0->Prop}(xs:List Int)(hm:m<=g)
  (k:∀ X',X'.n=X.n->(∀ j,X'.get j=if j=g then some (.row (xs.map I) true 0)else X.get j)->WP P tab m N0 (x::l) (g+1) false ⟨t.set d (.slice (some ⟨g,0,none⟩) xs.length 1),ds,rd⟩ (Am.inC X') Q)
  (hp:Wx t parts vs:=by(repeat (apply Wx.cons;(exact zP)));exact Wx.nil) (hn:xs.length=n:=by rfl) (hf:Zg (zg zero n) vs=some (xs.map I):=by rfl) (hw:zS t gd=true:=by first|rfl|exact zKY YV rfl):
  WP P tab m N0 ((⟨some d,gd,.buildSlice n 1 zero parts⟩,[])::x::l) g cl ⟨t,ds,rd⟩ (Am.inC X) Q:=by
 subst hn;have hp:zw t parts=vs:=hp;exact XF (f:=fun g=> .slice (some ⟨g,0,none⟩) xs.length 1) hm (by simp only[yh,hp,hf,QI]) k rfl hw
theorem Xi{X:U0}{d:Nat}{x:Operand}{v:Value}{cs:List Value}{o:U3×List Nat}{l:List (U3×List Nat)}{Q:WH->U0->Prop}(hm:m<=g)
  (k:∀ X',X'.n=X.n->(∀ j,X'.get j=if j=g then some (.row cs true 0)else X.get j)->WP P tab m N0 (o::l) (g+1) false ⟨t.set d (.pointer (some ⟨g,0,none⟩)),ds,rd⟩ (Am.inC X') Q) (hx:WB t x v:=by exact zj) (hv:v.cells.toList=cs:=by rfl):
  WP P tab m N0 ((⟨some d,none,.box x⟩,[])::o::l) g cl ⟨t,ds,rd⟩ (Am.inC X) Q:=by
 have hx:ev t x=v:=hx;subst hv;exact XF (f:=fun g=> .pointer (some ⟨g,0,none⟩)) hm (by simp only[yh,hx]) k rfl
end
theorem zK8{h:U0}{q off:Nat}{row cs:List Value}(hq:h.get q=some (.row row true 0))(hl:off+cs.length<=row.length)(h1:zK cs=true):zo h ⟨q,off,none⟩ cs=some (h.set q (.row (zi row off cs) true 0)):=by
 have h2:Nat.ble (off+cs.length) row.length=true:=QG hl;have h3:Nat.ble 0 off=true:=QG (QK _);simp only[zo,hq,h2,h3,h1,Qn,Qt,cond_true]
section
variable {P:Program}{tab:Wo}{t:U5 Value}{ds:List Deferred}{rd:Option Nat}
variable {m N0 g:Nat}{cl:Bool}{K:WF->WH->U0->Prop}{hS X:U0}{q off n:Nat}{row cs:List Value}{x y:Operand}{u:Value}
section
variable {α:Type}[Inhabited α]{R:U0->List Value->α->Prop}{c b i:Nat}{v:Value}{xs:List α}{a:α}
end
theorem zHE{c g off len n:Nat}(hn:n<=len):ZY c (.slice (some ⟨g,off,none⟩) len c) (some n) none none=some (.slice (some ⟨g,off+n*c,none⟩) (len-n) c):=by
 have b1:Nat.ble n len=true:=QG hn;have b2:Nat.ble len len=true:=QG (QE _);simp only[ZY,Gq,GD,b1,b2,Qn,Qt,cond_true,GS]
theorem Ug{h:U0}{Q:WH->U0->Prop}{l:List U3}{d c n:Nat}{zero:List Value}(hr:n<=100000)(k:∀ h',Ext h h'->h'.n=h.n+1->h'.get h.n=some (.row (zg zero n) true 0)->WO P tab l ⟨t.set d (.slice (some ⟨h.n,0,none⟩) n c),ds,rd⟩ h' Q)
  (hx:WB t x (I (n:Int)):=by exact zj) (hy:WB t y (I (n:Int)):=by exact zj):WO P tab (⟨some d,none,.mkSlice c zero x y⟩::l) ⟨t,ds,rd⟩ h Q:=by
 have h1:Nat.ble n room=true:=QG (by have:room=4294967296:=rfl;omega);have h2:Nat.ble n n=true:=QG (QE _);have hx:ev t x=I (n:Int):=hx;have hy:ev t y=I (n:Int):=hy;have hn:BE (I (n:Int))=some n:=rfl;exact WO.op _ _ rfl (by simp only[U8,hx,hy,hn,h1,h2,Qt,cond_true]<;>rfl) (k _ (Zj _ _) rfl (zU _ _))
end
section
variable {P:Program}{tab:Wo}{t:U5 Value}{ds:List Deferred}{rd:Option Nat}
variable {q off n:Nat}{row:List Value}{x y:Operand}
theorem Xm{h:U0}{Q:WH->U0->Prop}{l:List U3}{d c k m:Nat}{w:Value}{ys:List Value}(hq:h.get q=some (.row row true 0))(s:WW c h w k ys)(hc:0<c)(hk:min k n=m)(hl:off+m*c<=row.length)(h1:zK ys=true)
  (hX:∀ h',h'.n=h.n->(∀ j,j≠q->h'.get j=h.get j)->h'.get q=some (.row (zi row off (ys.take (m*c))) true 0)->(Wf h->Wf h')->h'.mark=h.mark->(h.mark<=q->h'.wr=h.wr)->(∀ j∈h'.wr,j=q\/j∈h.wr)->WO P tab l ⟨t.set d (I m),ds,rd⟩ h' Q)
  (hx:WB t x (.slice (some ⟨q,off,none⟩) n c):=by exact zj) (hy:WB t y w:=by exact zj):WO P tab (⟨some d,none,.copy c x y⟩::l) ⟨t,ds,rd⟩ h Q:=by
 have hx:ev t x=_:=hx;have hy:ev t y=_:=hy;have hs:=Zv s;have hlen:ys.length / c=k:=by rw[s.1];exact Nat.mul_div_cancel _ hc
 have hmin:min (ys.length / c) n=m:=by rw[hlen];exact hk
 have hml:(ys.take (m*c)).length=m*c:=by
  rw[Qj,s.1];have:m*c<=k*c:=GP _ (by omega);omega
 by_cases h0:m=0
 ·subst h0;refine WO.op (I (0:Nat)) h rfl ?_ (hX h rfl (fun _ _=>rfl) ?_ id rfl (fun _=>rfl) fun j hj=> .inr hj)
  ·simp only[U8,hx,hy,hs,hmin];rfl
  ·rw[hq];simp[zi]
 ·have hb:Nat.beq m 0=false:=by cases hb:Nat.beq m 0 with
   |false=>rfl
   |true=>exact absurd (QL hb) h0
  have h2:zK (ys.take (m*c))=true:=by
   unfold zK at *;rw[QY]at *;exact fun a ha=>h1 a (Qp ha)
  refine WO.op (I m) (h.set q (.row (zi row off (ys.take (m*c))) true 0)) rfl ?_ (hX _ rfl (fun j hj=>by rw[zt,QC hj]) (by rw[zt,QF rfl]) (fun wf j hj=> ?_) rfl (fun hm=>Y8 hm) fun j hj=>yt hj)
  ·simp only[U8,hx,hy,hs,hmin,hb,QV,GS,Qn,Qt,cond_true,zK8 hq (by rw[hml];exact hl) h2,QI]
  ·have hj:h.n<=j:=hj;by_cases e:j=q
   ·subst e;have:=wf.lt hq;omega
   ·rw[zt,QC e];exact wf j hj
theorem zN5{h h0:U0}{v w:Value}{xs ys:List Int}(o:U7 h0 h v xs)(s:WJ h w ys)(e0:Ext h0 h)(hne:ys≠[])(hr:xs.length+ys.length<=4294967296):
  ∃ v' h',yP 1 v w h=some (v',h')/\Ext h0 h'/\WT h h' v' (xs++ys)/\BP v h h':=by
 have hsrc:=Zv s;have hroom:room=4294967296:=rfl;obtain⟨z,zs,rfl⟩:∃ z zs,ys=z::zs:=by
  cases ys with
  |nil=>exact absurd rfl hne
  |cons z zs=>exact⟨z,zs,rfl⟩
 have hone:zK (I z::zs.map I)=true:=zCA (z::zs);have hlen:(I z::zs.map I).length / 1=(z::zs).length:=by simp
 rcases o with⟨rfl,rfl⟩|⟨g,g1,g2,rfl,g3⟩
 ·have h1:Nat.ble (z::zs).length room=true:=QG (by rw[hroom];simpa using hr);refine⟨.slice (some ⟨h.n,0,none⟩) (z::zs).length 1,h.push (.row ((z::zs).map I) true 0),?_,e0.push _,⟨h.n,QE _,by simp[U0.push],rfl,zU _ _⟩,⟨GU _,fun k hk _=> ?_⟩⟩
  ·simp only[yP,hsrc,Qr,hone,hlen,h1,QW,cond_true,QV];rfl
  ·rw[zT,QC (by omega)]
 ·have h1:Nat.ble (xs.length+(z::zs).length) room=true:=QG (by rw[hroom];exact hr);have h2:cut (xs.map I) 0 (xs.length*1)=some (xs.map I):=by rw[ZG (by simp)];simp[Q9]
  have hn:(h.kill g).n=h.n:=rfl;have h3:Nat.ble 0 (0+xs.length*1)=true:=QG (QK _);refine⟨.slice (some ⟨h.n,0,none⟩) (xs.length+(z::zs).length) 1,(h.kill g).push (.row (xs.map I++(z::zs).map I) true (0-0)),?_,(e0.kill g1).push _,⟨h.n,QE _,by simp[U0.push,U0.kill],by simp,?_⟩,⟨GU _,fun k hk hv=> ?_⟩⟩
  ·simp only[yP,hsrc,Qr,hone,hlen,h1,g3,h2,h3,QW,cond_true,QV];rfl
  ·have:=zU (h.kill g) (.row (xs.map I++(z::zs).map I) true (0-0));rw[hn]at this;rw[this];simp
  ·rw[zT,QC (by rw[hn];omega),yl,QC (fun e=>hv _ _ _ rfl e.symm)]
theorem Vv{h h0:U0}{Q:WH->U0->Prop}{l:List U3}{d:Nat}{v w:Value}{xs ys:List Int}(o:U7 h0 h v xs)(s:WJ h w ys)(e0:Ext h0 h)(hne:ys≠[])(hr:xs.length+ys.length<=4294967296)(k:∀ v' h',Ext h0 h'->WT h h' v' (xs++ys)->BP v h h'->WO P tab l ⟨t.set d v',ds,rd⟩ h' Q)
  (hx:WB t x v:=by exact zj) (hy:WB t y w:=by exact zj):WO P tab (⟨some d,none,.append 1 x y⟩::l) ⟨t,ds,rd⟩ h Q:=by
 have hx:ev t x=v:=hx;have hy:ev t y=w:=hy;obtain⟨v',h',a,b,c,u⟩:=zN5 o s e0 hne hr;exact WO.op v' h' rfl (by simp only[U8,hx,hy,a]) (k v' h' b c u)
theorem UA{α:Type}{c b d1 d2:Nat}{R:U0->List Value->α->Prop}{h hB:U0}{Q:WH->U0->Prop}{l:List U3}{v w:Value}{xs:List α}{cs zero:List Value}(a:α)(Dn:Nat->Prop)(o:OwnR c R b h v xs)(e0:Ext hB h)(hb:hB.n<=b)(hbn:b<=h.n)(hc0:0<c)(hl:xs.length<=100000)
  (d:Bl R h cs a Dn) (hD:∀ k,Dn k->b<=k/\k<h.n) (hv:∀ g n k,v=.slice (some ⟨g,0,none⟩) n k->¬Dn g)
  (k:∀ v' h' lit,Ext hB h'->OwnR c R b h' v' (xs++[a])->h.n<=h'.n->(∀ k,k<h.n->(∀ n k',v≠ .slice (some ⟨k,0,none⟩) n k')->h'.get k=h.get k)->(∃ n k g,v'=.slice (some ⟨g,0,none⟩) n k/\h.n<=g)->WO P tab l ⟨(t.set d1 lit).set d2 v',ds,rd⟩ h' Q)
  (hx:WB t x w:=by exact zj) (hw:w.cells=cs.toArray:=by rfl) (hc:cs.length=c:=by rfl) (h1:zK cs=true:=by rfl) (hz:zero.length=c:=by rfl) (hy:∀ u,WB (t.set d1 u) y v:=by intro u;exact zj):
  WO P tab (⟨some d1,none,.buildSlice 1 c zero [(0,c,x)]⟩::⟨some d2,none,.append c y (.tmp d1)⟩::l) ⟨t,ds,rd⟩ h Q:=by
 have hx:ev t x=w:=hx;refine WO.op (.slice (some ⟨h.n,0,none⟩) 1 c) (h.push (.row cs true 0)) rfl (by
  simp only[U8,zw,Qr,Gb,hx,zAH hw hc hz,QI];rfl) ?_
 obtain⟨v',H',q1,q2,q3,q4,q5,q6,q7,q8,q9⟩:=Yw (H:=h.push (.row cs true 0)) (gl:=h.n) o hc hc0 h1 hl hbn d hD hv (GU _) (Q1 _) (fun k hk=>by rw[zT,QC (by omega)]) (zU _ _);have hyv:ev (t.set d1 (.slice (some ⟨h.n,0,none⟩) 1 c)) y=v:=hy _;have e1:ev (t.set d1 (.slice (some ⟨h.n,0,none⟩) 1 c)) (.tmp d1)=.slice (some ⟨h.n,0,none⟩) 1 c:=by simp only[ev,ze,Q0]
 refine WO.op v' H' rfl (by simp only[U8,hyv,e1,q1]) (k v' H' _ ?_ q2 (by rw[q3];show h.n<=h.n+1+1;omega) (fun k hk hvk=> ?_) (let⟨n,k,g,e,hg⟩:=q9;⟨n,k,g,e,QU (GU _) hg⟩))
 ·have hvb:∀ k,k<hB.n->∀ n k',v≠ .slice (some ⟨k,0,none⟩) n k':=fun k hk n k' e=>by
   rcases o with⟨e2,_⟩|⟨g,_,_,g1,_,e2,_⟩
   ·rw[e2]at e;cases e
   ·rw[e2]at e;cases e;omega
  refine⟨by rw[q3];show hB.n<=h.n+1+1;have:=e0.n;omega,fun k hk=> ?_,fun w=>q8 ?_,q5.trans e0.mark,fun hm=> ?_⟩
  ·have:=e0.n;rw[q4 k (by show k<h.n+1;omega) (hvb k hk),zT,QC (by omega)];exact e0.get k hk
  ·intro k hk;have hk:h.n+1<=k:=hk;rw[zT,QC (by omega)];exact e0.wf w k (by omega)
  ·rw[q7 (by show h.mark<=b;rw[e0.mark];omega)];exact e0.wr hm
 ·rw[q4 k (by show k<h.n+1;omega) hvk,zT,QC (by omega)]
end
def blk:Value->Option Nat
 | .slice (some a) _ _=>some a.block
 | .pointer (some a)=>some a.block
 |_=>none
def WQ(v w:Value):Prop:=∀ b,blk v=some b->blk w≠some b
theorem WQ.symm{v w:Value}(o:WQ v w):WQ w v:=fun b h k=>o b k h
def UpB(v:Value)(h h':U0):Prop:=h.n<=h'.n/\∀ g,g<h.n->blk v≠some g->h'.get g=h.get g
theorem BP.upB{v:Value}{h h':U0}(u:BP v h h'):UpB v h h':=⟨u.1,fun g hg hv=>u.2 g hg fun a n c e he=>hv (by rw[e,<-he];rfl)⟩
theorem Wg.upB{v:Value}{h h':U0}(u:Wg v h h'):UpB v h h':=⟨u.1,fun g hg hv=>u.2 g hg fun e=>hv (by rw[e];rfl)⟩
theorem zNk{v:Value}{h h':U0}(hn:h.n<=h'.n)(u:∀ k,k<h.n->(∀ n k',v≠ .slice (some ⟨k,0,none⟩) n k')->h'.get k=h.get k):UpB v h h':=⟨hn,fun g hg hv=>u g hg fun n k e=>hv (by rw[e];rfl)⟩
def zA6(h:U0)(v:Value):Prop:=∀ b,blk v=some b->h.n<=b
def zGQ(h:U0)(v:Value):Prop:=∀ b,blk v=some b->b<h.n
theorem VJ{h:U0}{v w:Value}(a:zA6 h v)(b:zGQ h w):WQ v w:=fun k hk hw=>by have:=a k hk;have:=b k hw;omega
section
variable {hB h h':U0}{v w p:Value}{l:List Int}{cs:List Value}
theorem U7.within(o:U7 hB h w l):zGQ h w:=fun b hb=>by
 rcases o with⟨rfl,_⟩|⟨g,_,g2,rfl,_⟩
 ·cases hb
 ·cases hb;exact g2
theorem U7.since'(o:U7 hB h w l):zA6 hB w:=fun b hb=>by
 rcases o with⟨rfl,_⟩|⟨g,g1,_,rfl,_⟩
 ·cases hb
 ·cases hb;exact g1
theorem U1.within(o:U1 hB h p cs):zGQ h p:=fun b hb=>by obtain⟨g,_,g2,rfl,_⟩:=o;cases hb;exact g2
theorem U1.since'(o:U1 hB h p cs):zA6 hB p:=fun b hb=>by obtain⟨g,g1,_,rfl,_⟩:=o;cases hb;exact g1
theorem U7.upB(o:U7 hB h w l)(u:UpB v h h')(d:WQ v w):U7 hB h' w l:=by
 rcases o with o|⟨g,g1,g2,rfl,g3⟩
 ·exact .inl o
 ·exact .inr ⟨g,g1,QM g2 u.1,rfl,(u.2 g g2 fun e=>d _ e rfl).trans g3⟩
theorem U1.upB(o:U1 hB h p cs)(u:UpB v h h')(d:WQ v p):U1 hB h' p cs:=by
 obtain⟨g,g1,g2,rfl,g3⟩:=o;exact⟨g,g1,QM g2 u.1,rfl,(u.2 g g2 fun e=>d _ e rfl).trans g3⟩
section
variable {α:Type}{c b:Nat}{R:U0->List Value->α->Prop}{xs:List α}
theorem OwnR.within(o:OwnR c R b h w xs):zGQ h w:=fun b hb=>by
 rcases o with⟨rfl,_⟩|⟨g,_,_,_,g2,rfl,_⟩
 ·cases hb
 ·cases hb;exact g2
theorem OwnR.upB(hi:∀ h h' cs a,R h cs a->R h' cs a)(o:OwnR c R b h w xs)(u:UpB v h h')(d:WQ v w):OwnR c R b h' w xs:=by
 rcases o with o|⟨g,cells,D,g1,g2,rfl,g3,g4,_,_,g7⟩
 ·exact .inl o
 ·exact .inr ⟨g,cells,fun _=>False,g1,QM g2 u.1,rfl,(u.2 g g2 fun e=>d _ e rfl).trans g3,g4,id,fun _ h=>h.elim,fun i a ha hx _ _=>hi _ _ _ _ (g7 i a ha).self⟩
end
theorem Ym{P:Program}{tab:Wo}{t:U5 Value}{m N0 n g j:Nat}{un:List Nat}{d:Option Nat}{gd:Option (Nat×Bool)}{agg:Bool}{x:Operand}{p:Value}{cs:List Value}{h0 hs h:U0}{l:List (U3×List Nat)}{fr:WH}{Q:WH->U0->Prop}(o:U1 h0 hs p cs)(hN:hs.n<=N0)(hx:WP P tab m N0 l g true fr (inC h) Q)
  (hr:WB t x (yG p j):=by exact zj):uK2 P tab m N0 un t ⟨d,gd,.load agg n x⟩ (inC h) l g true Q fr (inC h):=by
 refine zDB (fun k hk=> ?_) hx;obtain⟨q,q1,q2,rfl,q3⟩:=o;have hr:ev t x=_:=hr;unfold yG at hr;cases hw:zS t gd with
 |false=>simp only[zh,hw,QV]at hk;cases hk
 |true=>
  simp only[zh,hw,cond_true,hr,QA]at hk;omega
theorem zMZ{P:Program}{tab:Wo}{t:U5 Value}{m N0 n g:Nat}{un:List Nat}{d:Option Nat}{gd:Option (Nat×Bool)}{agg:Bool}{x:Operand}{p:Value}{cs:List Value}{h0 hs h:U0}{l:List (U3×List Nat)}{fr:WH}{Q:WH->U0->Prop}(o:U1 h0 hs p cs)(hN:hs.n<=N0)(hx:WP P tab m N0 l g true fr (inC h) Q)
  (hr:WB t x p:=by exact zj):uK2 P tab m N0 un t ⟨d,gd,.load agg n x⟩ (inC h) l g true Q fr (inC h):=
 Ym (j:=0) o hN hx (by rw[<-o.at0];exact hr)
theorem Uc{P:Program}{tab:Wo}{t:U5 Value}{ds:List Deferred}{rd:Option Nat}{Q:WH->U0->Prop}{l:List U3}{d c:Nat}{zero cs:List Value}{x:Operand}{w:Value}
  (k:∀ h',Ext h h'->h'.n=h.n+1->WW c h' (.slice (some ⟨h.n,0,none⟩) 1 c) 1 cs->h'.get h.n=some (.row cs true 0)->WO P tab l ⟨t.set d (.slice (some ⟨h.n,0,none⟩) 1 c),ds,rd⟩ h' Q)
  (hx:WB t x w:=by exact zj) (hw:w.cells=cs.toArray:=by rfl) (hc:cs.length=c:=by rfl) (hz:zero.length=c:=by rfl):WO P tab (⟨some d,none,.buildSlice 1 c zero [(0,c,x)]⟩::l) ⟨t,ds,rd⟩ h Q:=by
 have hx:ev t x=w:=hx;refine WO.op (.slice (some ⟨h.n,0,none⟩) 1 c) (h.push (.row cs true 0)) rfl (by
  simp only[U8,zw,Qr,Gb,hx,zAH hw hc hz,QI];rfl) (k _ (Zj _ _) rfl (WW.own (Q1 _) (zU _ _) (by rw[hc,Nat.one_mul])) (zU _ _))
end
section
variable {P:Program}{tab:Wo}{t:U5 Value}{h:U0}{ds:List Deferred}{rd:Option Nat}{l:List U3}{Q:WH->U0->Prop}
theorem Xt{α:Type}{c b d1 d2 d0 d3 s j m N0:Nat}{cl:Bool}{R:U0->List Value->α->Prop}{hB hS X:U0}{p v w:Value}{xs:List α}{cs zero cells:List Value}(a:α)(Dn:Nat->Prop){x y:Operand}{K:WF->WH->U0->Prop}
  (eX:Ext (Am.inC (zC 1 hS)) X) (o:OwnR c R b hS v xs) (e0:Ext hB hS) (hm:hS.mark<=hB.n) (hb:hB.n<=b) (hbn:b<=hS.n) (hc0:0<c) (hl:xs.length<=100000) (op:U1 hB hS p cells) (hpb:∀ g,p=.pointer (some ⟨g,0,none⟩)->g<b)
  (d:Bl R X cs a Dn) (hD:∀ k,Dn k->b<=k/\k<X.n) (hv:∀ g n k,v=.slice (some ⟨g,0,none⟩) n k->¬Dn g) (hDs:¬Dn hS.n) (hj:j<cells.length) (hcl:zK cells=true)
  (k:∀ H v' t',zEU [d1,d2,d0,d3] t t'->Ext hB H->U1 hB H p (cells.set j v')->zK (cells.set j v')=true->OwnR c R b H v' (xs++[a])->zA6 hS v'->(∀ k,k<hS.n->p≠ .pointer (some ⟨k,0,none⟩)->(∀ n k',v≠ .slice (some ⟨k,0,none⟩) n k')->H.get k=hS.get k)->hS.n<=H.n->K .normal ⟨t',ds,rd⟩ H)
  (hx:WB t x w:=by exact zj) (hw:w.cells=cs.toArray:=by rfl) (hc:cs.length=c:=by rfl) (h1:zK cs=true:=by rfl) (hz:zero.length=c:=by rfl) (hy:∀ u,WB (t.set d1 u) y v:=by intro u;exact zj) (hs:∀ u u',WB ((t.set d1 u).set d2 u') (.tmp s) p:=by intro u u';exact zj) (h32:Nat.beq d2 d3=false:=by rfl) (h20:Nat.beq d2 d0=false:=by rfl) (hm0:m=hS.mark:=by rfl):
  WP P tab m N0 [(⟨some d1,none,.buildSlice 1 c zero [(0,c,x)]⟩,[]),(⟨some d2,none,.append c y (.tmp d1)⟩,[]),(⟨some d0,none,.nilCheck (.tmp s)⟩,[]),(⟨some d3,none,.fld j (.tmp d0)⟩,[]),(⟨none,none,.store 1 (.tmp d3) (.tmp d2)⟩,[])] hS.n cl ⟨t,ds,rd⟩ (Am.inC X) (zAv K hS):=by
 subst hm0;have hx:ev t x=w:=hx;have hnX:hS.n+1<=X.n:=eX.n;obtain⟨gp,gp1,gp2,hp,gp3⟩:=op;have hgpb:=hpb gp hp;rw[WP,QF (show Nat.beq (zH (Wn.buildSlice 1 c zero [(0,c,x)])) 3=true from rfl)];refine⟨rfl,.inl ⟨rfl,by have:=e0.n;omega,.row cs true 0,_,by simp only[yh,zw,Qr,Gb,hx,zAH hw hc hz,QI];rfl,?_⟩⟩;generalize hH1:(Am.inC (Am.inC X)).lay hS.n (.row cs true 0)=H1;have n1:H1.n=X.n:=by rw[<-hH1];rfl
 have get1:∀ c',H1.get c'=if c'=hS.n then some (.row cs true 0)else X.get c':=fun c'=>by rw[<-hH1];exact zQ _ _ _ _
 have getX:∀ k,k<hS.n->X.get k=hS.get k:=fun k hk=>eX.get k (by show k<hS.n+1;omega);have oX:OwnR c R b X v xs:=o.upd (fun k _ hk=>getX k hk) (by omega);have oX1:OwnR c R b (Am.inC H1) v xs:=by
  rcases o with o|⟨g,cl',D,g1,g2,g3,g4,g5,g6,g7,g8⟩
  ·exact .inl o
  ·refine .inr ⟨g,cl',D,g1,by show g<H1.n;omega,g3,?_,g5,g6,fun k hd=>⟨(g7 k hd).1,by have:=(g7 k hd).2;show k<H1.n;omega⟩,fun i a ha=>(g8 i a ha).mono (fun _ h=>h) (fun k o hd e=> ?_) (by show hS.n<=H1.n;omega)⟩
   ·show H1.get g=_;rw[get1,QC (by omega),getX g g2];exact g4
   ·have:=(g7 k hd).2;show H1.get k=_;rw[get1,QC (by omega),getX k this];exact e
 have d1':Bl R (Am.inC H1) cs a Dn:=d.mono (fun _ h=>h) (fun k o hd e=>by
  show H1.get k=_;rw[get1,QC (fun e2:k=hS.n=>by subst e2;exact hDs hd)];exact e) (by show X.n<=H1.n;omega)
 obtain⟨v',H2,q1,q2,q3,q4,q5,q6,q7,q8,n',k',g',q9,q10⟩:=Yw (H:=Am.inC H1) (gl:=hS.n) oX1 hc hc0 h1 hl (by show b<=H1.n;omega) d1' (fun k hd=>⟨(hD k hd).1,by have:=(hD k hd).2;show k<H1.n;omega⟩) hv (QE _) (by show hS.n<H1.n;omega) (fun _ _=>rfl) (by show H1.get hS.n=_;rw[get1,QF rfl]);rw[WP,QC (show ¬Nat.beq (zH (Wn.append c y (.tmp d1))) 3=true from Bool.noConfusion)];have hyv:ev (t.set d1 (.slice (some ⟨hS.n,0,none⟩) 1 c)) y=v:=hy _;have e1:ev (t.set d1 (.slice (some ⟨hS.n,0,none⟩) 1 c)) (.tmp d1)=.slice (some ⟨hS.n,0,none⟩) 1 c:=by simp only[ev,ze,Q0]
 refine WO.op v' H2 rfl (by simp only[U8,hyv,e1,q1]) ?_;refine WO.nil ⟨⟨fun c' hc'=> ?_,by show H1.n<=H2.n;rw[q3];exact GU _,.inl rfl⟩,?_⟩
 ·rcases q6 c' hc' with h|h
  ·cases h
  ·omega
 have hvp:∀ n k,v≠ .slice (some ⟨gp,0,none⟩) n k:=fun n k e=>by
  rcases o with⟨e2,_⟩|⟨g,_,_,g1,_,e2,_⟩
  ·rw[e2]at e;cases e
  ·rw[e2]at e;cases e;omega
 have own2:H2.get gp=some (.row cells true 0):=by
  rw[q4 gp (by show gp<H1.n;omega) hvp];show H1.get gp=_;rw[get1,QC (by omega),getX gp gp2];exact gp3
 rw[WP,QC (show ¬Nat.beq (zH (Wn.nilCheck (.tmp s))) 3=true from Bool.noConfusion)];have hs2:ev ((t.set d1 (.slice (some ⟨hS.n,0,none⟩) 1 c)).set d2 v') (.tmp s)=p:=hs _ _;refine WO.op p (Am.inC H2) rfl (by simp only[U8,hs2,hp];rfl) ?_;refine WO.nil ⟨⟨fun c' hc'=>(by cases hc'),QE _,.inl rfl⟩,?_⟩;rw[WP,QC (show ¬Nat.beq (zH (Wn.fld j (.tmp d0))) 3=true from Bool.noConfusion)];have hs3:∀ tt:U5 Value,ev (tt.set d0 p) (.tmp d0)=p:=fun tt=>by simp only[ev,ze,Q0]
 refine WO.op (.pointer (some ⟨gp,j,none⟩)) (Am.inC H2) rfl (by simp only[val,U8,hs3];simp only[hp,GC,Qn,cond_true];rfl) ?_;refine WO.nil ⟨⟨fun c' hc'=>(by cases hc'),QE _,.inl rfl⟩,?_⟩;rw[WP,QC (show ¬Nat.beq (zH (Wn.store 1 (.tmp d3) (.tmp d2))) 3=true from Bool.noConfusion)];have hvone:zK [v']=true:=by rw[q9];rfl
 have hvcells:v'.cells=#[v']:=by rw[q9];rfl
 have hst:zo (Am.inC (Am.inC H2)) ⟨gp,j,none⟩ [v']=some ((Am.inC (Am.inC H2)).set gp (.row (cells.set j v') true 0)):=by
  have hg':(Am.inC (Am.inC H2)).get gp=some (.row cells true 0):=own2;have h1:Nat.ble (j+1) cells.length=true:=QG hj;have h0:Nat.ble 0 j=true:=QG (QK _);simp only[zo,hg',QX,h1,h0,hvone,Qt,zBX hj];rfl
 have hd32:¬d2=d3:=fun e=>by subst e;simp at h32
 have hd20:¬d2=d0:=fun e=>by subst e;simp at h20
 refine VU undef ((Am.inC (Am.inC H2)).set gp (.row (cells.set j v') true 0)) rfl (by
  have a1:∀ tt:U5 Value,ev (tt.set d3 (.pointer (some ⟨gp,j,none⟩))) (.tmp d3)=.pointer (some ⟨gp,j,none⟩):=fun tt=>by
   simp only[ev,ze,Q0]
  have a2:∀ w,ev ((((t.set d1 (.slice (some ⟨hS.n,0,none⟩) 1 c)).set d2 w).set d0 p).set d3 (.pointer (some ⟨gp,j,none⟩))) (.tmp d2)=w:=fun w=>by
   simp only[ev,ze,QC hd32,QC hd20,Q0]
  simp only[val,U8,a1,a2,hvcells,Gj,QX,GS,hst,QI,cond_true]) ?_
 refine WO.nil ⟨⟨fun c' hc'=> ?_,QE _,.inl rfl⟩,?_⟩
 ·have hc2:c'∈(Am.inC (Am.inC H2)).log gp:=hc';rcases yt hc2 with rfl|h
  ·omega
  ·cases h
 generalize hH:outC hS ((Am.inC (Am.inC H2)).set gp (.row (cells.set j v') true 0))=H;have nH:H.n=X.n+1:=by rw[<-hH];show H2.n=_;rw[q3];show H1.n+1=_;omega
 have getH:∀ c',H.get c'=if c'=gp then some (.row (cells.set j v') true 0)else H2.get c':=fun c'=>by rw[<-hH];exact zQ _ _ _ _
 have keepH:∀ c',c'<hS.n->c'≠gp->(∀ n k,v≠ .slice (some ⟨c',0,none⟩) n k)->H.get c'=hS.get c':=fun c' h1 h2 h3=>by
  rw[getH,QC h2,q4 c' (by show c'<H1.n;omega) h3];show H1.get c'=_;rw[get1,QC (by omega),getX c' h1]
 have hvB:∀ k,k<hB.n->∀ n k',v≠ .slice (some ⟨k,0,none⟩) n k':=fun k hk n k' e=>by
  rcases o with⟨e2,_⟩|⟨g,_,_,g1,_,e2,_⟩
  ·rw[e2]at e;cases e
  ·rw[e2]at e;cases e;omega
 have oneH:zK (cells.set j v')=true:=by
  unfold zK at *;rw[QY]at *;intro z hz;rcases List.mem_or_eq_of_mem_set hz with h|h
  ·exact hcl z h
  ·subst h;rw[q9]
 show K .normal _ _;rw[hH];refine k H v' _ (fun i hi=> ?_) ?_ ⟨gp,gp1,by rw[nH];omega,hp,by rw[getH,QF rfl]⟩ oneH (q2.upd (fun k hk1 hk2=>by rw[getH,QC (by omega)]) (by rw[nH,q3];show H1.n+1<=_;omega)) (fun c hc=>by rw[q9]at hc;cases hc;have:H1.n<=g':=q10;show hS.n<=g';omega) (fun c' h1 h2 h3=>keepH c' h1 (fun e=>h2 (by rw[hp,e])) h3) (by rw[nH];omega)
 ·have hc:=ZN hi;rw[List.contains_eq_mem,Gf]at hc;have b1:¬i=d1:=fun e=>hc (by simp[e]);have b2:¬i=d2:=fun e=>hc (by simp[e]);have b3:¬i=d3:=fun e=>hc (by simp[e]);have b0:¬i=d0:=fun e=>hc (by simp[e]);simp only[val,ze,QC b1,QC b2,QC b3,QC b0]
 ·have hn0:=e0.n;refine⟨by rw[nH];omega,fun k hk=>(keepH k (by omega) (by omega) (hvB k hk)).trans (e0.get k hk),fun w k hk=> ?_,?_,fun hmk=> ?_⟩
  ·rw[nH]at hk;rw[getH,QC (by omega)];refine q8 (fun k2 hk2=> ?_) k (by rw[q3];show H1.n+1<=k;omega);have hk2:H1.n<=k2:=hk2;show H1.get k2=_;rw[get1,QC (by omega)];exact eX.wf (fun k3 hk3=>e0.wf w k3 (by have:hS.n+1<=k3:=hk3;omega)) k2 (by omega)
  ·rw[<-hH];exact e0.mark
  ·rw[<-hH];exact e0.wr hmk
def RI(_:U0)(cs:List Value)(a:Int):Prop:=cs=[I a]
theorem zHx{hB h:U0}{b:Nat}{v:Value}{l:List Int}(o:OwnR 1 RI b h v l)(hb:hB.n<=b):U7 hB h v l:=by
 rcases o with⟨rfl,rfl⟩|⟨g,cells,D,g1,g2,rfl,g4,g5,_,_,g8⟩
 ·exact .inl ⟨rfl,rfl⟩
 ·refine .inr ⟨g,QU hb g1,g2,rfl,?_⟩;rw[g4];congr 2;refine JB (by simp[g5]) fun i h1 h2=> ?_;have h3:i<l.length:=by simpa using h2
  have:=(g8 i l[i] (QB h3)).self;unfold RI at this;have h4:=congrArg (fun q=>q[0]?) this;simpa [GL,h1]using h4
end
section
variable {P:Program}{tab:Wo}
def ok7(m N0:Nat)(Bad:Nat->Prop)(un:List Nat)(cl:Bool)(t:U5 Value)(o:U3)(h h':U0):Prop:=
 (∀ k∈h'.wr,m<=k)/\h.n<=h'.n/\(un=[]\/(cl=true/\h'.wr=[]/\∀ g,zh t o=some g->¬Bad g/\g<N0))
end
section
variable {P:Program}{tab:Wo}{m N0:Nat}{Bad:Nat->Prop}{l:List (U3×List Nat)}{o:U3}{un:List Nat}{g:Nat}{cl:Bool}{fr:WH}{h h0 h':U0}{Q:WH->U0->Prop}{K:WF->WH->U0->Prop}{t:U5 Value}
end
section
variable {P:Program}{tab:Wo}{t:U5 Value}{ds:List Deferred}{rd:Option Nat}
end
section
variable {P:Program}{tab:Wo}{t:U5 Value}{ds:List Deferred}{rd:Option Nat}{m g:Nat}{Bad:Nat->Prop}{un:List Nat}{l:List (U3×List Nat)}{Q:WH->U0->Prop}{K:WF->WH->U0->Prop}
section
variable {hS X:U0}{q off n:Nat}{row cs:List Value}{x y:Operand}{u:Value}
end
end
end Go.Am
