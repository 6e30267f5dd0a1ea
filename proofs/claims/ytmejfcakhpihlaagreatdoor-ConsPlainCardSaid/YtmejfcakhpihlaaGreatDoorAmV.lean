/- A part of the machine and of its soundness; proves no statement. -/
import Derived.Test.YtmejfcakhpihlaaGreatDoorAmU
set_option linter.unusedVariables false
set_option linter.unusedSimpArgs false
namespace Go.Am
section
variable {P:Program}{tab:Wi}
def BT(P:Program)(tab:Wi)(m:Nat)(Bad:Nat->Prop):List (U4×List Nat)->Nat->WF->U2->(WF->U2->Prop)->Prop
 |[],_,fr,h,Q=>Q fr h
 |(o,un)::l,g,fr,h,Q=>
  if Nat.beq (zE o.op) 3=true then
   un=[]/\zP fr.tm o.guard=true/\m<=g/\zZ fr.tm o=none/\∃ ob f,ye fr.tm o.op=some (ob,f)/\BT P tab m Bad l (g+1) (val o.dst fr (f g)) ((inC h).lay g ob) Q
  else WO P tab [o] fr (inC h) fun fr' h'=>(∀ g∈h'.wr,m<=g)/\(un=[]\/(zZ fr.tm o=none/\∀ g∈h'.wr,Bad g))/\(∀ g,zZ fr.tm o=some g->¬Bad g)/\BT P tab m Bad l g fr' h' Q
theorem zLb{Bad:Nat->Prop}{un:List Nat}{t:U7 Value}{o:U4}{h':U2}(hk:un=[]\/(zZ t o=none/\∀ g∈h'.wr,Bad g))(ws:List (Nat×Nat))(bs:List (Nat×Nat)){rs:List (Nat×Nat×Option (Nat×Nat×List Value))}(hr:∀ e∈rs,¬Bad e.2.1):
  ((match zZ t o with
   |some g=>(ws.all fun x=> !(Nat.beq g x.2&&un.contains x.1))&&bs.all fun x=> !un.contains x.1||Nat.ble (g+1) x.2
   |none=>true)&&rs.all fun x=> !(un.contains x.1&&h'.wr.contains x.2.1)||zBo h' x.2.1 x.2.2)=true:=by
 rcases hk with rfl|⟨h1,h2⟩
 ·exact zJB o ws rs bs t h'
 ·rw[h1];simp only[Qd];rw[QX];intro x hx;have:h'.wr.contains x.2.1=false:=by
   cases hc:h'.wr.contains x.2.1 with
   |false=>rfl
   |true=>exact absurd (h2 _ (List.contains_iff_mem.1 hc)) (hr x hx)
  rw[this,Ql];rfl
theorem BT.run{m:Nat}{Bad:Nat->Prop}:∀ {ops:List (U4×List Nat)} {g:Nat} {fr:WF} {h:U2} {Q:WF->U2->Prop},BT P tab m Bad ops g fr h Q->
  ∃ fr' h',Q fr' h'/\∀ (i:Nat) (ws:List (Nat×Nat)) (rs:List (Nat×Nat×Option (Nat×Nat×List Value))) (bs:List (Nat×Nat)),(∀ e∈ws,m<=e.2)->(∀ e∈rs,¬Bad e.2.1)->
   ∃ ws',(∀ e∈ws',m<=e.2)/\Ev fun n=>zz P (Wy P tab n) ops i g ws rs bs fr h=some (fr',h',ws'):=by
 intro ops;induction ops with
 |nil=>intro g fr h Q hx;exact⟨fr,h,hx,fun i ws rs bs hw _=>⟨ws,hw,Ev.all fun n=>rfl⟩⟩
 |cons x ops ihl=>
  intro g fr h Q hx;obtain⟨o,un⟩:=x;simp only[BT]at hx;have go:∀ {g':Nat} {fr1:WF} {h1:U2},(g'=bif Nat.beq (zE o.op) 3 then g+1 else g)->(Ev fun n=>z0 P (Wy P tab n) g o fr (inC h)=some (fr1,h1))->(∀ x∈h1.wr,m<=x)->(un=[]\/(zZ fr.tm o=none/\∀ g∈h1.wr,Bad g))->(∀ g,zZ fr.tm o=some g->¬Bad g)->BT P tab m Bad ops g' fr1 h1 Q->
    ∃ fr' h',Q fr' h'/\∀ (i:Nat) (ws:List (Nat×Nat)) (rs:List (Nat×Nat×Option (Nat×Nat×List Value))) (bs:List (Nat×Nat)),(∀ e∈ws,m<=e.2)->(∀ e∈rs,¬Bad e.2.1)->
     ∃ ws',(∀ e∈ws',m<=e.2)/\Ev fun n=>zz P (Wy P tab n) ((o,un)::ops) i g ws rs bs fr h=some (fr',h',ws'):=by
   intro g' fr1 h1 hg ev hw hk hb hx;obtain⟨fr',h',q,run⟩:=ihl hx;refine⟨fr',h',q,fun i ws rs bs hws hrs=> ?_⟩;obtain⟨ws',w1,w2⟩:=run (i+1) (h1.wr.map (fun g=>(i,g))++ws) (match zZ fr.tm o with
     |some g=>(i,g,Yg fr.tm h o.op)::rs
     |none=>rs) ((i,h.n)::bs) (fun e he=>by
      rcases Qi.1 he with he|he
      ·obtain⟨y,hy,rfl⟩:=Qt.1 he;exact hw y hy
      ·exact hws e he) (fun e he=>by
      cases hr:zZ fr.tm o with
      |none=>rw[hr]at he;exact hrs e he
      |some k=>
       rw[hr]at he;rcases GL.1 he with rfl|he
       ·exact hb k hr
       ·exact hrs e he)
   refine⟨ws',w1,(ev.and w2).mono fun n ⟨e1,e2⟩=> ?_⟩;simp only[zz];have e1':z0 P (Wy P tab n) g o fr {h with mark:=h.n,wr:=[]}=some (fr1,h1):=e1;rw[e1'];have hok:=zLb hk ws bs hrs;exact(congrArg (fun b:Bool=>bif b then zz P (Wy P tab n) ops (i+1) (bif Nat.beq (zE o.op) 3 then g+1 else g) (h1.wr.map (fun g=>(i,g))++ws) (match zZ fr.tm o with
     |some g=>(i,g,Yg fr.tm h o.op)::rs
     |none=>rs) ((i,h.n)::bs) fr1 h1 else none) hok).trans (by rw[cond_true,<-hg];exact e2)
  by_cases hk:Nat.beq (zE o.op) 3=true
  ·rw[QI hk]at hx;obtain⟨rfl,hw,hm,hr,ob,f,hmade,hx⟩:=hx;refine go (g':=g+1) (by rw[hk];rfl) (Ev.all fun n=> ?_) (h1:=(inC h).lay g ob) (fun x hx=> ?_) (.inl rfl) (fun k hk2=>by rw[hr]at hk2;cases hk2) hx
   ·unfold z0;simp only[hk,hw,hmade,cond_true]
   ·rcases ZB hx with rfl|hx
    ·exact hm
    ·cases hx
  ·rw[QC hk]at hx;have hk':Nat.beq (zE o.op) 3=false:=by cases hb:Nat.beq (zE o.op) 3 with
    |false=>rfl
    |true=>exact absurd hb hk
   unfold WO at hx;obtain⟨fr1,h1,⟨q1,q2,q3,q4⟩,ev⟩:=hx;refine go (g':=g) (by rw[hk'];rfl) (ev.mono fun n e=> ?_) q1 q2 q3 q4;unfold z0;simp only[hk',QR];simp only[yV]at e;cases ha:yI P (Wy P tab n) o fr (inC h)with
   |none=>rw[ha]at e;cases e
   |some p=>rw[ha]at e;exact e
theorem Vr{ops:List (U4×List Nat)}{fr:WF}{h:U2}{K:WB->WF->U2->Prop}(Bad:Nat->Prop)(k:Nat)(hk:zC8 ops=k)(hne:ops.isEmpty=false)
  (hx:BT P tab h.mark Bad ops h.n fr (inC (zC k h)) (Bq K h)):WX P tab (.regionC ops) fr h K:=by
 subst hk;have hx':BT P tab h.mark Bad ops h.n fr (zC (zC8 ops) h) (Bq K h):=by
  cases ops with
  |nil=>cases hne
  |cons x ops=>exact hx
 obtain⟨fr',h',q,run⟩:=BT.run (h:=zC (zC8 ops) h) hx';obtain⟨ws',w1,w2⟩:=run 0 [] [] [] (fun e he=>by cases he) (fun e he=>by cases he);unfold WX;refine⟨.normal,fr',_,q,Ev.up (w2.mono fun n e=> ?_)⟩;rw[zq];simp only[ze,YB];have e':zz P (Wy P tab n) ops 0 h.n [] [] [] fr {h with n:=h.n+(ops.filter fun x=>Nat.beq (zE x.1.op) 3).length}=some (fr',h',ws'):=e;rw[e'];have:((ws'.map (·.2)).filter fun g=> !Nat.ble h.mark g)=[]:=by
  rw[List.filter_eq_nil_iff];intro g hg;obtain⟨y,hy,rfl⟩:=Qt.1 hg;have:Nat.ble h.mark y.2=true:=QH (w1 y hy);simp[this]
 simp[this,yu]
end
section
variable {P:Program}{tab:Wi}{m:Nat}{Bad:Nat->Prop}{l:List (U4×List Nat)}{o:U4}{un:List Nat}{g:Nat}{fr:WF}{h h0 h':U2}{Q:WF->U2->Prop}{K:WB->WF->U2->Prop}{t:U7 Value}
def uK6(P:Program)(tab:Wi)(m:Nat)(Bad:Nat->Prop)(un:List Nat)(t:U7 Value)(o:U4)(l:List (U4×List Nat))(g:Nat)(Q:WF->U2->Prop):WF->U2->Prop:=
 fun fr' h'=>(∀ g∈h'.wr,m<=g)/\(un=[]\/(zZ t o=none/\∀ g∈h'.wr,Bad g))/\(∀ g,zZ t o=some g->¬Bad g)/\BT P tab m Bad l g fr' h' Q
theorem BT.q(hk:Nat.beq (zE o.op) 3=false)(hx:WO P tab [o] fr (inC h) (uK6 P tab m Bad un fr.tm o l g Q)):BT P tab m Bad ((o,un)::l) g fr (inC h) Q:=by
 simp only[BT];rw[QC (by rw[hk];exact Bool.noConfusion)];exact hx
theorem zVj(hr:zZ t o=none)(hx:BT P tab m Bad l g fr (inC h) Q):uK6 P tab m Bad [] t o l g Q fr (inC h):=
 ⟨fun g hg=>(by cases hg),.inl rfl,fun g hg=>(by rw[hr]at hg;cases hg),hx⟩
theorem zOv{d:Option Nat}{agg:Bool}{n k:Nat}{x:Operand}{a:Addr}(hr:WI t x (yC (.pointer (some a)) k))(hb:¬Bad a.block)(hx:BT P tab m Bad l g fr (inC h) Q):uK6 P tab m Bad [] t ⟨d,none,.load agg n x⟩ l g Q fr (inC h):=by
 refine⟨fun g hg=>(by cases hg),.inl rfl,fun g hg=> ?_,hx⟩;unfold WI yC at hr;simp only[zZ,zP,cond_true,hr,QA]at hg;rw[<-hg];exact hb
theorem BT.mk{d:Nat}{op:Wn}{ob:Wd}{f:Nat->Value}(hk:Nat.beq (zE op) 3=true)(hm:m<=g)(hmade:ye t op=some (ob,f)){ds:List Deferred}{rd:Option Nat}(hx:BT P tab m Bad l (g+1) ⟨t.set d (f g),ds,rd⟩ ((inC h).lay g ob) Q):BT P tab m Bad ((⟨some d,none,op⟩,[])::l) g ⟨t,ds,rd⟩ (inC h) Q:=by
 simp only[BT];rw[QI hk];refine⟨by trivial,rfl,hm,?_,ob,f,hmade,hx⟩;cases op<;>first|rfl|cases hk
end
structure AR(hB h:U2)(p:Value)(cells:List Value)(n:Nat)(A:Nat->List Int):Prop where
 own:U6 hB h p cells
 len:cells.length=n
 all:∀ j,j<n->WJ hB h (cells.getD j undef) (A j)
 apart:∀ i j g a b c d,i<n->j<n->i≠j->cells.getD i undef=.slice (some ⟨g,0,none⟩) a b->cells.getD j undef=.slice (some ⟨g,0,none⟩) c d->False
theorem AR.ext{hB h h':U2}{p:Value}{cells:List Value}{n:Nat}{A:Nat->List Int}(r:AR hB h p cells n A)(e:U8 h h'):AR hB h' p cells n A:=
 ⟨r.own.ext e,r.len,fun j hj=>(r.all j hj).ext e,r.apart⟩
theorem AR.off{hB h:U2}{p:Value}{cells:List Value}{n:Nat}{A:Nat->List Int}(r:AR hB h p cells n A){j:Nat}(hj:j<n){g gp a b:Nat}(hp:p=.pointer (some ⟨gp,0,none⟩))(hv:cells.getD j undef=.slice (some ⟨g,0,none⟩) a b):g≠gp:=by
 intro e;subst e;obtain⟨q,_,_,hq,hg⟩:=r.own;rw[hp]at hq;cases hq;rcases r.all j hj with⟨h1,_⟩|⟨q2,_,_,h2,h3⟩
 ·rw[h1]at hv;cases hv
 ·rw[h2]at hv;cases hv;rw[hg]at h3;have he:cells=(A j).map I:=by simpa using h3
  have:=congrArg (fun l=>l.getD j undef) he;simp only[h2]at this;have hlen:j<((A j).map I).length:=by rw[<-he,r.len];exact hj
  rw[QK,QB hlen]at this;simp at this
section
variable {P:Program}{tab:Wi}{t:U7 Value}{ds:List Deferred}{rd:Option Nat}
theorem zGE{l:List Value}{i j:Nat}{v d:Value}(hi:i<l.length):(l.set i v).getD j d=if j=i then v else l.getD j d:=by
 simp only[QK,List.getElem?_set];by_cases h:i=j
 ·subst h;simp[hi]
 ·rw[QC h,QC (fun e=>h e.symm)]
theorem zF9{l:List Value}{i:Nat}{v:Value}(hi:i<l.length):zd l i [v]=l.set i v:=by
 unfold zd;rw[Qa,List.set_eq_take_append_cons_drop,QI hi];simp
theorem zOd{cells:List Value}{i:Nat}(hi:i<cells.length):(cut cells i 1).bind (zH false)=some (cells.getD i undef):=by
 have h1:cells.drop i=cells[i]::cells.drop (i+1):=GI hi;have h2:cells.getD i undef=cells[i]:=by simp[List.getD,QB hi]
 have hc:cut cells i 1=some [cells[i]]:=(ZE (by omega)).trans (by rw[h1];rfl);rw[hc,h2];rfl
theorem zHD(a n k):(Value.slice a n k).cells=#[.slice a n k]:=rfl
theorem XF{d1 d2 d3 s i n:Nat}{x y z:Operand}{un:List Nat}{hB h:U2}{p v:Value}{cells:List Value}{A:Nat->List Int}{k:Int}{K:WB->WF->U2->Prop}
  (r:AR hB h p cells n A) (e0:U8 hB h) (hm:h.mark<=hB.n) (hi:i<n) (hv:cells.getD i undef=v) (hlen:(A i).length<=1000)
  (hy:WI t y (I k)) (hx:WI (t.set d1 (.slice (some ⟨h.n,0,none⟩) 1 1)) x v) (h21:Nat.beq d1 d2=false) (hs:∀ w,WI ((t.set d1 (.slice (some ⟨h.n,0,none⟩) 1 1)).set d2 w) (.tmp s) p) (hz:∀ w,WI ((t.set d1 (.slice (some ⟨h.n,0,none⟩) 1 1)).set d2 w) z (I (i:Int))) (h32:Nat.beq d2 d3=false)
  (kk:∀ h1 w t',(∀ j,Nat.beq j d1=false->Nat.beq j d2=false->Nat.beq j d3=false->zB t' j=zB t j)->U8 hB h1->AR hB h1 p (cells.set i w) n (fun j=>if j=i then A i++[k]else A j)->(∀ g,g<h.n->p≠ .pointer (some ⟨g,0,none⟩)->(∀ a b,v≠ .slice (some ⟨g,0,none⟩) a b)->h1.get g=h.get g)->h.n<=h1.n->K .normal ⟨t',ds,rd⟩ h1):
  BT P tab h.mark (fun g=>∃ a b,v=.slice (some ⟨g,0,none⟩) a b) [(⟨some d1,none,.buildSlice 1 1 [I 0] [(0,1,y)]⟩,[]),(⟨some d2,none,.append 1 x (.tmp d1)⟩,un),(⟨some d3,none,.idxArr n 1 (.tmp s) z⟩,[]),(⟨none,none,.store 1 (.tmp d3) (.tmp d2)⟩,[])] h.n ⟨t,ds,rd⟩ (inC (zC 1 h)) (Bq K h):=by
 have hon:=r.all i hi;rw[hv]at hon;obtain⟨gp,gp1,gp2,hp,gp3⟩:=r.own;have hmade:ye t (.buildSlice 1 1 [I 0] [(0,1,y)])=some (.row [I k] true 0,fun g=> .slice (some ⟨g,0,none⟩) 1 1):=by
  have hy:ev t y=I k:=hy;simp only[ye,zo,Qm,Gf,hy];rfl
 refine BT.mk rfl (by have:=e0.n;omega) hmade ?_;generalize hH1:(inC (zC 1 h)).lay h.n (.row [I k] true 0)=H1;have n1:H1.n=h.n+1:=by rw[<-hH1];rfl
 have get1:∀ c,H1.get c=if c=h.n then some (.row [I k] true 0)else h.get c:=fun c=>by rw[<-hH1];exact zQ _ _ _ _
 have sl:WM (inC H1) (.slice (some ⟨h.n,0,none⟩) 1 1) [k]:=⟨rfl,.inr ⟨h.n,0,[I k],rfl,ZX (own:=true) (lo:=0) (by have:=get1 h.n;rw[QI rfl]at this;exact this),rfl,by show h.n<H1.n;omega⟩⟩;have hsrc:=Z7 sl;obtain⟨H2,ha,n2,get2,keep2,wr2,wf2⟩:∃ H2,yW 1 v (.slice (some ⟨h.n,0,none⟩) 1 1) (inC H1)=some (.slice (some ⟨h.n+1,0,none⟩) (A i++[k]).length 1,H2)/\H2.n=h.n+2/\H2.get (h.n+1)=some (.row ((A i++[k]).map I) true 0)/\
   (∀ c,c≠h.n+1->(∀ a b,v≠ .slice (some ⟨c,0,none⟩) a b)->H2.get c=H1.get c)/\(∀ c∈H2.wr,∃ a b,v=.slice (some ⟨c,0,none⟩) a b)/\(∀ c,h.n+2<=c->H1.get c=none->H2.get c=none):=by
  have hone:zK [I k]=true:=rfl;have hn1:(inC H1).n=h.n+1:=n1;rcases hon with⟨rfl,hA⟩|⟨q,q1,q2,rfl,q3⟩
  ·refine⟨(inC H1).push (.row [I k] true 0),?_,?_,?_,fun c hc _=> ?_,fun c hc=>(by cases hc),fun c hc h0=> ?_⟩
   ·have:Nat.ble 1 room=true:=rfl;simp only[yW,hsrc,Qm,Gf,hone,QY,QR,Qa,Nat.div_one,this,cond_true,hA,GS];rw[<-hn1];rfl
   ·show(inC H1).n+1=_;omega
   ·rw[hA,<-hn1,zN,QI rfl];rfl
   ·rw[zN,QC (by omega)];rfl
   ·rw[zN,QC (by omega)];exact h0
  ·have hq:(inC H1).get q=some (.row ((A i).map I) true 0):=by
    have:=get1 q;rw[QC (by omega)]at this;exact this.trans q3
   refine⟨((inC H1).kill q).push (.row ((A i).map I++[I k]) true (0-0)),?_,?_,?_,fun c hc hv=> ?_,fun c hc=> ?_,fun c hc h0=> ?_⟩
   ·have h1:Nat.ble ((A i).length+1) room=true:=QH (by have:room=4294967296:=rfl;omega);have h2:cut ((A i).map I) 0 ((A i).length*1)=some ((A i).map I):=by rw[ZE (by simp)];simp[Qw]
    have h3:Nat.ble 0 (0+(A i).length*1)=true:=QH (QT _);simp only[yW,hsrc,Qm,Gf,hone,QY,QR,Qa,Nat.div_one,h1,h2,h3,hq,cond_true,hn1,QM];rfl
   ·show(inC H1).n+1=_;omega
   ·have e:((inC H1).kill q).n=h.n+1:=n1;rw[<-e,zN,QI rfl];simp
   ·rw[zN,QC (by show c≠(inC H1).n;omega),yk,QC (fun e=>hv _ _ (by rw[e]))];rfl
   ·have hc2:c∈(inC H1).log q:=hc;rcases ZB hc2 with rfl|h
    ·exact⟨_,_,rfl⟩
    ·cases h
   ·rw[zN,QC (by show c≠(inC H1).n;omega),yk];split
    ·rfl
    ·exact h0
 have hbad:∀ c,(∃ a b,v=.slice (some ⟨c,0,none⟩) a b)->hB.n<=c/\c<h.n/\c≠gp:=by
  rintro c ⟨a,b,e⟩;have hne:=r.off hi hp (hv.trans e);rcases hon with⟨h1,_⟩|⟨q,q1,q2,h1,_⟩
  ·rw[e]at h1;cases h1
  ·rw[e]at h1;cases h1;exact⟨q1,q2,hne⟩
 have hgp:∀ a b,v≠ .slice (some ⟨gp,0,none⟩) a b:=fun a b e=>(hbad gp ⟨a,b,e⟩).2.2 rfl;rw[BT,QC (show ¬Nat.beq (zE (Wn.append 1 x (.tmp d1))) 3=true from Bool.noConfusion)];have hx:ev (t.set d1 (.slice (some ⟨h.n,0,none⟩) 1 1)) x=v:=hx;have e1:ev (t.set d1 (.slice (some ⟨h.n,0,none⟩) 1 1)) (.tmp d1)=.slice (some ⟨h.n,0,none⟩) 1 1:=by simp only[ev,zh,Q2]
 refine WO.op (.slice (some ⟨h.n+1,0,none⟩) (A i++[k]).length 1) H2 rfl (by simp only[WE,hx,e1,ha]) ?_;refine WO.nil ⟨fun c hc=> ?_,.inr ⟨rfl,wr2⟩,fun c hc=>(by cases hc),?_⟩
 ·have:=(hbad c (wr2 c hc)).1;omega
 rw[BT,QC (show ¬Nat.beq (zE (Wn.idxArr n 1 (.tmp s) z)) 3=true from Bool.noConfusion)];have own2:U6 hB (inC H2) p cells:=by
  refine⟨gp,gp1,by show gp<H2.n;omega,hp,?_⟩;show H2.get gp=_;rw[keep2 gp (by omega) hgp,get1,QC (by omega)];exact gp3
 have hs2:=hs (.slice (some ⟨h.n+1,0,none⟩) (A i++[k]).length 1);have hz2:=hz (.slice (some ⟨h.n+1,0,none⟩) (A i++[k]).length 1);have hidx:=Vl (P:=P) (ih:=Ex.bot) (c:=1) (n:=n) (i:=i) hs2 (by have hz2:ev _ z=I (i:Int):=hz2;rw[hz2];rfl) own2 hi;rw[G4]at hidx;refine WO.op _ (inC H2) rfl hidx ?_;refine WO.nil ⟨fun c hc=>(by cases hc),?_,fun c hc=>(by cases hc),?_⟩
 ·exact .inr ⟨rfl,fun c hc=>(by cases hc)⟩
 rw[BT,QC (show ¬Nat.beq (zE (Wn.store 1 (.tmp d3) (.tmp d2))) 3=true from Bool.noConfusion)];have hst:zg (inC (inC H2)) ⟨gp,i,none⟩ [.slice (some ⟨h.n+1,0,none⟩) (A i++[k]).length 1]=some ((inC (inC H2)).set gp (.row (cells.set i (.slice (some ⟨h.n+1,0,none⟩) (A i++[k]).length 1)) true 0)):=by
  obtain⟨q,_,_,hq,hg⟩:=own2;rw[hp]at hq;cases hq;have hg':(inC (inC H2)).get gp=some (.row cells true 0):=hg;have h1:Nat.ble (i+1) cells.length=true:=QH (by rw[r.len];exact hi);have h0:Nat.ble 0 i=true:=QH (QT _);have h2:zK [.slice (some ⟨h.n+1,0,none⟩) (A i++[k]).length 1]=true:=rfl;simp only[zg,hg',Qa,h1,h0,h2,Q1,zF9 (show i<cells.length by rw[r.len];exact hi)];rfl
 have hd32:¬d2=d3:=fun e=>by subst e;simp at h32
 refine VR undef ((inC (inC H2)).set gp (.row (cells.set i (.slice (some ⟨h.n+1,0,none⟩) (A i++[k]).length 1)) true 0)) rfl (by
  have a1:∀ tt:U7 Value,ev (tt.set d3 (yC p i)) (.tmp d3)=.pointer (some ⟨gp,i,none⟩):=fun tt=>by
   simp only[ev,zh,Q2,hp,yC,Q6]
  have a2:∀ w,ev (((t.set d1 (.slice (some ⟨h.n,0,none⟩) 1 1)).set d2 w).set d3 (yC p i)) (.tmp d2)=w:=fun w=>by
   simp only[ev,zh,QC hd32,Q2]
  simp only[val,WE,a1,a2,zHD,Gx,Qa,Ge,hst,QL,cond_true]) ?_
 refine WO.nil ⟨fun c hc=> ?_,.inl rfl,fun c hc=>(by cases hc),?_⟩
 ·have hc2:c∈(inC (inC H2)).log gp:=hc;rcases ZB hc2 with rfl|h
  ·omega
  ·cases h
 generalize hH:yu h ((inC (inC H2)).set gp (.row (cells.set i (.slice (some ⟨h.n+1,0,none⟩) (A i++[k]).length 1)) true 0))=H;have nH:H.n=h.n+2:=by rw[<-hH];exact n2
 have getH:∀ c,H.get c=if c=gp then some (.row (cells.set i (.slice (some ⟨h.n+1,0,none⟩) (A i++[k]).length 1)) true 0)else H2.get c:=fun c=>by rw[<-hH];exact zQ _ _ _ _
 have keepH:∀ c,c<h.n->c≠gp->(∀ a b,v≠ .slice (some ⟨c,0,none⟩) a b)->H.get c=h.get c:=fun c h1 h2 h3=>by
  rw[getH,QC h2,keep2 c (by omega) h3,get1,QC (by omega)]
 have lowH:∀ c,c<hB.n->H.get c=h.get c:=fun c hc=>keepH c (by have:=e0.n;omega) (by omega) (fun a b e=>by have:=(hbad c ⟨a,b,e⟩).1;omega);show K .normal _ _;rw[hH];refine kk H (.slice (some ⟨h.n+1,0,none⟩) (A i++[k]).length 1) _ (fun j a1 a2 a3=> ?_) ?_ ?_ (fun c h1 h2 h3=>keepH c h1 (fun e=>h2 (by rw[hp,e])) h3) (by omega)
 ·have b1:¬j=d1:=fun e=>by subst e;simp at a1
  have b2:¬j=d2:=fun e=>by subst e;simp at a2
  have b3:¬j=d3:=fun e=>by subst e;simp at a3
  simp only[val,zh,QC b1,QC b2,QC b3]
 ·refine⟨by rw[nH];have:=e0.n;omega,fun c hc=>(lowH c hc).trans (e0.get c hc),fun w c hc=> ?_,?_,fun hmk=> ?_⟩
  ·rw[nH]at hc;rw[getH,QC (by omega)];exact wf2 c hc (by rw[get1,QC (by omega)];exact e0.wf w c (by omega))
  ·rw[<-hH];exact e0.mark
  ·rw[<-hH];exact e0.wr hmk
 ·refine⟨⟨gp,gp1,by omega,hp,by rw[getH,QI rfl]⟩,by rw[List.length_set];exact r.len,fun j hj=> ?_,fun j1 j2 g a b c d hj1 hj2 hne e1 e2=> ?_⟩
  ·rw[zGE (by rw[r.len];exact hi)];by_cases e:j=i
   ·rw[QI e];simp only[QI e];exact .inr ⟨h.n+1,by have:=e0.n;omega,by omega,rfl,by rw[getH,QC (by omega)];exact get2⟩
   ·rw[QC e];simp only[QC e];rcases r.all j hj with h1|⟨q,q1,q2,h1,q3⟩
    ·exact .inl h1
    ·refine .inr ⟨q,q1,by omega,h1,?_⟩;rw[keepH q q2 (r.off hj hp h1) (fun a b e2=>r.apart j i q _ _ a b hj hi e h1 (hv.trans e2))];exact q3
  ·rw[zGE (by rw[r.len];exact hi)]at e1 e2;have old:∀ j a b,j<n->cells.getD j undef=.slice (some ⟨g,0,none⟩) a b->g<h.n:=fun j a b hj e=>by
    rcases r.all j hj with⟨h1,_⟩|⟨q,_,q2,h1,_⟩
    ·rw[e]at h1;cases h1
    ·rw[e]at h1;cases h1;exact q2
   by_cases f1:j1=i
   ·rw[QI f1]at e1;cases e1;by_cases f2:j2=i
    ·exact hne (f1.trans f2.symm)
    ·rw[QC f2]at e2;have:=old j2 _ _ hj2 e2;omega
   ·rw[QC f1]at e1;by_cases f2:j2=i
    ·rw[QI f2]at e2;cases e2;have:=old j1 _ _ hj1 e1;omega
    ·rw[QC f2]at e2;exact r.apart j1 j2 g a b c d hj1 hj2 hne e1 e2
theorem AR.one{hB h:U2}{p:Value}{cells:List Value}{n:Nat}{A:Nat->List Int}(r:AR hB h p cells n A):zK cells=true:=by
 unfold zK;rw[QX];intro x hx;obtain⟨j,hj,rfl⟩:=List.mem_iff_getElem.1 hx;have e:cells.getD j undef=cells[j]:=by simp[List.getD,QB hj]
 have:=r.all j (by rw[<-r.len];exact hj);rw[e]at this;rcases this with⟨h,_⟩|⟨_,_,_,h,_⟩<;>rw[h]
theorem AR.updC{hB h h':U2}{p:Value}{cells:List Value}{n:Nat}{A:Nat->List Int}(r:AR hB h p cells n A)(o:U6 hB h' p cells)(u:Wc p h h'):AR hB h' p cells n A:=by
 refine⟨o,r.len,fun j hj=> ?_,r.apart⟩;rcases r.all j hj with h1|⟨q,q1,q2,h1,q3⟩
 ·exact .inl h1
 ·refine .inr ⟨q,q1,QG q2 u.1,h1,(u.2 q q2 fun e=> ?_).trans q3⟩;exact r.off hj e h1 rfl
theorem zKl{cells:List Value}{n:Nat}(hn:cells.length=n):(cut cells 0 n).bind (zH true)=some (.agg cells.toArray):=by
 subst hn;rw[ZE (by omega)];simp[Qw,zH]
theorem XA{d i:Nat}{x:Operand}{p:Value}{cells:List Value}{h0 h:U2}{l:List U4}{Q:WF->U2->Prop}(o:U6 h0 h p cells)(hi:i<cells.length)(k:WO P tab l ⟨t.set d (cells.getD i undef),ds,rd⟩ h Q)(hx:WI t x (yC p i):=by exact zr):WO P tab (⟨some d,none,.load false 1 x⟩::l) ⟨t,ds,rd⟩ h Q:=
 Xb (U6.load hx o (zOd hi)) k
theorem Xj{d n:Nat}{x:Operand}{p:Value}{cells:List Value}{h0 h:U2}{l:List U4}{Q:WF->U2->Prop}(o:U6 h0 h p cells)(hn:cells.length=n)(k:WO P tab l ⟨t.set d (.agg cells.toArray),ds,rd⟩ h Q)(hx:WI t x p:=by exact zr):WO P tab (⟨some d,none,.load true n x⟩::l) ⟨t,ds,rd⟩ h Q:=
 Xb (Vi hx o (zKl hn)) k
end
section
variable {P:Program}{tab:Wi}{ds:List Deferred}{rd:Option Nat}{h:U2}{l:List U4}{t:U7 Value}
theorem goV{G' G:Prop}(k:G')(r:Wrap G'->G:=by
  intro hgo;first|with_reducible show BT _ _ _ _ (_::_) _ _ _ _|refine go ?_
  repeat (first|((apply BT.q;rfl);refine go ?_)|refine zVj rfl ?_|(apply zOv;(exact zM);(assumption)))
  first|with_reducible show BT _ _ _ _ (_::_) _ _ _ _|refine go ?_
  exact hgo.out):G:=r ⟨k⟩
end
section
variable {P:Program}{tab:Wi}{t:U7 Value}{ds:List Deferred}{rd:Option Nat}
theorem zDx{h0 h:U2}{p:Value}{xs:List Int}{j:Nat}{a:Int}(o:U6 h0 h p (xs.map I))(hj:j<xs.length):∃ g,h0.n<=g/\g<h.n/\p=.pointer (some ⟨g,0,none⟩)/\zg h ⟨g,j,none⟩ [I a]=some (h.set g (.row ((xs.set j a).map I) true 0)):=by
 obtain⟨g,g1,g2,hp,g3⟩:=o;refine⟨g,g1,g2,hp,?_⟩;have h1:Nat.ble (j+1) (xs.map I).length=true:=QH (by simp;omega);have h0:Nat.ble 0 j=true:=QH (QT _);have h2:zK [I a]=true:=rfl;simp only[zg,g3,Qa,h1,h0,h2,Q1,zAm _ _ _ hj];rfl
theorem V4{x y:Operand}{p:Value}{xs:List Int}{j:Nat}{a:Int}{h0 h:U2}{l:List U4}{Q:WF->U2->Prop}(o:U6 h0 h p (xs.map I))(e0:U8 h0 h)(hj:j<xs.length)
  (k:∀ h',U8 h0 h'->U6 h0 h' p ((xs.set j a).map I)->Wc p h h'->WO P tab l ⟨t,ds,rd⟩ h' Q) (hx:WI t x (yC p j):=by exact zr) (hy:WI t y (I a):=by exact zr):WO P tab (⟨none,none,.store 1 x y⟩::l) ⟨t,ds,rd⟩ h Q:=by
 refine Vn hx hy (v:=I a) (cs:=[I a]) rfl rfl rfl o e0 (by simp;omega) fun h' a1 a2 a3=>k h' a1 ?_ a3;rw[zAm _ _ _ hj]at a2;exact a2
theorem UJ{N0 g:Nat}{cl:Bool}{x y:Operand}{p:Value}{xs:List Int}{j:Nat}{a:Int}{h0 X:U2}{m:Nat}{w:U4×List Nat}{l:List (U4×List Nat)}{Q:WF->U2->Prop}(o:U6 h0 X p (xs.map I))(hm:m<=h0.n)(hj:j<xs.length)
  (k:∀ X',X'.n=X.n->U6 h0 X' p ((xs.set j a).map I)->Wc p X X'->(Wf X->Wf X')->WU P tab m N0 (w::l) g false ⟨t,ds,rd⟩ (inC X') Q) (hx:WI t x (yC p j):=by exact zr) (hy:WI t y (I a):=by exact zr):
  WU P tab m N0 ((⟨none,none,.store 1 x y⟩,[])::w::l) g cl ⟨t,ds,rd⟩ (inC X) Q:=by
 obtain⟨q,q1,q2,hp,hst⟩:=zDx (a:=a) o hj;rw[WU,QC (show ¬Nat.beq (zE (Wn.store 1 x y)) 3=true from Bool.noConfusion)];have hst':zg (inC (inC X)) ⟨q,j,none⟩ [I a]=some ((inC (inC X)).set q (.row ((xs.set j a).map I) true 0)):=by
  have:U6 h0 (inC (inC X)) p (xs.map I):=o;obtain⟨q',_,_,hp',h⟩:=zDx (a:=a) this hj;rw[hp]at hp';cases hp';exact h
 have hx:ev t x=yC p j:=hx;have hy:ev t y=I a:=hy;have hc:(I a).cells=#[I a]:=rfl;refine VR undef ((inC (inC X)).set q (.row ((xs.set j a).map I) true 0)) rfl (by
  simp only[WE,hx,hp,yC,Q6,hy,hc,hst',QL];rfl) ?_
 have hlog:(inC (inC X)).log q=[q]:=by
  have:Nat.ble X.n q=false:=by
   cases hb:Nat.ble X.n q with
   |false=>rfl
   |true=>have:=QN hb;omega
  show(bif Nat.ble X.n q then[]else q::[])=_;rw[this];rfl
 have hwr:((inC (inC X)).set q (.row ((xs.set j a).map I) true 0)).wr=[q]:=hlog;refine WO.nil ⟨⟨fun c hc=> ?_,QE _,.inl rfl⟩,?_⟩
 ·rw[hwr]at hc;rw[QW]at hc;subst hc;omega
 ·rw[hwr,show(cl&&[q].isEmpty)=false by cases cl<;>rfl];have:=k ((inC (inC X)).set q (.row ((xs.set j a).map I) true 0)) rfl ⟨q,q1,q2,hp,by rw[zj,QI rfl]⟩ ⟨QE _,fun c _ hc=>by rw[zj,QC (fun e=>hc (by rw[hp,e]))];rfl⟩ (fun wf c hc=>by have hc:X.n<=c:=hc;rw[zj,QC (by omega)];exact wf c hc);obtain⟨o2,un2⟩:=w;unfold WU at this |-;exact this
theorem Xy{N0 g:Nat}{cl:Bool}{x y:Operand}{p:Value}{xs:List Int}{j:Nat}{a:Int}{h0 hS X:U2}{K:WB->WF->U2->Prop}(o:U6 h0 X p (xs.map I))(e0:U8 h0 hS)(hm:hS.mark<=h0.n)(hn:X.n=hS.n)(u:Wc p hS X)(wf:Wf hS->Wf X)(hj:j<xs.length)
  (k:∀ h1,U8 h0 h1->U6 h0 h1 p ((xs.set j a).map I)->Wc p hS h1->K .normal ⟨t,ds,rd⟩ h1) (hx:WI t x (yC p j):=by exact zr) (hy:WI t y (I a):=by exact zr):
  WU P tab hS.mark N0 [(⟨none,none,.store 1 x y⟩,[])] g cl ⟨t,ds,rd⟩ (inC X) (Bq K hS):=by
 obtain⟨q,q1,q2,hp,_⟩:=zDx (a:=a) o hj;rw[WU,QC (show ¬Nat.beq (zE (Wn.store 1 x y)) 3=true from Bool.noConfusion)];have hst':zg (inC (inC X)) ⟨q,j,none⟩ [I a]=some ((inC (inC X)).set q (.row ((xs.set j a).map I) true 0)):=by
  have:U6 h0 (inC (inC X)) p (xs.map I):=o;obtain⟨q',_,_,hp',h⟩:=zDx (a:=a) this hj;rw[hp]at hp';cases hp';exact h
 have hx:ev t x=yC p j:=hx;have hy:ev t y=I a:=hy;have hc:(I a).cells=#[I a]:=rfl;refine VR undef ((inC (inC X)).set q (.row ((xs.set j a).map I) true 0)) rfl (by
  simp only[WE,hx,hp,yC,Q6,hy,hc,hst',QL];rfl) ?_
 refine WO.nil ⟨⟨fun c hc=> ?_,QE _,.inl rfl⟩,?_⟩
 ·have hc2:c∈(inC (inC X)).log q:=hc;rcases ZB hc2 with rfl|h
  ·omega
  ·cases h
 have get2:∀ c,(yu hS ((inC (inC X)).set q (.row ((xs.set j a).map I) true 0))).get c=if c=q then some (.row ((xs.set j a).map I) true 0)else X.get c:=fun c=>zQ _ _ _ _;refine k (yu hS ((inC (inC X)).set q (.row ((xs.set j a).map I) true 0))) ?_ ⟨q,q1,q2,hp,by rw[get2,QI rfl]⟩ ⟨by show hS.n<=X.n;omega,fun c hc hv=>by rw[get2,QC (fun e=>hv (by rw[hp,e]))];exact u.2 c hc hv⟩;refine⟨by show h0.n<=X.n;rw[hn];exact e0.n,fun c hc=> ?_,fun w c hc=> ?_,e0.mark,fun hmk=>e0.wr hmk⟩
 ·rw[get2,QC (by omega)];exact(u.2 c (by have:=e0.n;omega) (fun e=>by rw[hp]at e;cases e;omega)).trans (e0.get c hc)
 ·have hc:X.n<=c:=hc;rw[get2,QC (by omega)];exact wf (e0.wf w) c hc
theorem zM3{xs:List Int}{j n:Nat}(h:j+n<=xs.length):(cut (xs.map I) j n).bind (zH true)=some (.agg (((xs.drop j).take n).map I).toArray):=by
 rw[ZE (by simp;omega)];simp[zH]
theorem Vm{d j n:Nat}{x:Operand}{p:Value}{xs:List Int}{h0 h:U2}{l:List U4}{Q:WF->U2->Prop}(o:U6 h0 h p (xs.map I))(hn:j+n<=xs.length)(k:WO P tab l ⟨t.set d (.agg (((xs.drop j).take n).map I).toArray),ds,rd⟩ h Q)(hx:WI t x (yC p j):=by exact zr):WO P tab (⟨some d,none,.load true n x⟩::l) ⟨t,ds,rd⟩ h Q:=
 Xb (U6.load hx o (zM3 hn)) k
theorem zOX{e:TypeId}{kk:IntKind}{d:Nat}(he:P.underlying e=some (.int kk))(ha:zT P (isAgg e)=some false){xs ys:List Int}(hl:xs.length=ys.length):∀ (m i:Nat),i+m=xs.length->
  zT P (do
   let s <-(forIn (List.range' i m) (none,()) fun f (__s:Option Bool×Unit)=>do
           let __do_lift <-part e (xs.map I).toArray (f*1)
           let __do_lift_1 <-part e (ys.map I).toArray (f*1)
           let __do_lift <-Op.equalIn (d+1) e __do_lift __do_lift_1
           if(!__do_lift)=true then pure (ForInStep.done (some false,()))
            else pure (ForInStep.yield (none,())):Sem (Option Bool×Unit))
   match s.fst with
        |some r=>pure r
        |none=>pure true)=some (decide (xs.drop i=ys.drop i)):=by
 intro m;induction m with
 |zero=>
  intro i hi;have h1:xs.drop i=[]:=List.drop_eq_nil_of_le (by omega);have h2:ys.drop i=[]:=List.drop_eq_nil_of_le (by omega);rw[h1,h2];rfl
 |succ m ih=>
  intro i hi;have hx:i<xs.length:=by omega
  have hy:i<ys.length:=by omega
  have px:zT P (part e (xs.map I).toArray (i*1))=some (I xs[i]):=zCu (by rw[ha]) (by simp[hx]);have py:zT P (part e (ys.map I).toArray (i*1))=some (I ys[i]):=zCu (by rw[ha]) (by simp[hy]);have heq:zT P (Op.equalIn (d+1) e (I xs[i]) (I ys[i]))=some (decide (xs[i]=ys[i])):=by
   rw[Op.equalIn,zO,yo he];simp only[QS,Q2,zG0];congr 1
  rw[List.range'_succ,List.forIn_cons];simp only[bind_assoc,zO,px,py,QS,heq];have e1:(xs.drop i=ys.drop i)↔(xs[i]=ys[i]/\xs.drop (i+1)=ys.drop (i+1)):=by rw[GI hx,GI hy,List.cons.injEq]
  by_cases h:xs[i]=ys[i]
  ·have:=ih (i+1) (by omega);rw[Qe h,show decide (xs.drop i=ys.drop i)=decide (xs.drop (i+1)=ys.drop (i+1))from decide_eq_decide.2 (e1.trans ⟨fun h=>h.2,fun k=>⟨h,k⟩⟩),<-this,zO];rfl
  ·rw[Qb h,show decide (xs.drop i=ys.drop i)=false from Qb fun k=>h (e1.1 k).1];rfl
theorem zUk{t e:TypeId}{kk:IntKind}{n:Nat}{xs ys:List Int}{x y:Operand}(ht:P.underlying t=some (.array n e))(he:P.underlying e=some (.int kk))(ha:zT P (isAgg e)=some false)(hs:zT P (sizeOf e)=some 1)(hg:P.eqGuardType P.depth t=false)(hx:xs.length=n)(hy:ys.length=n):
  zT P (do eqGuard .eql t x y (.agg (xs.map I).toArray) (.agg (ys.map I).toArray);binOp .eql t (.agg (xs.map I).toArray) (.agg (ys.map I).toArray))=some (.bool (decide (xs=ys))):=by
 have h1:zT P (eqGuard .eql t x y (.agg (xs.map I).toArray) (.agg (ys.map I).toArray))=some ():=by
  unfold eqGuard;simp only[QY,Qn,Gi];rw[zO,yw];simp only[QS];rw[zO,yw];simp only[QS,hg,Qf,Q2];rfl
 rw[zO,h1];simp only[QS];unfold binOp;simp only[];rw[zO];have h2:zT P (Op.equal t (.agg (xs.map I).toArray) (.agg (ys.map I).toArray))=some (decide (xs=ys)):=by
  unfold Op.equal Op.maxDepth;rw[show(10000:Nat)=9999+1 from rfl,Op.equalIn,zO,yo ht];simp only[QS];rw[zO,hs];simp only[QS];have:=zOX (P:=P) (d:=9998) he ha (xs:=xs) (ys:=ys) (by omega) n 0 (by omega);rw[Q0,Q0]at this;rw[<-this,zO,zO];first|rw[Std.Legacy.Range.forIn_eq_forIn_range']|rw[Std.Range.forIn_eq_forIn_range']
  have hsz:(Std.Legacy.Range.size [:n])=n:=by simp[Std.Legacy.Range.size]
  rw[hsz];congr 1;funext a;obtain⟨a,_⟩:=a;cases a<;>rfl
 rw[h2];rfl
noncomputable def zS4(P:Program)(t:TypeId)(n:Nat):Bool:=
 (match P.underlying t with
 |some (.array m e)=>Nat.beq m n&&(match P.underlying e with|some (.int _)=>true|_=>false)&&(match zT P (isAgg e)with|some false=>true|_=>false)&&(match zT P (sizeOf e)with|some 1=>true|_=>false)
 |_=>false)&& !P.eqGuardType P.depth t
theorem zSa{t:TypeId}{n:Nat}{xs ys:List Int}{x y:Operand}(h:zS4 P t n=true)(hx:xs.length=n)(hy:ys.length=n):
  zT P (do eqGuard .eql t x y (.agg (xs.map I).toArray) (.agg (ys.map I).toArray);binOp .eql t (.agg (xs.map I).toArray) (.agg (ys.map I).toArray))=some (.bool (decide (xs=ys))):=by
 unfold zS4 at h;rw[QF]at h;obtain⟨h,hg⟩:=h;have hg:P.eqGuardType P.depth t=false:=by cases hh:P.eqGuardType P.depth t with|false=>rfl|true=>rw[hh]at hg;cases hg
 split at h
 ·rename_i m e ht;simp only[QF]at h;obtain⟨⟨⟨h1,h2⟩,h3⟩,h4⟩:=h;have hm:=QJ h1;subst hm;split at h2
  ·rename_i kk he;refine zUk ht he ?_ ?_ hg hx hy
   ·split at h3
    ·assumption
    ·cases h3
   ·split at h4
    ·assumption
    ·cases h4
  ·cases h2
 ·cases h
def zKH(K:WB->WF->U2->Prop):WB->WF->U2->Prop
 | .normal,fr,h=>K .normal fr h
 | .exit i,fr,h=>K (.exit i) fr h
 | .goto _,_,_=>False
 | .ret,fr,h=>K .ret fr h
theorem zIu{K fr h}(hx:K .ret fr h):zKH K .ret fr h:=hx
theorem Vy{b fr h K}(hx:WX P tab b fr h (zKH K)):WX P tab (.scope b) fr h K:=by
 unfold WX at hx |-;obtain⟨e,fr',h',k,ev⟩:=hx;have run:∀ n,(Wy P tab n).exec b fr h=some (e,fr',h')->(∀ l,e≠ .goto l)->Zr (Wy P tab n) zF3 b b fr h=some (e,fr',h'):=fun n h1 h2=>by
  show Zr (Wy P tab n) (4294967295+1) b b fr h=_;rw[Zr,h1];cases e with
  |goto l=>exact absurd rfl (h2 l)
  |_=>rfl
 cases e with
 |goto l=>exact k.elim
 |normal=>exact⟨_,_,_,k,Ev.up (ev.mono fun n e=>by rw[zq];simp only[ze];exact run n e (fun l h=>by cases h))⟩
 |exit i=>exact⟨_,_,_,k,Ev.up (ev.mono fun n e=>by rw[zq];simp only[ze];exact run n e (fun l h=>by cases h))⟩
 |ret=>exact⟨_,_,_,k,Ev.up (ev.mono fun n e=>by rw[zq];simp only[ze];exact run n e (fun l h=>by cases h))⟩
end
def Bm{α:Type}(R:U2->List Value->α->Prop)(h:U2)(cs:List Value)(a:α)(D:Nat->Prop):Prop:=
 ∀ hx:U2,(∀ k o,D k->h.get k=some o->hx.get k=some o)->h.n<=hx.n->R hx cs a
def WR{α:Type}(c:Nat)(R:U2->List Value->α->Prop)(b:Nat)(h:U2)(v:Value)(xs:List α):Prop:=
 (v=.slice none 0 0/\xs=[])\/∃ g cells D,b<=g/\g<h.n/\v=.slice (some ⟨g,0,none⟩) xs.length c/\h.get g=some (.row cells true 0)/\cells.length=xs.length*c/\¬D g/\(∀ k,D k->b<=k/\k<h.n)/\
  ∀ (i:Nat) (a:α),xs[i]?=some a->Bm R h ((cells.drop (i*c)).take c) a D
section
variable {α:Type}{c b:Nat}{R:U2->List Value->α->Prop}{h h':U2}{v:Value}{xs:List α}
theorem Bm.self{cs:List Value}{a:α}{D:Nat->Prop}(d:Bm R h cs a D):R h cs a:=d h (fun _ _ _ e=>e) (QE _)
theorem Bm.mono{cs:List Value}{a:α}{D E:Nat->Prop}(d:Bm R h cs a D)(hE:∀ k,D k->E k)(hk:∀ k o,D k->h.get k=some o->h'.get k=some o)(hn:h.n<=h'.n):Bm R h' cs a E:=
 fun hx h1 h2=>d hx (fun k o hd e=>h1 k o (hE k hd) (hk k o hd e)) (QO hn h2)
theorem WR.upd(o:WR c R b h v xs)(hk:∀ k,b<=k->k<h.n->h'.get k=h.get k)(hn:h.n<=h'.n):WR c R b h' v xs:=by
 rcases o with o|⟨g,cells,D,g1,g2,g3,g4,g5,g6,g7,g8⟩
 ·exact .inl o
 ·exact .inr ⟨g,cells,D,g1,QG g2 hn,g3,(hk g g1 g2).trans g4,g5,g6,fun k hd=>⟨(g7 k hd).1,QG (g7 k hd).2 hn⟩,fun i a ha=>(g8 i a ha).mono (fun _ h=>h) (fun k o hd e=>(hk k (g7 k hd).1 (g7 k hd).2).trans e) hn⟩
theorem WR.ext(o:WR c R b h v xs)(e:U8 h h'):WR c R b h' v xs:=o.upd (fun k _ hk=>e.get k hk) e.n
theorem WR.dep(o:WR c R b h v xs){hx:U2}(hk:∀ k o,b<=k->k<h.n->h.get k=some o->hx.get k=some o)(hn:h.n<=hx.n):W4 c R hx v xs:=by
 rcases o with⟨rfl,rfl⟩|⟨g,cells,D,g1,g2,rfl,g4,g5,g6,g7,g8⟩
 ·exact W4.nil
 ·refine⟨cells,⟨g5,.inr ⟨g,0,cells,rfl,ZX (hk g _ g1 g2 g4),?_,QG g2 hn⟩⟩,fun i a ha=>g8 i a ha hx (fun k o hd e=>hk k o (g7 k hd).1 (g7 k hd).2 e) hn⟩;rw[ZE (by omega)];simp[<-g5]
theorem WR.sl(o:WR c R b h v xs):W4 c R h v xs:=o.dep (fun _ _ _ _ e=>e) (QE _)
theorem WR.base{b':Nat}(o:WR c R b h v xs)(hb:b'<=b):WR c R b' h v xs:=by
 rcases o with o|⟨g,cells,D,g1,g2,g3,g4,g5,g6,g7,g8⟩
 ·exact .inl o
 ·exact .inr ⟨g,cells,D,QO hb g1,g2,g3,g4,g5,g6,fun k hd=>⟨QO hb (g7 k hd).1,(g7 k hd).2⟩,g8⟩
theorem zNP{cells cs:List Value}{n i:Nat}(hl:cells.length=n*c)(hc:cs.length=c)(hi:i<n):(((cells++cs).drop (i*c)).take c)=(cells.drop (i*c)).take c:=by
 have h1:i*c+c<=n*c:=by rw[<-JC];exact Gc _ hi
 rw[List.drop_append,List.take_append_of_le_length];rw[List.length_drop];omega
theorem zM0{cells cs:List Value}{n:Nat}(hl:cells.length=n*c)(hc:cs.length=c):(((cells++cs).drop (n*c)).take c)=cs:=by
 rw[List.drop_append,List.drop_eq_nil_of_le (by omega),GS,hl,Nat.sub_self,Q0,Qw (by omega)]
theorem WR.snoc(o:WR c R b h v xs){cs:List Value}{a:α}{Dn:Nat->Prop}{g':Nat}{olds:List Value}(hc:cs.length=c)(d:Bm R h cs a Dn)(hD:∀ k,Dn k->b<=k/\k<h.n)(hv:∀ g n k,v=.slice (some ⟨g,0,none⟩) n k->¬Dn g)
  (hold:∀ g n k,v=.slice (some ⟨g,0,none⟩) n k->h.get g=some (.row olds true 0)) (hnil:v=.slice none 0 0->olds=[])
  (hg:h.n<=g') (hb:b<=g') (hg2:g'<h'.n) (hget:h'.get g'=some (.row (olds++cs) true 0)) (keep:∀ k,b<=k->k<h.n->(∀ n k',v≠ .slice (some ⟨k,0,none⟩) n k')->h'.get k=h.get k):
  WR c R b h' (.slice (some ⟨g',0,none⟩) (xs++[a]).length c) (xs++[a]):=by
 rcases o with⟨rfl,rfl⟩|⟨g,cells,D,g1,g2,rfl,g4,g5,g6,g7,g8⟩
 ·have:=hnil rfl;subst this;refine .inr ⟨g',cs,Dn,hb,hg2,rfl,by simpa using hget,by simp[hc],fun hd=>by have:=(hD _ hd).2;omega,fun k hd=>⟨(hD k hd).1,by have:=(hD k hd).2;omega⟩,fun i x hx=> ?_⟩;have hi:i=0:=by
   have:=(QQ.1 hx).1;simp at this;omega
  subst hi;simp at hx;subst hx;rw[Nat.zero_mul,Q0,Qw (by omega)];exact d.mono (fun _ h=>h) (fun k o hd e=>(keep k (hD k hd).1 (hD k hd).2 (fun _ _ e=>by cases e)).trans e) (by omega)
 ·have:=hold g _ _ rfl;rw[g4]at this;cases this;refine .inr ⟨g',olds++cs,fun k=>D k\/Dn k,hb,hg2,rfl,hget,by rw[QM,QM,Qa,JC,g5,hc],fun hd=> ?_,fun k hd=> ?_,fun i x hx=> ?_⟩
  ·rcases hd with hd|hd
   ·have:=(g7 _ hd).2;omega
   ·have:=(hD _ hd).2;omega
  ·rcases hd with hd|hd
   ·exact⟨(g7 k hd).1,by have:=(g7 k hd).2;omega⟩
   ·exact⟨(hD k hd).1,by have:=(hD k hd).2;omega⟩
  ·by_cases hi:i<xs.length
   ·rw[Qx hi]at hx;rw[zNP g5 hc hi];refine(g8 i x hx).mono (fun k h=> .inl h) (fun k o hd e=>(keep k (g7 k hd).1 (g7 k hd).2 (fun n k' e2=> ?_)).trans e) (by omega);cases e2;exact g6 hd
   ·rw[GG (by omega)]at hx;have hi2:i=xs.length:=by
     have:=(QQ.1 hx).1;simp at this;omega
    subst hi2;simp at hx;subst hx;rw[zM0 g5 hc];refine d.mono (fun k h=> .inr h) (fun k o hd e=>(keep k (hD k hd).1 (hD k hd).2 (fun n k' e2=> ?_)).trans e) (by omega);exact hv k n k' e2 hd
end
section
variable {P:Program}{tab:Wi}{t:U7 Value}{h:U2}{ds:List Deferred}{rd:Option Nat}{l:List U4}{Q:WF->U2->Prop}
theorem Y6{zero cs:List Value}{v:Value}{c:Nat}(hv:v.cells=cs.toArray)(hc:cs.length=c)(hz:zero.length=c):y8 (zY zero 1) [(0,c,v)]=some cs:=by
 have h1:zY zero 1=zero:=by simp[zY]
 have h2:Nat.beq v.cells.size c=true:=by rw[hv];simp[hc]
 have h3:Nat.ble (0+c) zero.length=true:=QH (by omega);rw[h1];simp only[y8,h2,h3,Q1,cond_true,hv];congr 1;simp[zd,hc,hz]
theorem Y2{α:Type}{c b gl:Nat}{R:U2->List Value->α->Prop}{h H:U2}{v:Value}{xs:List α}{cs:List Value}{a:α}{Dn:Nat->Prop}(o:WR c R b h v xs)(hc:cs.length=c)(hc0:0<c)(h1:zK cs=true)(hl:xs.length<=100000)(hbn:b<=h.n)
  (d:Bm R h cs a Dn) (hD:∀ k,Dn k->b<=k/\k<h.n) (hv:∀ g n k,v=.slice (some ⟨g,0,none⟩) n k->¬Dn g) (hH:h.n<=H.n) (hgl:gl<H.n) (hkeep:∀ k,k<h.n->H.get k=h.get k) (hlit:H.get gl=some (.row cs true 0)):
  ∃ v' H',yW c v (.slice (some ⟨gl,0,none⟩) 1 c) H=some (v',H')/\WR c R b H' v' (xs++[a])/\H'.n=H.n+1/\(∀ k,k<H.n->(∀ n k',v≠ .slice (some ⟨k,0,none⟩) n k')->H'.get k=H.get k)/\H'.mark=H.mark/\(∀ k∈H'.wr,k∈H.wr\/b<=k)/\
   (H.mark<=b->H'.wr=H.wr)/\(Wf H->Wf H')/\(∃ n k g,v'=.slice (some ⟨g,0,none⟩) n k/\H.n<=g):=by
 obtain⟨y,ys,rfl⟩:∃ y ys,cs=y::ys:=by
  cases cs with
  |nil=>simp at hc;omega
  |cons y ys=>exact⟨y,ys,rfl⟩
 have hsrc:yi c H (.slice (some ⟨gl,0,none⟩) 1 c)=some (y::ys):=by
  have e1:yF H gl=some (y::ys):=ZX hlit;have e2:cut (y::ys) 0 (1*c)=some (y::ys):=by rw[ZE (by omega)];simp[<-hc]
  have e3:Nat.beq 1 0=false:=rfl;rw[Nat.one_mul]at e2;simp only[yi,e1,e3,Nat.one_mul,e2,Ge,Qz,Q1,cond_true,QR]
 have hdiv:(y::ys).length / c=1:=by rw[hc];exact Nat.div_self hc0
 have hroom:room=4294967296:=rfl;rcases id o with⟨rfl,rfl⟩|⟨g,cells,D,g1,g2,rfl,g4,g5,g6,g7,g8⟩
 ·have hb1:Nat.ble 1 room=true:=rfl;refine⟨.slice (some ⟨H.n,0,none⟩) 1 c,H.push (.row (y::ys) true 0),?_,?_,rfl,fun k hk _=> ?_,rfl,fun k hk=> .inl hk,fun _=>rfl,fun w k hk=> ?_,⟨_,_,_,rfl,QE _⟩⟩
  ·simp only[yW,hsrc,h1,QY,QR,hdiv,hb1,cond_true];rfl
  ·have:=o.snoc (h':=H.push (.row (y::ys) true 0)) (g':=H.n) (olds:=[]) hc d hD hv (fun g n k e=>by cases e) (fun _=>rfl) hH (QO hbn hH) (Q7 _) (zV _ _) (fun k _ hk _=>by rw[zN,QC (by omega)];exact hkeep k hk);exact this
  ·rw[zN,QC (by omega)]
  ·have hk:H.n+1<=k:=hk;rw[zN,QC (by omega)];exact w k (by omega)
 ·have hb1:Nat.ble (xs.length+1) room=true:=QH (by omega);have hq:H.get g=some (.row cells true 0):=(hkeep g g2).trans g4;have h2:cut cells 0 (xs.length*c)=some cells:=by rw[ZE (by omega)];simp[<-g5]
  have h3:Nat.ble 0 (0+xs.length*c)=true:=QH (QT _);have hcc:Nat.beq c 0=false:=by cases hz:Nat.beq c 0 with
   |false=>rfl
   |true=>have:=QJ hz;omega
  have hKn:(H.kill g).n=H.n:=rfl;refine⟨.slice (some ⟨H.n,0,none⟩) (xs.length+1) c,(H.kill g).push (.row (cells++y::ys) true (0-0)),?_,?_,rfl,fun k hk hvk=> ?_,rfl,fun k hk=> ?_,fun hm=> ?_,fun w k hk=> ?_,⟨_,_,_,rfl,QE _⟩⟩
  ·simp only[yW,hsrc,h1,QY,QR,hdiv,hb1,hcc,Ge,hq,h2,h3,cond_true,Qz,Q1]
  ·have:=o.snoc (h':=(H.kill g).push (.row (cells++y::ys) true (0-0))) (g':=H.n) (olds:=cells) hc d hD hv (fun g n k e=>by cases e;exact g4) (fun e=>by cases e) hH (QO hbn hH) (Q7 _) (zV (H.kill g) _) (fun k _ hk hvk=>by
    rw[zN,QC (by rw[hKn];omega),yk,QC (fun e=>hvk _ _ (by rw[e]))];exact hkeep k hk)
   rw[QM,Qa]at this;exact this
  ·rw[zN,QC (by rw[hKn];omega),yk,QC (fun e=>hvk _ _ (by rw[e]))]
  ·have hk2:k∈H.log g:=hk;rcases ZB hk2 with rfl|h
   ·exact .inr g1
   ·exact .inl h
  ·show H.log g=H.wr;exact zAE (by omega)
  ·have hk:H.n+1<=k:=hk;rw[zN,QC (by rw[hKn];omega),yk];split
   ·rfl
   ·exact w k (by omega)
theorem Ui{α:Type}{c b d1 d2:Nat}{R:U2->List Value->α->Prop}{hB:U2}{v w:Value}{xs:List α}{cs zero:List Value}(a:α)(Dn:Nat->Prop){x y:Operand}(o:WR c R b h v xs)(e0:U8 hB h)(hb:hB.n<=b)(hbn:b<=h.n)(hc0:0<c)(hl:xs.length<=100000)
  (d:Bm R h cs a Dn) (hD:∀ k,Dn k->b<=k/\k<h.n) (hv:∀ g n k,v=.slice (some ⟨g,0,none⟩) n k->¬Dn g)
  (k:∀ v' h' lit,U8 hB h'->WR c R b h' v' (xs++[a])->h.n<=h'.n->(∀ k,k<h.n->(∀ n k',v≠ .slice (some ⟨k,0,none⟩) n k')->h'.get k=h.get k)->WO P tab l ⟨(t.set d1 lit).set d2 v',ds,rd⟩ h' Q)
  (hx:WI t x w:=by exact zr) (hw:w.cells=cs.toArray:=by rfl) (hc:cs.length=c:=by rfl) (h1:zK cs=true:=by rfl) (hz:zero.length=c:=by rfl) (hy:∀ u,WI (t.set d1 u) y v:=by intro u;exact zr):
  WO P tab (⟨some d1,none,.buildSlice 1 c zero [(0,c,x)]⟩::⟨some d2,none,.append c y (.tmp d1)⟩::l) ⟨t,ds,rd⟩ h Q:=by
 have hx:ev t x=w:=hx;refine WO.op (.slice (some ⟨h.n,0,none⟩) 1 c) (h.push (.row cs true 0)) rfl (by
  simp only[WE,zo,Qm,Gf,hx,Y6 hw hc hz,QL];rfl) ?_
 obtain⟨v',H',q1,q2,q3,q4,q5,q6,q7,q8,q9⟩:=Y2 (H:=h.push (.row cs true 0)) (gl:=h.n) o hc hc0 h1 hl hbn d hD hv (GV _) (Q7 _) (fun k hk=>by rw[zN,QC (by omega)]) (zV _ _);have hyv:ev (t.set d1 (.slice (some ⟨h.n,0,none⟩) 1 c)) y=v:=hy _;have e1:ev (t.set d1 (.slice (some ⟨h.n,0,none⟩) 1 c)) (.tmp d1)=.slice (some ⟨h.n,0,none⟩) 1 c:=by simp only[ev,zh,Q2]
 refine WO.op v' H' rfl (by simp only[WE,hyv,e1,q1]) (k v' H' _ ?_ q2 (by rw[q3];show h.n<=h.n+1+1;omega) (fun k hk hvk=> ?_))
 ·have hvb:∀ k,k<hB.n->∀ n k',v≠ .slice (some ⟨k,0,none⟩) n k':=fun k hk n k' e=>by
   rcases o with⟨e2,_⟩|⟨g,_,_,g1,_,e2,_⟩
   ·rw[e2]at e;cases e
   ·rw[e2]at e;cases e;omega
  refine⟨by rw[q3];show hB.n<=h.n+1+1;have:=e0.n;omega,fun k hk=> ?_,fun w=>q8 ?_,q5.trans e0.mark,fun hm=> ?_⟩
  ·have:=e0.n;rw[q4 k (by show k<h.n+1;omega) (hvb k hk),zN,QC (by omega)];exact e0.get k hk
  ·intro k hk;have hk:h.n+1<=k:=hk;rw[zN,QC (by omega)];exact e0.wf w k (by omega)
  ·rw[q7 (by show h.mark<=b;rw[e0.mark];omega)];exact e0.wr hm
 ·rw[q4 k (by show k<h.n+1;omega) hvk,zN,QC (by omega)]
end
section
variable {P:Program}{tab:Wi}{m:Nat}{Bad:Nat->Prop}{l:List (U4×List Nat)}{o:U4}{un:List Nat}{g:Nat}{fr:WF}{h h0 h':U2}{Q:WF->U2->Prop}{K:WB->WF->U2->Prop}{t:U7 Value}{ds:List Deferred}{rd:Option Nat}
theorem zGL{c i n:Nat}{h:U2}{v:Value}{cells:List Value}(a:Wb c h v n cells)(hi:i<n):Wt h v (i*c) ((cells.drop (i*c)).take c):=by
 have hlen:cells.length=n*c:=a.1;have hle:i*c+c<=cells.length:=by
  rw[hlen,<-JC];exact Gc _ hi
 intro P ih t x agg k off r hx hn hr;cases hc:cut ((cells.drop (i*c)).take c) off k with
 |none=>rw[hc]at hr;cases hr
 |some m=>
  rw[hc]at hr;have h1:cut cells (i*c) c=Option.some ((cells.drop (i*c)).take c):=ZE hle;exact zFB a hx (zEC h1 hc) hn hr
theorem yA{α:Type}[Inhabited α]{c:Nat}{R:U2->List Value->α->Prop}{h:U2}{v:Value}{T:List α}{i:Nat}(s:W4 c R h v T)(hi:i<T.length):∃ cs,R h cs (T.getD i default)/\(∀ h',U8 h h'->Wt h' v (i*c) cs/\Wt (inC h') v (i*c) cs)/\zOy v:=by
 have hs:=s.some hi;obtain⟨cells,a,b⟩:=s;refine⟨_,by simpa [List.getD,QB hi]using b i T[i] (QB hi),fun h' e=> ?_,hs⟩;have a':=a.ext e;exact⟨zGL a' hi,zGL (h:=inC h') a' hi⟩
end
section
variable {P:Program}{tab:Wi}{t:U7 Value}{h:U2}{ds:List Deferred}{rd:Option Nat}{l:List U4}{Q:WF->U2->Prop}
theorem Xt{x y:Operand}{p v:Value}{cells cs:List Value}{n:Nat}{h0:U2}(o:U6 h0 h p cells)(e0:U8 h0 h)(k:∀ h',U8 h0 h'->U6 h0 h' p cs->Wc p h h'->(∀ k∈h'.wr,k∈h.wr\/h0.n<=k)->WO P tab l ⟨t,ds,rd⟩ h' Q)
  (hx:WI t x p:=by exact zr) (hy:WI t y v:=by exact zr) (hv:v.cells=cs.toArray:=by rfl) (hn:cs.length=n:=by rfl) (hl:cells.length=n:=by rfl) (h1:zK cs=true:=by rfl):WO P tab (⟨none,none,.store n x y⟩::l) ⟨t,ds,rd⟩ h Q:=by
 obtain⟨g,g1,g2,rfl,g3⟩:=o;have hx:ev t x=.pointer (some ⟨g,0,none⟩):=hx;have hy:ev t y=v:=hy;have e:zd cells 0 cs=cs:=by simp[zd,hn,hl]
 have hst:zg h ⟨g,0,none⟩ cs=some (h.set g (.row cs true 0)):=by
  have h2:Nat.ble (0+cs.length) cells.length=true:=QH (by omega);have h0:Nat.ble 0 0=true:=rfl;simp only[zg,g3,h2,h0,h1,Q1,e];rfl
 have hnn:Nat.beq cs.length n=true:=by rw[hn];exact Ge _
 refine VR undef (h.set g (.row cs true 0)) rfl ?_ (k _ (e0.set g1 g2 _) ⟨g,g1,g2,rfl,by rw[zj,QI rfl]⟩ ⟨QE _,fun k _ hk=> ?_⟩ fun k hk=> ?_)
 ·simp only[WE,hx,hy,hv,Gx,hnn,hst,QL,cond_true]
 ·rw[zj,QC (fun e=>hk (by rw[e]))]
 ·have hk:k∈h.log g:=hk;rcases ZB hk with rfl|h
  ·exact .inr g1
  ·exact .inl h
end
section
variable {P:Program}{tab:Wi}{m N0:Nat}{l:List (U4×List Nat)}{o:U4}{g:Nat}{cl:Bool}{fr:WF}{h h0 h':U2}{Q:WF->U2->Prop}{K:WB->WF->U2->Prop}{x:U4×List Nat}{t:U7 Value}
theorem zVm(hw:∀ k∈h'.wr,m<=k)(hn:h.n<=h'.n)(hx:K .normal fr (yu h0 h')):uK2 P tab m N0 [] t o (inC h) [] g cl (Bq K h0) fr h':=⟨⟨hw,hn,.inl rfl⟩,hx⟩
theorem zOq(hw:∀ k∈h'.wr,m<=k)(hn:h.n<=h'.n)(hx:∀ cl',WU P tab m N0 (x::l) g cl' fr (inC h') Q):uK2 P tab m N0 [] t o (inC h) (x::l) g cl Q fr h':=⟨⟨hw,hn,.inl rfl⟩,by
 have:=hx (cl&&h'.wr.isEmpty);obtain⟨y,un⟩:=x;unfold WU at this |-;exact this⟩
end
section
variable {α:Type}{c b:Nat}{R:U2->List Value->α->Prop}
variable {P:Program}{tab:Wi}{t:U7 Value}{h:U2}{ds:List Deferred}{rd:Option Nat}{l:List U4}{Q:WF->U2->Prop}
end
section
variable {α:Type}[Inhabited α]{c b:Nat}{R:U2->List Value->α->Prop}{h:U2}{v:Value}{xs:List α}
variable {P:Program}{tab:Wi}{t:U7 Value}{ds:List Deferred}{rd:Option Nat}{l:List U4}{Q:WF->U2->Prop}
end
section
variable {P:Program}{tab:Wi}{t:U7 Value}{h:U2}{ds:List Deferred}{rd:Option Nat}{l:List U4}{Q:WF->U2->Prop}
end
section
variable {P:Program}{tab:Wi}{t:U7 Value}{h h0:U2}{ds:List Deferred}{rd:Option Nat}{l:List U4}{Q:WF->U2->Prop}
end
section
variable {P:Program}{tab:Wi}{N0 m g:Nat}{cl:Bool}{t:U7 Value}{ds:List Deferred}{rd:Option Nat}{K:WB->WF->U2->Prop}
theorem XH{hS X:U2}{d n:Nat}{y:Operand}{v:Value}{zero cs:List Value}(eX:U8 (inC (zC 1 hS)) X)(hm:hS.mark<=hS.n)(k:∀ H p,U8 hS H->U6 hS H p cs->K .normal ⟨t.set d p,ds,rd⟩ H)
  (hy:∀ p,WI (t.set d p) y v:=by intro p;exact zr) (hv:v.cells=cs.toArray:=by rfl) (hz:zero.length=n:=by rfl) (hn:cs.length=n:=by rfl) (h1:zK cs=true:=by rfl) (hm0:m=hS.mark:=by rfl) (hg0:g=hS.n:=by rfl):
  WU P tab m N0 [(⟨some d,none,.alloc zero⟩,[]),(⟨none,none,.store n (.tmp d) y⟩,[])] g cl ⟨t,ds,rd⟩ (inC X) (Bq K hS):=by
 subst hm0 hg0;have hlt:hS.n<X.n:=eX.n;refine XD hm hlt ?_ (hy _) hv hz hn h1;have e6:=zIt (o:= .row zero true 0) (o':= .row cs true 0) (k:=0) eX;have o6:=zIb (cs:=cs) (o:= .row zero true 0) eX;exact k _ _ e6 o6
theorem WU.mk{h:U2}{d:Nat}{gd:Option (Nat×Bool)}{op:Wn}{ob:Wd}{f:Nat->Value}{l:List (U4×List Nat)}{Q:WF->U2->Prop}(hm:m<=g)(hmade:ye t op=some (ob,f))(hx:WU P tab m N0 l (g+1) false ⟨t.set d (f g),ds,rd⟩ ((inC h).lay g ob) Q)(hk:Nat.beq (zE op) 3=true:=by rfl)(hw:zP t gd=true:=by rfl):
  WU P tab m N0 ((⟨some d,gd,op⟩,[])::l) g cl ⟨t,ds,rd⟩ (inC h) Q:=by
 rw[WU,QI hk];exact⟨rfl,.inl ⟨hw,hm,ob,f,hmade,hx⟩⟩
theorem WU.no{h:U2}{d j:Nat}{b want:Bool}{op:Wn}{l:List (U4×List Nat)}{Q:WF->U2->Prop}(hx:WU P tab m N0 l (g+1) cl ⟨t.set d undef,ds,rd⟩ (inC h) Q)(hk:Nat.beq (zE op) 3=true:=by rfl)(s:Wj t j (.bool b):=by exact Yl)(hb:(b == want)=false:=by rfl):
  WU P tab m N0 ((⟨some d,some (j,want),op⟩,[])::l) g cl ⟨t,ds,rd⟩ (inC h) Q:=by
 rw[WU,QI hk];have s:zB t j=.bool b:=s;exact⟨rfl,.inr ⟨by simp only[zP,s,hb],hx⟩⟩
theorem zLW{j:Nat}{b want:Bool}(s:Wj t j (.bool b))(hb:(b == want)=true):zP t (some (j,want))=true:=by
 have s:zB t j=.bool b:=s;simp only[zP,s,hb]
theorem WU.inC{h:U2}{fr:WF}{x:U4×List Nat}{l:List (U4×List Nat)}{Q:WF->U2->Prop}(hx:WU P tab m N0 (x::l) g cl fr (Am.inC h) Q):WU P tab m N0 (x::l) g cl fr h Q:=by
 obtain⟨o,un⟩:=x;unfold WU at hx |-;exact hx
theorem zSf(h:U2)(g:Nat)(o:Wd)(j:Nat):((Am.inC h).lay g o).get j=if j=g then some o else h.get j:=zQ _ _ _ _
theorem XI{X:U2}{d:Nat}{gd:Option (Nat×Bool)}{op:Wn}{ob:Wd}{f:Nat->Value}{x:U4×List Nat}{l:List (U4×List Nat)}{Q:WF->U2->Prop}(hm:m<=g)(hmade:ye t op=some (ob,f))
  (k:∀ X',X'.n=X.n->(∀ j,X'.get j=if j=g then some ob else X.get j)->WU P tab m N0 (x::l) (g+1) false ⟨t.set d (f g),ds,rd⟩ (Am.inC X') Q) (hk:Nat.beq (zE op) 3=true) (hw:zP t gd=true:=by rfl):WU P tab m N0 ((⟨some d,gd,op⟩,[])::x::l) g cl ⟨t,ds,rd⟩ (Am.inC X) Q:=
 WU.mk hm hmade (WU.inC (k _ rfl fun j=>zSf X g ob j)) hk hw
theorem Vg{X:U2}{d n:Nat}{gd:Option (Nat×Bool)}{zero:List Value}{parts:List (Nat×Nat×Operand)}{vs:List (Nat×Nat×Value)}{x:U4×List Nat}{l:List (U4×List Nat)}{Q:WF->U2->Prop}(xs:List Int)(hm:m<=g)
  (k:∀ X',X'.n=X.n->(∀ j,X'.get j=if j=g then some (.row (xs.map I) true 0)else X.get j)->WU P tab m N0 (x::l) (g+1) false ⟨t.set d (.slice (some ⟨g,0,none⟩) xs.length 1),ds,rd⟩ (Am.inC X') Q)
  (hp:Wz t parts vs:=by(repeat (apply Wz.cons;(exact zM)));exact Wz.nil) (hn:xs.length=n:=by rfl) (hf:y8 (zY zero n) vs=some (xs.map I):=by rfl) (hw:zP t gd=true:=by first|rfl|exact zLW Yl rfl):
  WU P tab m N0 ((⟨some d,gd,.buildSlice n 1 zero parts⟩,[])::x::l) g cl ⟨t,ds,rd⟩ (Am.inC X) Q:=by
 subst hn;have hp:zo t parts=vs:=hp;exact XI (f:=fun g=> .slice (some ⟨g,0,none⟩) xs.length 1) hm (by simp only[ye,hp,hf,QL]) k rfl hw
theorem Xw{X:U2}{d:Nat}{x:Operand}{v:Value}{cs:List Value}{o:U4×List Nat}{l:List (U4×List Nat)}{Q:WF->U2->Prop}(hm:m<=g)
  (k:∀ X',X'.n=X.n->(∀ j,X'.get j=if j=g then some (.row cs true 0)else X.get j)->WU P tab m N0 (o::l) (g+1) false ⟨t.set d (.pointer (some ⟨g,0,none⟩)),ds,rd⟩ (Am.inC X') Q) (hx:WI t x v:=by exact zr) (hv:v.cells.toList=cs:=by rfl):
  WU P tab m N0 ((⟨some d,none,.box x⟩,[])::o::l) g cl ⟨t,ds,rd⟩ (Am.inC X) Q:=by
 have hx:ev t x=v:=hx;subst hv;exact XI (f:=fun g=> .pointer (some ⟨g,0,none⟩)) hm (by simp only[ye,hx]) k rfl
end
theorem zFk{h:U2}{q off:Nat}{row cs:List Value}(hq:h.get q=some (.row row true 0))(hl:off+cs.length<=row.length)(h1:zK cs=true):zg h ⟨q,off,none⟩ cs=some (h.set q (.row (zd row off cs) true 0)):=by
 have h2:Nat.ble (off+cs.length) row.length=true:=QH hl;have h3:Nat.ble 0 off=true:=QH (QT _);simp only[zg,hq,h2,h3,h1,Qz,Q1,cond_true]
section
variable {P:Program}{tab:Wi}{t:U7 Value}{ds:List Deferred}{rd:Option Nat}
variable {m N0 g:Nat}{cl:Bool}{K:WB->WF->U2->Prop}{hS X:U2}{q off n:Nat}{row cs:List Value}{x y:Operand}{u:Value}
theorem Xk{h:U2}{Q:WF->U2->Prop}{l:List U4}(hq:h.get q=some (.row row true 0))(hl:off+cs.length<=row.length)(hx:WI t x (.pointer (some ⟨q,off,none⟩)))(hy:WI t y u)(hu:u.cells=cs.toArray)(hn:cs.length=n)(h1:zK cs=true)
  (k:WO P tab l ⟨t,ds,rd⟩ (h.set q (.row (zd row off cs) true 0)) Q):WO P tab (⟨none,none,.store n x y⟩::l) ⟨t,ds,rd⟩ h Q:=by
 have hx:ev t x=_:=hx;have hy:ev t y=u:=hy;have hnn:Nat.beq cs.length n=true:=by rw[hn];exact Ge _
 exact VR undef _ rfl (by simp only[WE,hx,hy,hu,Gx,hnn,zFk hq hl h1,QL,cond_true]) k
theorem zNG{h:U2}{q m:Nat}(hm:m<=q)(hw:h.wr=[]):∀ k∈(h.log q),m<=k:=fun k hk=>by
 rcases ZB hk with rfl|h2
 ·exact hm
 ·rw[hw]at h2;cases h2
theorem Ue{o:U4×List Nat}{l:List (U4×List Nat)}{Q:WF->U2->Prop}(hq:X.get q=some (.row row true 0))(hm:m<=q)(k:∀ X',X'.n=X.n->(∀ j,j≠q->X'.get j=X.get j)->X'.get q=some (.row (zd row off cs) true 0)->(Wf X->Wf X')->∀ cl',WU P tab m N0 (o::l) g cl' ⟨t,ds,rd⟩ (Am.inC X') Q)
  (hl:off+cs.length<=row.length) (hx:WI t x (.pointer (some ⟨q,off,none⟩)):=by exact zr) (hy:WI t y u:=by exact zr) (hu:u.cells=cs.toArray:=by rfl) (hn:cs.length=n:=by rfl) (h1:zK cs=true:=by rfl):
  WU P tab m N0 ((⟨none,none,.store n x y⟩,[])::o::l) g cl ⟨t,ds,rd⟩ (Am.inC X) Q:=by
 refine WU.q rfl ?_;refine Xk hq hl hx hy hu hn h1 ?_;refine WO.nil (zOq (zNG hm rfl) (QE _) fun cl'=>k ((Am.inC X).set q (.row (zd row off cs) true 0)) rfl (fun j hj=> ?_) ?_ (fun w j hj=> ?_) cl')
 ·exact(zj _ _ _ _).trans (QC hj)
 ·exact(zj _ _ _ _).trans (QI rfl)
 ·have hj:X.n<=j:=hj;by_cases e:j=q
  ·subst e;have:=w.lt hq;omega
  ·exact(zj _ _ _ _).trans ((QC e).trans (w j hj))
theorem UX(hq:X.get q=some (.row row true 0))(hm:m<=q)(k:∀ H,H.n=X.n->(∀ j,j≠q->H.get j=X.get j)->H.get q=some (.row (zd row off cs) true 0)->(Wf X->Wf H)->H.mark=hS.mark->H.wr=hS.wr->K .normal ⟨t,ds,rd⟩ H)
  (hl:off+cs.length<=row.length) (hx:WI t x (.pointer (some ⟨q,off,none⟩)):=by exact zr) (hy:WI t y u:=by exact zr) (hu:u.cells=cs.toArray:=by rfl) (hn:cs.length=n:=by rfl) (h1:zK cs=true:=by rfl):
  WU P tab m N0 [(⟨none,none,.store n x y⟩,[])] g cl ⟨t,ds,rd⟩ (Am.inC X) (Bq K hS):=by
 refine WU.q rfl ?_;refine Xk hq hl hx hy hu hn h1 ?_;refine WO.nil (zVm (zNG hm rfl) (QE _) (k _ rfl (fun j hj=> ?_) ?_ (fun w j hj=> ?_) rfl rfl))
 ·exact(zj _ _ _ _).trans (QC hj)
 ·exact(zj _ _ _ _).trans (QI rfl)
 ·have hj:X.n<=j:=hj;by_cases e:j=q
  ·subst e;have:=w.lt hq;omega
  ·exact(zj _ _ _ _).trans ((QC e).trans (w j hj))
theorem XE{o:U4×List Nat}{l:List (U4×List Nat)}{Q:WF->U2->Prop}{hB:U2}{p:Value}{cells:List Value}{j:Nat}(oc:U6 hB X p cells)(hm:m<=hB.n)(k:∀ X',X'.n=X.n->(∀ j,p≠ .pointer (some ⟨j,0,none⟩)->X'.get j=X.get j)->U6 hB X' p (zd cells j cs)->(Wf X->Wf X')->∀ cl',WU P tab m N0 (o::l) g cl' ⟨t,ds,rd⟩ (Am.inC X') Q)
  (hl:j+cs.length<=cells.length:=by decide) (hx:WI t x (yC p j):=by exact zr) (hy:WI t y u:=by exact zr) (hu:u.cells=cs.toArray:=by rfl) (hn:cs.length=n:=by rfl) (h1:zK cs=true:=by rfl):
  WU P tab m N0 ((⟨none,none,.store n x y⟩,[])::o::l) g cl ⟨t,ds,rd⟩ (Am.inC X) Q:=by
 obtain⟨q,q1,q2,rfl,q3⟩:=oc;rw[show yC (.pointer (some ⟨q,0,none⟩)) j=.pointer (some ⟨q,j,none⟩) by show Value.pointer (some ⟨q,0+j,none⟩)=_;rw[Q6]]at hx;exact Ue q3 (QO hm q1) (fun X' n1 k1 g1 w1=>k X' n1 (fun j hj=>k1 j fun e=>hj (by rw[e])) ⟨q,q1,n1▸q2,rfl,g1⟩ w1) hl hx hy hu hn h1
theorem XG{hB:U2}{p:Value}{cells:List Value}{j:Nat}(oc:U6 hB X p cells)(hm:m<=hB.n)(k:∀ H,H.n=X.n->(∀ j,p≠ .pointer (some ⟨j,0,none⟩)->H.get j=X.get j)->U6 hB H p (zd cells j cs)->(Wf X->Wf H)->H.mark=hS.mark->H.wr=hS.wr->K .normal ⟨t,ds,rd⟩ H)
  (hl:j+cs.length<=cells.length:=by decide) (hx:WI t x (yC p j):=by exact zr) (hy:WI t y u:=by exact zr) (hu:u.cells=cs.toArray:=by rfl) (hn:cs.length=n:=by rfl) (h1:zK cs=true:=by rfl):
  WU P tab m N0 [(⟨none,none,.store n x y⟩,[])] g cl ⟨t,ds,rd⟩ (Am.inC X) (Bq K hS):=by
 obtain⟨q,q1,q2,rfl,q3⟩:=oc;rw[show yC (.pointer (some ⟨q,0,none⟩)) j=.pointer (some ⟨q,j,none⟩) by show Value.pointer (some ⟨q,0+j,none⟩)=_;rw[Q6]]at hx;exact UX q3 (QO hm q1) (fun X' n1 k1 g1 w1=>k X' n1 (fun j hj=>k1 j fun e=>hj (by rw[e])) ⟨q,q1,n1▸q2,rfl,g1⟩ w1) hl hx hy hu hn h1
section
variable {α:Type}[Inhabited α]{R:U2->List Value->α->Prop}{c b i:Nat}{v:Value}{xs:List α}{a:α}
end
theorem zIg{c g off len n:Nat}(hn:n<=len):ZZ c (.slice (some ⟨g,off,none⟩) len c) (some n) none none=some (.slice (some ⟨g,off+n*c,none⟩) (len-n) c):=by
 have b1:Nat.ble n len=true:=QH hn;have b2:Nat.ble len len=true:=QH (QE _);simp only[ZZ,Gm,GC,b1,b2,Qz,Q1,cond_true,Ge]
theorem Uo{h:U2}{Q:WF->U2->Prop}{l:List U4}{d c n:Nat}{zero:List Value}(hr:n<=100000)(k:∀ h',U8 h h'->h'.n=h.n+1->h'.get h.n=some (.row (zY zero n) true 0)->WO P tab l ⟨t.set d (.slice (some ⟨h.n,0,none⟩) n c),ds,rd⟩ h' Q)
  (hx:WI t x (I (n:Int)):=by exact zr) (hy:WI t y (I (n:Int)):=by exact zr):WO P tab (⟨some d,none,.mkSlice c zero x y⟩::l) ⟨t,ds,rd⟩ h Q:=by
 have h1:Nat.ble n room=true:=QH (by have:room=4294967296:=rfl;omega);have h2:Nat.ble n n=true:=QH (QE _);have hx:ev t x=I (n:Int):=hx;have hy:ev t y=I (n:Int):=hy;have hn:W9 (I (n:Int))=some n:=rfl;exact WO.op _ _ rfl (by simp only[WE,hx,hy,hn,h1,h2,Q1,cond_true]<;>rfl) (k _ (Zg _ _) rfl (zV _ _))
end
section
variable {P:Program}{tab:Wi}{t:U7 Value}{ds:List Deferred}{rd:Option Nat}
variable {q off n:Nat}{row:List Value}{x y:Operand}
theorem Xd{h:U2}{Q:WF->U2->Prop}{l:List U4}{d c k m:Nat}{w:Value}{ys:List Value}(hq:h.get q=some (.row row true 0))(s:Wb c h w k ys)(hc:0<c)(hk:min k n=m)(hl:off+m*c<=row.length)(h1:zK ys=true)
  (hX:∀ h',h'.n=h.n->(∀ j,j≠q->h'.get j=h.get j)->h'.get q=some (.row (zd row off (ys.take (m*c))) true 0)->(Wf h->Wf h')->h'.mark=h.mark->(h.mark<=q->h'.wr=h.wr)->(∀ j∈h'.wr,j=q\/j∈h.wr)->WO P tab l ⟨t.set d (I m),ds,rd⟩ h' Q)
  (hx:WI t x (.slice (some ⟨q,off,none⟩) n c):=by exact zr) (hy:WI t y w:=by exact zr):WO P tab (⟨some d,none,.copy c x y⟩::l) ⟨t,ds,rd⟩ h Q:=by
 have hx:ev t x=_:=hx;have hy:ev t y=_:=hy;have hs:=Z7 s;have hlen:ys.length / c=k:=by rw[s.1];exact Nat.mul_div_cancel _ hc
 have hmin:min (ys.length / c) n=m:=by rw[hlen];exact hk
 have hml:(ys.take (m*c)).length=m*c:=by
  rw[Q8,s.1];have:m*c<=k*c:=Gc _ (by omega);omega
 by_cases h0:m=0
 ·subst h0;refine WO.op (I (0:Nat)) h rfl ?_ (hX h rfl (fun _ _=>rfl) ?_ id rfl (fun _=>rfl) fun j hj=> .inr hj)
  ·simp only[WE,hx,hy,hs,hmin];rfl
  ·rw[hq];simp[zd]
 ·have hb:Nat.beq m 0=false:=by cases hb:Nat.beq m 0 with
   |false=>rfl
   |true=>exact absurd (QJ hb) h0
  have h2:zK (ys.take (m*c))=true:=by
   unfold zK at *;rw[QX]at *;exact fun a ha=>h1 a (GF ha)
  refine WO.op (I m) (h.set q (.row (zd row off (ys.take (m*c))) true 0)) rfl ?_ (hX _ rfl (fun j hj=>by rw[zj,QC hj]) (by rw[zj,QI rfl]) (fun wf j hj=> ?_) rfl (fun hm=>zAE hm) fun j hj=>ZB hj)
  ·simp only[WE,hx,hy,hs,hmin,hb,QR,Ge,Qz,Q1,cond_true,zFk hq (by rw[hml];exact hl) h2,QL]
  ·have hj:h.n<=j:=hj;by_cases e:j=q
   ·subst e;have:=wf.lt hq;omega
   ·rw[zj,QC e];exact wf j hj
theorem zQA{h h0:U2}{v w:Value}{xs ys:List Int}(o:WJ h0 h v xs)(s:WM h w ys)(e0:U8 h0 h)(hne:ys≠[])(hr:xs.length+ys.length<=4294967296):
  ∃ v' h',yW 1 v w h=some (v',h')/\U8 h0 h'/\We h h' v' (xs++ys)/\BN v h h':=by
 have hsrc:=Z7 s;have hroom:room=4294967296:=rfl;obtain⟨z,zs,rfl⟩:∃ z zs,ys=z::zs:=by
  cases ys with
  |nil=>exact absurd rfl hne
  |cons z zs=>exact⟨z,zs,rfl⟩
 have hone:zK (I z::zs.map I)=true:=zCI (z::zs);have hlen:(I z::zs.map I).length / 1=(z::zs).length:=by simp
 rcases o with⟨rfl,rfl⟩|⟨g,g1,g2,rfl,g3⟩
 ·have h1:Nat.ble (z::zs).length room=true:=QH (by rw[hroom];simpa using hr);refine⟨.slice (some ⟨h.n,0,none⟩) (z::zs).length 1,h.push (.row ((z::zs).map I) true 0),?_,e0.push _,⟨h.n,QE _,by simp[U2.push],rfl,zV _ _⟩,⟨GV _,fun k hk _=> ?_⟩⟩
  ·simp only[yW,hsrc,Qm,hone,hlen,h1,QY,cond_true,QR];rfl
  ·rw[zN,QC (by omega)]
 ·have h1:Nat.ble (xs.length+(z::zs).length) room=true:=QH (by rw[hroom];exact hr);have h2:cut (xs.map I) 0 (xs.length*1)=some (xs.map I):=by rw[ZE (by simp)];simp[Qw]
  have hn:(h.kill g).n=h.n:=rfl;have h3:Nat.ble 0 (0+xs.length*1)=true:=QH (QT _);refine⟨.slice (some ⟨h.n,0,none⟩) (xs.length+(z::zs).length) 1,(h.kill g).push (.row (xs.map I++(z::zs).map I) true (0-0)),?_,(e0.kill g1).push _,⟨h.n,QE _,by simp[U2.push,U2.kill],by simp,?_⟩,⟨GV _,fun k hk hv=> ?_⟩⟩
  ·simp only[yW,hsrc,Qm,hone,hlen,h1,g3,h2,h3,QY,cond_true,QR];rfl
  ·have:=zV (h.kill g) (.row (xs.map I++(z::zs).map I) true (0-0));rw[hn]at this;rw[this];simp
  ·rw[zN,QC (by rw[hn];omega),yk,QC (fun e=>hv _ _ _ rfl e.symm)]
theorem Vo{h h0:U2}{Q:WF->U2->Prop}{l:List U4}{d:Nat}{v w:Value}{xs ys:List Int}(o:WJ h0 h v xs)(s:WM h w ys)(e0:U8 h0 h)(hne:ys≠[])(hr:xs.length+ys.length<=4294967296)(k:∀ v' h',U8 h0 h'->We h h' v' (xs++ys)->BN v h h'->WO P tab l ⟨t.set d v',ds,rd⟩ h' Q)
  (hx:WI t x v:=by exact zr) (hy:WI t y w:=by exact zr):WO P tab (⟨some d,none,.append 1 x y⟩::l) ⟨t,ds,rd⟩ h Q:=by
 have hx:ev t x=v:=hx;have hy:ev t y=w:=hy;obtain⟨v',h',a,b,c,u⟩:=zQA o s e0 hne hr;exact WO.op v' h' rfl (by simp only[WE,hx,hy,a]) (k v' h' b c u)
theorem UI{α:Type}{c b d1 d2:Nat}{R:U2->List Value->α->Prop}{h hB:U2}{Q:WF->U2->Prop}{l:List U4}{v w:Value}{xs:List α}{cs zero:List Value}(a:α)(Dn:Nat->Prop)(o:WR c R b h v xs)(e0:U8 hB h)(hb:hB.n<=b)(hbn:b<=h.n)(hc0:0<c)(hl:xs.length<=100000)
  (d:Bm R h cs a Dn) (hD:∀ k,Dn k->b<=k/\k<h.n) (hv:∀ g n k,v=.slice (some ⟨g,0,none⟩) n k->¬Dn g)
  (k:∀ v' h' lit,U8 hB h'->WR c R b h' v' (xs++[a])->h.n<=h'.n->(∀ k,k<h.n->(∀ n k',v≠ .slice (some ⟨k,0,none⟩) n k')->h'.get k=h.get k)->(∃ n k g,v'=.slice (some ⟨g,0,none⟩) n k/\h.n<=g)->WO P tab l ⟨(t.set d1 lit).set d2 v',ds,rd⟩ h' Q)
  (hx:WI t x w:=by exact zr) (hw:w.cells=cs.toArray:=by rfl) (hc:cs.length=c:=by rfl) (h1:zK cs=true:=by rfl) (hz:zero.length=c:=by rfl) (hy:∀ u,WI (t.set d1 u) y v:=by intro u;exact zr):
  WO P tab (⟨some d1,none,.buildSlice 1 c zero [(0,c,x)]⟩::⟨some d2,none,.append c y (.tmp d1)⟩::l) ⟨t,ds,rd⟩ h Q:=by
 have hx:ev t x=w:=hx;refine WO.op (.slice (some ⟨h.n,0,none⟩) 1 c) (h.push (.row cs true 0)) rfl (by
  simp only[WE,zo,Qm,Gf,hx,Y6 hw hc hz,QL];rfl) ?_
 obtain⟨v',H',q1,q2,q3,q4,q5,q6,q7,q8,q9⟩:=Y2 (H:=h.push (.row cs true 0)) (gl:=h.n) o hc hc0 h1 hl hbn d hD hv (GV _) (Q7 _) (fun k hk=>by rw[zN,QC (by omega)]) (zV _ _);have hyv:ev (t.set d1 (.slice (some ⟨h.n,0,none⟩) 1 c)) y=v:=hy _;have e1:ev (t.set d1 (.slice (some ⟨h.n,0,none⟩) 1 c)) (.tmp d1)=.slice (some ⟨h.n,0,none⟩) 1 c:=by simp only[ev,zh,Q2]
 refine WO.op v' H' rfl (by simp only[WE,hyv,e1,q1]) (k v' H' _ ?_ q2 (by rw[q3];show h.n<=h.n+1+1;omega) (fun k hk hvk=> ?_) (let⟨n,k,g,e,hg⟩:=q9;⟨n,k,g,e,QO (GV _) hg⟩))
 ·have hvb:∀ k,k<hB.n->∀ n k',v≠ .slice (some ⟨k,0,none⟩) n k':=fun k hk n k' e=>by
   rcases o with⟨e2,_⟩|⟨g,_,_,g1,_,e2,_⟩
   ·rw[e2]at e;cases e
   ·rw[e2]at e;cases e;omega
  refine⟨by rw[q3];show hB.n<=h.n+1+1;have:=e0.n;omega,fun k hk=> ?_,fun w=>q8 ?_,q5.trans e0.mark,fun hm=> ?_⟩
  ·have:=e0.n;rw[q4 k (by show k<h.n+1;omega) (hvb k hk),zN,QC (by omega)];exact e0.get k hk
  ·intro k hk;have hk:h.n+1<=k:=hk;rw[zN,QC (by omega)];exact e0.wf w k (by omega)
  ·rw[q7 (by show h.mark<=b;rw[e0.mark];omega)];exact e0.wr hm
 ·rw[q4 k (by show k<h.n+1;omega) hvk,zN,QC (by omega)]
end
def Bi:Value->Option Nat
 | .slice (some a) _ _=>some a.block
 | .pointer (some a)=>some a.block
 |_=>none
def WK(v w:Value):Prop:=∀ b,Bi v=some b->Bi w≠some b
theorem WK.symm{v w:Value}(o:WK v w):WK w v:=fun b h k=>o b k h
def UpB(v:Value)(h h':U2):Prop:=h.n<=h'.n/\∀ g,g<h.n->Bi v≠some g->h'.get g=h.get g
theorem BN.upB{v:Value}{h h':U2}(u:BN v h h'):UpB v h h':=⟨u.1,fun g hg hv=>u.2 g hg fun a n c e he=>hv (by rw[e,<-he];rfl)⟩
theorem Wc.upB{v:Value}{h h':U2}(u:Wc v h h'):UpB v h h':=⟨u.1,fun g hg hv=>u.2 g hg fun e=>hv (by rw[e];rfl)⟩
theorem zRq{v:Value}{h h':U2}(hn:h.n<=h'.n)(u:∀ k,k<h.n->(∀ n k',v≠ .slice (some ⟨k,0,none⟩) n k')->h'.get k=h.get k):UpB v h h':=⟨hn,fun g hg hv=>u g hg fun n k e=>hv (by rw[e];rfl)⟩
def zAo(h:U2)(v:Value):Prop:=∀ b,Bi v=some b->h.n<=b
def zGS(h:U2)(v:Value):Prop:=∀ b,Bi v=some b->b<h.n
theorem VF{h:U2}{v w:Value}(a:zAo h v)(b:zGS h w):WK v w:=fun k hk hw=>by have:=a k hk;have:=b k hw;omega
section
variable {hB h h':U2}{v w p:Value}{l:List Int}{cs:List Value}
theorem WJ.within(o:WJ hB h w l):zGS h w:=fun b hb=>by
 rcases o with⟨rfl,_⟩|⟨g,_,g2,rfl,_⟩
 ·cases hb
 ·cases hb;exact g2
theorem WJ.since'(o:WJ hB h w l):zAo hB w:=fun b hb=>by
 rcases o with⟨rfl,_⟩|⟨g,g1,_,rfl,_⟩
 ·cases hb
 ·cases hb;exact g1
theorem U6.within(o:U6 hB h p cs):zGS h p:=fun b hb=>by obtain⟨g,_,g2,rfl,_⟩:=o;cases hb;exact g2
theorem U6.since'(o:U6 hB h p cs):zAo hB p:=fun b hb=>by obtain⟨g,g1,_,rfl,_⟩:=o;cases hb;exact g1
theorem WJ.upB(o:WJ hB h w l)(u:UpB v h h')(d:WK v w):WJ hB h' w l:=by
 rcases o with o|⟨g,g1,g2,rfl,g3⟩
 ·exact .inl o
 ·exact .inr ⟨g,g1,QG g2 u.1,rfl,(u.2 g g2 fun e=>d _ e rfl).trans g3⟩
theorem U6.upB(o:U6 hB h p cs)(u:UpB v h h')(d:WK v p):U6 hB h' p cs:=by
 obtain⟨g,g1,g2,rfl,g3⟩:=o;exact⟨g,g1,QG g2 u.1,rfl,(u.2 g g2 fun e=>d _ e rfl).trans g3⟩
section
variable {α:Type}{c b:Nat}{R:U2->List Value->α->Prop}{xs:List α}
theorem WR.within(o:WR c R b h w xs):zGS h w:=fun b hb=>by
 rcases o with⟨rfl,_⟩|⟨g,_,_,_,g2,rfl,_⟩
 ·cases hb
 ·cases hb;exact g2
theorem WR.upB(hi:∀ h h' cs a,R h cs a->R h' cs a)(o:WR c R b h w xs)(u:UpB v h h')(d:WK v w):WR c R b h' w xs:=by
 rcases o with o|⟨g,cells,D,g1,g2,rfl,g3,g4,_,_,g7⟩
 ·exact .inl o
 ·exact .inr ⟨g,cells,fun _=>False,g1,QG g2 u.1,rfl,(u.2 g g2 fun e=>d _ e rfl).trans g3,g4,id,fun _ h=>h.elim,fun i a ha hx _ _=>hi _ _ _ _ (g7 i a ha).self⟩
end
theorem Yi{P:Program}{tab:Wi}{t:U7 Value}{m N0 n g j:Nat}{un:List Nat}{d:Option Nat}{gd:Option (Nat×Bool)}{agg:Bool}{x:Operand}{p:Value}{cs:List Value}{h0 hs h:U2}{l:List (U4×List Nat)}{fr:WF}{Q:WF->U2->Prop}(o:U6 h0 hs p cs)(hN:hs.n<=N0)(hx:WU P tab m N0 l g true fr (inC h) Q)
  (hr:WI t x (yC p j):=by exact zr):uK2 P tab m N0 un t ⟨d,gd,.load agg n x⟩ (inC h) l g true Q fr (inC h):=by
 refine zIF (fun k hk=> ?_) hx;obtain⟨q,q1,q2,rfl,q3⟩:=o;have hr:ev t x=_:=hr;unfold yC at hr;cases hw:zP t gd with
 |false=>simp only[zZ,hw,QR]at hk;cases hk
 |true=>
  simp only[zZ,hw,cond_true,hr,QA]at hk;omega
theorem UZ{P:Program}{tab:Wi}{t:U7 Value}{ds:List Deferred}{rd:Option Nat}{Q:WF->U2->Prop}{l:List U4}{d c:Nat}{zero cs:List Value}{x:Operand}{w:Value}
  (k:∀ h',U8 h h'->h'.n=h.n+1->Wb c h' (.slice (some ⟨h.n,0,none⟩) 1 c) 1 cs->h'.get h.n=some (.row cs true 0)->WO P tab l ⟨t.set d (.slice (some ⟨h.n,0,none⟩) 1 c),ds,rd⟩ h' Q)
  (hx:WI t x w:=by exact zr) (hw:w.cells=cs.toArray:=by rfl) (hc:cs.length=c:=by rfl) (hz:zero.length=c:=by rfl):WO P tab (⟨some d,none,.buildSlice 1 c zero [(0,c,x)]⟩::l) ⟨t,ds,rd⟩ h Q:=by
 have hx:ev t x=w:=hx;refine WO.op (.slice (some ⟨h.n,0,none⟩) 1 c) (h.push (.row cs true 0)) rfl (by
  simp only[WE,zo,Qm,Gf,hx,Y6 hw hc hz,QL];rfl) (k _ (Zg _ _) rfl (Wb.own (Q7 _) (zV _ _) (by rw[hc,Nat.one_mul])) (zV _ _))
end
section
variable {P:Program}{tab:Wi}{t:U7 Value}{h:U2}{ds:List Deferred}{rd:Option Nat}{l:List U4}{Q:WF->U2->Prop}
theorem V8{α:Type}{c b d1 d2 d0 d3 s j m N0:Nat}{cl:Bool}{R:U2->List Value->α->Prop}{hB hS X:U2}{p v w:Value}{xs:List α}{cs zero cells:List Value}(a:α)(Dn:Nat->Prop){x y:Operand}{K:WB->WF->U2->Prop}
  (eX:U8 (Am.inC (zC 1 hS)) X) (o:WR c R b hS v xs) (e0:U8 hB hS) (hm:hS.mark<=hB.n) (hb:hB.n<=b) (hbn:b<=hS.n) (hc0:0<c) (hl:xs.length<=100000) (op:U6 hB hS p cells) (hpb:∀ g,p=.pointer (some ⟨g,0,none⟩)->g<b)
  (d:Bm R X cs a Dn) (hD:∀ k,Dn k->b<=k/\k<X.n) (hv:∀ g n k,v=.slice (some ⟨g,0,none⟩) n k->¬Dn g) (hDs:¬Dn hS.n) (hj:j<cells.length) (hcl:zK cells=true)
  (k:∀ H v' t',zCV [d1,d2,d0,d3] t t'->U8 hB H->U6 hB H p (cells.set j v')->zK (cells.set j v')=true->WR c R b H v' (xs++[a])->zAo hS v'->(∀ k,k<hS.n->p≠ .pointer (some ⟨k,0,none⟩)->(∀ n k',v≠ .slice (some ⟨k,0,none⟩) n k')->H.get k=hS.get k)->hS.n<=H.n->K .normal ⟨t',ds,rd⟩ H)
  (hx:WI t x w:=by exact zr) (hw:w.cells=cs.toArray:=by rfl) (hc:cs.length=c:=by rfl) (h1:zK cs=true:=by rfl) (hz:zero.length=c:=by rfl) (hy:∀ u,WI (t.set d1 u) y v:=by intro u;exact zr) (hs:∀ u u',WI ((t.set d1 u).set d2 u') (.tmp s) p:=by intro u u';exact zr) (h32:Nat.beq d2 d3=false:=by rfl) (h20:Nat.beq d2 d0=false:=by rfl) (hm0:m=hS.mark:=by rfl):
  WU P tab m N0 [(⟨some d1,none,.buildSlice 1 c zero [(0,c,x)]⟩,[]),(⟨some d2,none,.append c y (.tmp d1)⟩,[]),(⟨some d0,none,.nilCheck (.tmp s)⟩,[]),(⟨some d3,none,.fld j (.tmp d0)⟩,[]),(⟨none,none,.store 1 (.tmp d3) (.tmp d2)⟩,[])] hS.n cl ⟨t,ds,rd⟩ (Am.inC X) (Bq K hS):=by
 subst hm0;have hx:ev t x=w:=hx;have hnX:hS.n+1<=X.n:=eX.n;obtain⟨gp,gp1,gp2,hp,gp3⟩:=op;have hgpb:=hpb gp hp;rw[WU,QI (show Nat.beq (zE (Wn.buildSlice 1 c zero [(0,c,x)])) 3=true from rfl)];refine⟨rfl,.inl ⟨rfl,by have:=e0.n;omega,.row cs true 0,_,by simp only[ye,zo,Qm,Gf,hx,Y6 hw hc hz,QL];rfl,?_⟩⟩;generalize hH1:(Am.inC (Am.inC X)).lay hS.n (.row cs true 0)=H1;have n1:H1.n=X.n:=by rw[<-hH1];rfl
 have get1:∀ c',H1.get c'=if c'=hS.n then some (.row cs true 0)else X.get c':=fun c'=>by rw[<-hH1];exact zQ _ _ _ _
 have getX:∀ k,k<hS.n->X.get k=hS.get k:=fun k hk=>eX.get k (by show k<hS.n+1;omega);have oX:WR c R b X v xs:=o.upd (fun k _ hk=>getX k hk) (by omega);have oX1:WR c R b (Am.inC H1) v xs:=by
  rcases o with o|⟨g,cl',D,g1,g2,g3,g4,g5,g6,g7,g8⟩
  ·exact .inl o
  ·refine .inr ⟨g,cl',D,g1,by show g<H1.n;omega,g3,?_,g5,g6,fun k hd=>⟨(g7 k hd).1,by have:=(g7 k hd).2;show k<H1.n;omega⟩,fun i a ha=>(g8 i a ha).mono (fun _ h=>h) (fun k o hd e=> ?_) (by show hS.n<=H1.n;omega)⟩
   ·show H1.get g=_;rw[get1,QC (by omega),getX g g2];exact g4
   ·have:=(g7 k hd).2;show H1.get k=_;rw[get1,QC (by omega),getX k this];exact e
 have d1':Bm R (Am.inC H1) cs a Dn:=d.mono (fun _ h=>h) (fun k o hd e=>by
  show H1.get k=_;rw[get1,QC (fun e2:k=hS.n=>by subst e2;exact hDs hd)];exact e) (by show X.n<=H1.n;omega)
 obtain⟨v',H2,q1,q2,q3,q4,q5,q6,q7,q8,n',k',g',q9,q10⟩:=Y2 (H:=Am.inC H1) (gl:=hS.n) oX1 hc hc0 h1 hl (by show b<=H1.n;omega) d1' (fun k hd=>⟨(hD k hd).1,by have:=(hD k hd).2;show k<H1.n;omega⟩) hv (QE _) (by show hS.n<H1.n;omega) (fun _ _=>rfl) (by show H1.get hS.n=_;rw[get1,QI rfl]);rw[WU,QC (show ¬Nat.beq (zE (Wn.append c y (.tmp d1))) 3=true from Bool.noConfusion)];have hyv:ev (t.set d1 (.slice (some ⟨hS.n,0,none⟩) 1 c)) y=v:=hy _;have e1:ev (t.set d1 (.slice (some ⟨hS.n,0,none⟩) 1 c)) (.tmp d1)=.slice (some ⟨hS.n,0,none⟩) 1 c:=by simp only[ev,zh,Q2]
 refine WO.op v' H2 rfl (by simp only[WE,hyv,e1,q1]) ?_;refine WO.nil ⟨⟨fun c' hc'=> ?_,by show H1.n<=H2.n;rw[q3];exact GV _,.inl rfl⟩,?_⟩
 ·rcases q6 c' hc' with h|h
  ·cases h
  ·omega
 have hvp:∀ n k,v≠ .slice (some ⟨gp,0,none⟩) n k:=fun n k e=>by
  rcases o with⟨e2,_⟩|⟨g,_,_,g1,_,e2,_⟩
  ·rw[e2]at e;cases e
  ·rw[e2]at e;cases e;omega
 have own2:H2.get gp=some (.row cells true 0):=by
  rw[q4 gp (by show gp<H1.n;omega) hvp];show H1.get gp=_;rw[get1,QC (by omega),getX gp gp2];exact gp3
 rw[WU,QC (show ¬Nat.beq (zE (Wn.nilCheck (.tmp s))) 3=true from Bool.noConfusion)];have hs2:ev ((t.set d1 (.slice (some ⟨hS.n,0,none⟩) 1 c)).set d2 v') (.tmp s)=p:=hs _ _;refine WO.op p (Am.inC H2) rfl (by simp only[WE,hs2,hp];rfl) ?_;refine WO.nil ⟨⟨fun c' hc'=>(by cases hc'),QE _,.inl rfl⟩,?_⟩;rw[WU,QC (show ¬Nat.beq (zE (Wn.fld j (.tmp d0))) 3=true from Bool.noConfusion)];have hs3:∀ tt:U7 Value,ev (tt.set d0 p) (.tmp d0)=p:=fun tt=>by simp only[ev,zh,Q2]
 refine WO.op (.pointer (some ⟨gp,j,none⟩)) (Am.inC H2) rfl (by simp only[val,WE,hs3];simp only[hp,Q6,Qz,cond_true];rfl) ?_;refine WO.nil ⟨⟨fun c' hc'=>(by cases hc'),QE _,.inl rfl⟩,?_⟩;rw[WU,QC (show ¬Nat.beq (zE (Wn.store 1 (.tmp d3) (.tmp d2))) 3=true from Bool.noConfusion)];have hvone:zK [v']=true:=by rw[q9];rfl
 have hvcells:v'.cells=#[v']:=by rw[q9];rfl
 have hst:zg (Am.inC (Am.inC H2)) ⟨gp,j,none⟩ [v']=some ((Am.inC (Am.inC H2)).set gp (.row (cells.set j v') true 0)):=by
  have hg':(Am.inC (Am.inC H2)).get gp=some (.row cells true 0):=own2;have h1:Nat.ble (j+1) cells.length=true:=QH hj;have h0:Nat.ble 0 j=true:=QH (QT _);simp only[zg,hg',Qa,h1,h0,hvone,Q1,zF9 hj];rfl
 have hd32:¬d2=d3:=fun e=>by subst e;simp at h32
 have hd20:¬d2=d0:=fun e=>by subst e;simp at h20
 refine VR undef ((Am.inC (Am.inC H2)).set gp (.row (cells.set j v') true 0)) rfl (by
  have a1:∀ tt:U7 Value,ev (tt.set d3 (.pointer (some ⟨gp,j,none⟩))) (.tmp d3)=.pointer (some ⟨gp,j,none⟩):=fun tt=>by
   simp only[ev,zh,Q2]
  have a2:∀ w,ev ((((t.set d1 (.slice (some ⟨hS.n,0,none⟩) 1 c)).set d2 w).set d0 p).set d3 (.pointer (some ⟨gp,j,none⟩))) (.tmp d2)=w:=fun w=>by
   simp only[ev,zh,QC hd32,QC hd20,Q2]
  simp only[val,WE,a1,a2,hvcells,Gx,Qa,Ge,hst,QL,cond_true]) ?_
 refine WO.nil ⟨⟨fun c' hc'=> ?_,QE _,.inl rfl⟩,?_⟩
 ·have hc2:c'∈(Am.inC (Am.inC H2)).log gp:=hc';rcases ZB hc2 with rfl|h
  ·omega
  ·cases h
 generalize hH:yu hS ((Am.inC (Am.inC H2)).set gp (.row (cells.set j v') true 0))=H;have nH:H.n=X.n+1:=by rw[<-hH];show H2.n=_;rw[q3];show H1.n+1=_;omega
 have getH:∀ c',H.get c'=if c'=gp then some (.row (cells.set j v') true 0)else H2.get c':=fun c'=>by rw[<-hH];exact zQ _ _ _ _
 have keepH:∀ c',c'<hS.n->c'≠gp->(∀ n k,v≠ .slice (some ⟨c',0,none⟩) n k)->H.get c'=hS.get c':=fun c' h1 h2 h3=>by
  rw[getH,QC h2,q4 c' (by show c'<H1.n;omega) h3];show H1.get c'=_;rw[get1,QC (by omega),getX c' h1]
 have hvB:∀ k,k<hB.n->∀ n k',v≠ .slice (some ⟨k,0,none⟩) n k':=fun k hk n k' e=>by
  rcases o with⟨e2,_⟩|⟨g,_,_,g1,_,e2,_⟩
  ·rw[e2]at e;cases e
  ·rw[e2]at e;cases e;omega
 have oneH:zK (cells.set j v')=true:=by
  unfold zK at *;rw[QX]at *;intro z hz;rcases List.mem_or_eq_of_mem_set hz with h|h
  ·exact hcl z h
  ·subst h;rw[q9]
 show K .normal _ _;rw[hH];refine k H v' _ (fun i hi=> ?_) ?_ ⟨gp,gp1,by rw[nH];omega,hp,by rw[getH,QI rfl]⟩ oneH (q2.upd (fun k hk1 hk2=>by rw[getH,QC (by omega)]) (by rw[nH,q3];show H1.n+1<=_;omega)) (fun c hc=>by rw[q9]at hc;cases hc;have:H1.n<=g':=q10;show hS.n<=g';omega) (fun c' h1 h2 h3=>keepH c' h1 (fun e=>h2 (by rw[hp,e])) h3) (by rw[nH];omega)
 ·have hc:=ZI hi;rw[List.contains_eq_mem,Gh]at hc;have b1:¬i=d1:=fun e=>hc (by simp[e]);have b2:¬i=d2:=fun e=>hc (by simp[e]);have b3:¬i=d3:=fun e=>hc (by simp[e]);have b0:¬i=d0:=fun e=>hc (by simp[e]);simp only[val,zh,QC b1,QC b2,QC b3,QC b0]
 ·have hn0:=e0.n;refine⟨by rw[nH];omega,fun k hk=>(keepH k (by omega) (by omega) (hvB k hk)).trans (e0.get k hk),fun w k hk=> ?_,?_,fun hmk=> ?_⟩
  ·rw[nH]at hk;rw[getH,QC (by omega)];refine q8 (fun k2 hk2=> ?_) k (by rw[q3];show H1.n+1<=k;omega);have hk2:H1.n<=k2:=hk2;show H1.get k2=_;rw[get1,QC (by omega)];exact eX.wf (fun k3 hk3=>e0.wf w k3 (by have:hS.n+1<=k3:=hk3;omega)) k2 (by omega)
  ·rw[<-hH];exact e0.mark
  ·rw[<-hH];exact e0.wr hmk
def RI(_:U2)(cs:List Value)(a:Int):Prop:=cs=[I a]
theorem zET{hB h:U2}{b:Nat}{v:Value}{l:List Int}(o:WR 1 RI b h v l)(hb:hB.n<=b):WJ hB h v l:=by
 rcases o with⟨rfl,rfl⟩|⟨g,cells,D,g1,g2,rfl,g4,g5,_,_,g8⟩
 ·exact .inl ⟨rfl,rfl⟩
 ·refine .inr ⟨g,QO hb g1,g2,rfl,?_⟩;rw[g4];congr 2;refine List.ext_getElem (by simp[g5]) fun i h1 h2=> ?_;have h3:i<l.length:=by simpa using h2
  have:=(g8 i l[i] (QB h3)).self;unfold RI at this;have h4:=congrArg (fun q=>q[0]?) this;simpa [GD,h1]using h4
end
section
variable {P:Program}{tab:Wi}
def ok7(m N0:Nat)(Bad:Nat->Prop)(un:List Nat)(cl:Bool)(t:U7 Value)(o:U4)(h h':U2):Prop:=
 (∀ k∈h'.wr,m<=k)/\h.n<=h'.n/\(un=[]\/(cl=true/\h'.wr=[]/\∀ g,zZ t o=some g->¬Bad g/\g<N0))
def BQ(P:Program)(tab:Wi)(m N0:Nat)(Bad:Nat->Prop):List (U4×List Nat)->Nat->Bool->WF->U2->(WF->U2->Prop)->Prop
 |[],_,_,fr,h,Q=>Q fr h
 |(o,un)::l,g,cl,fr,h,Q=>
  if Nat.beq (zE o.op) 3=true then
   un=[]/\((zP fr.tm o.guard=true/\m<=g/\∃ ob f,ye fr.tm o.op=some (ob,f)/\∃ cl',(cl'=true->cl=true/\Bad g)/\BQ P tab m N0 Bad l (g+1) cl' (val o.dst fr (f g)) ((inC h).lay g ob) Q)\/
    (zP fr.tm o.guard=false/\BQ P tab m N0 Bad l (g+1) cl (val o.dst fr undef) (inC h) Q))
  else WO P tab [o] fr (inC h) fun fr' h'=>ok7 m N0 Bad un cl fr.tm o h h'/\∃ cl',(cl'=true->cl=true/\∀ k∈h'.wr,Bad k)/\BQ P tab m N0 Bad l g cl' fr' h' Q
theorem zL6{m N0:Nat}{Bad:Nat->Prop}{un:List Nat}{cl:Bool}{t:U7 Value}{o:U4}{h h':U2}(hk:ok7 m N0 Bad un cl t o h h'){ws:List (Nat×Nat)}(hw:cl=true->∀ e∈ws,Bad e.2){bs:List (Nat×Nat)}(hb:∀ e∈bs,N0<=e.2)(rs:List (Nat×Nat×Option (Nat×Nat×List Value))):
  ((match zZ t o with
   |some g=>(ws.all fun x=> !(Nat.beq g x.2&&un.contains x.1))&&bs.all fun x=> !un.contains x.1||Nat.ble (g+1) x.2
   |none=>true)&&rs.all fun x=> !(un.contains x.1&&h'.wr.contains x.2.1)||zBo h' x.2.1 x.2.2)=true:=by
 obtain⟨_,_,rfl|⟨h1,h2,h3⟩⟩:=hk
 ·exact zJB o ws rs bs t h'
 ·rw[h2];have e2:(rs.all fun x=> !(un.contains x.1&&([]:List Nat).contains x.2.1)||zBo h' x.2.1 x.2.2)=true:=by simp
  rw[e2,Qj];cases hr:zZ t o with
  |none=>rfl
  |some g=>
   obtain⟨hg,hn⟩:=h3 g hr;have e3:(ws.all fun x=> !(Nat.beq g x.2&&un.contains x.1))=true:=by
    rw[QX];intro x hx;have:Nat.beq g x.2=false:=by
     cases hb:Nat.beq g x.2 with
     |false=>rfl
     |true=>exact absurd (QJ hb▸hw h1 x hx) hg
    rw[this];rfl
   simp only[e3,Qd];rw[QX];intro x hx;have:Nat.ble (g+1) x.2=true:=QH (QG hn (hb x hx));rw[this,Qv]
theorem BQ.run{m N0:Nat}{Bad:Nat->Prop}:∀ {ops:List (U4×List Nat)} {g:Nat} {cl:Bool} {fr:WF} {h:U2} {Q:WF->U2->Prop},N0<=h.n->BQ P tab m N0 Bad ops g cl fr h Q->
  ∃ fr' h',Q fr' h'/\∀ (i:Nat) (ws:List (Nat×Nat)) (rs:List (Nat×Nat×Option (Nat×Nat×List Value))) (bs:List (Nat×Nat)),(∀ e∈ws,m<=e.2)->(cl=true->∀ e∈ws,Bad e.2)->(∀ e∈bs,N0<=e.2)->
   ∃ ws',(∀ e∈ws',m<=e.2)/\Ev fun n=>zz P (Wy P tab n) ops i g ws rs bs fr h=some (fr',h',ws'):=by
 intro ops;induction ops with
 |nil=>intro g cl fr h Q _ hx;exact⟨fr,h,hx,fun i ws rs bs hw _ _=>⟨ws,hw,Ev.all fun n=>rfl⟩⟩
 |cons x ops ihl=>
  intro g cl fr h Q hn hx;obtain⟨o,un⟩:=x;simp only[BQ]at hx;have go:∀ {g':Nat} {cl':Bool} {fr1:WF} {h1:U2},(g'=bif Nat.beq (zE o.op) 3 then g+1 else g)->(cl'=true->cl=true/\∀ k∈h1.wr,Bad k)->(Ev fun n=>z0 P (Wy P tab n) g o fr (inC h)=some (fr1,h1))->ok7 m N0 Bad un cl fr.tm o h h1->BQ P tab m N0 Bad ops g' cl' fr1 h1 Q->
    ∃ fr' h',Q fr' h'/\∀ (i:Nat) (ws:List (Nat×Nat)) (rs:List (Nat×Nat×Option (Nat×Nat×List Value))) (bs:List (Nat×Nat)),(∀ e∈ws,m<=e.2)->(cl=true->∀ e∈ws,Bad e.2)->(∀ e∈bs,N0<=e.2)->
     ∃ ws',(∀ e∈ws',m<=e.2)/\Ev fun n=>zz P (Wy P tab n) ((o,un)::ops) i g ws rs bs fr h=some (fr',h',ws'):=by
   intro g' cl' fr1 h1 hg hcl ev hk hx;obtain⟨fr',h',q,run⟩:=ihl (QO hn hk.2.1) hx;refine⟨fr',h',q,fun i ws rs bs hws hwc hbs=> ?_⟩;obtain⟨ws',w1,w2⟩:=run (i+1) (h1.wr.map (fun g=>(i,g))++ws) (match zZ fr.tm o with
     |some g=>(i,g,Yg fr.tm h o.op)::rs
     |none=>rs) ((i,h.n)::bs) (fun e he=>by
      rcases Qi.1 he with he|he
      ·obtain⟨y,hy,rfl⟩:=Qt.1 he;exact hk.1 y hy
      ·exact hws e he) (fun hc e he=>by
      obtain⟨c1,c2⟩:=hcl hc;rcases Qi.1 he with he|he
      ·obtain⟨y,hy,rfl⟩:=Qt.1 he;exact c2 y hy
      ·exact hwc c1 e he) (fun e he=>by
      rcases GL.1 he with rfl|he
      ·exact hn
      ·exact hbs e he)
   refine⟨ws',w1,(ev.and w2).mono fun n ⟨e1,e2⟩=> ?_⟩;simp only[zz];have e1':z0 P (Wy P tab n) g o fr {h with mark:=h.n,wr:=[]}=some (fr1,h1):=e1;rw[e1'];have hok:=zL6 hk hwc hbs rs;exact(congrArg (fun b:Bool=>bif b then zz P (Wy P tab n) ops (i+1) (bif Nat.beq (zE o.op) 3 then g+1 else g) (h1.wr.map (fun g=>(i,g))++ws) (match zZ fr.tm o with
     |some g=>(i,g,Yg fr.tm h o.op)::rs
     |none=>rs) ((i,h.n)::bs) fr1 h1 else none) hok).trans (by rw[cond_true,<-hg];exact e2)
  by_cases hk:Nat.beq (zE o.op) 3=true
  ·rw[QI hk]at hx;obtain⟨rfl,⟨hw,hm,ob,f,hmade,cl',hcl,hx⟩|⟨hw,hx⟩⟩:=hx;case inr=>
    refine go (g':=g+1) (cl':=cl) (by rw[hk];rfl) (fun h=>⟨h,fun k hk=>(by cases hk)⟩) (Ev.all fun n=> ?_) (h1:=inC h) ⟨fun x hx=>(by cases hx),(show h.n<=h.n from QE _),.inl rfl⟩ hx;unfold z0;simp only[hk,hw,cond_true,QR]
   refine go (g':=g+1) (cl':=cl') (by rw[hk];rfl) (fun h=>⟨(hcl h).1,fun k hk=> ?_⟩) (Ev.all fun n=> ?_) (h1:=(inC h).lay g ob) ⟨fun x hx=> ?_,(show h.n<=h.n from QE _),.inl rfl⟩ hx
   ·rcases ZB hk with rfl|hk
    ·exact(hcl h).2
    ·cases hk
   ·unfold z0;simp only[hk,hw,hmade,cond_true]
   ·rcases ZB hx with rfl|hx
    ·exact hm
    ·cases hx
  ·rw[QC hk]at hx;have hk':Nat.beq (zE o.op) 3=false:=by cases hb:Nat.beq (zE o.op) 3 with
    |false=>rfl
    |true=>exact absurd hb hk
   unfold WO at hx;obtain⟨fr1,h1,⟨q1,cl',hcl,q2⟩,ev⟩:=hx;refine go (g':=g) (cl':=cl') (by rw[hk'];rfl) hcl (ev.mono fun n e=> ?_) q1 q2;unfold z0;simp only[hk',QR];simp only[yV]at e;cases ha:yI P (Wy P tab n) o fr (inC h)with
   |none=>rw[ha]at e;cases e
   |some p=>rw[ha]at e;exact e
theorem V6{ops:List (U4×List Nat)}{fr:WF}{h:U2}{K:WB->WF->U2->Prop}(Bad:Nat->Prop)(k:Nat)(hk:zC8 ops=k)(hne:ops.isEmpty=false)
  (hx:BQ P tab h.mark (h.n+k) Bad ops h.n true fr (inC (zC k h)) (Bq K h)):WX P tab (.regionC ops) fr h K:=by
 subst hk;have hx':BQ P tab h.mark (h.n+zC8 ops) Bad ops h.n true fr (zC (zC8 ops) h) (Bq K h):=by
  cases ops with
  |nil=>cases hne
  |cons x ops=>exact hx
 obtain⟨fr',h',q,run⟩:=BQ.run (h:=zC (zC8 ops) h) (QE _) hx';obtain⟨ws',w1,w2⟩:=run 0 [] [] [] (fun e he=>by cases he) (fun _ e he=>by cases he) (fun e he=>by cases he);unfold WX;refine⟨.normal,fr',_,q,Ev.up (w2.mono fun n e=> ?_)⟩;rw[zq];simp only[ze,YB];have e':zz P (Wy P tab n) ops 0 h.n [] [] [] fr {h with n:=h.n+(ops.filter fun x=>Nat.beq (zE x.1.op) 3).length}=some (fr',h',ws'):=e;rw[e'];have:((ws'.map (·.2)).filter fun g=> !Nat.ble h.mark g)=[]:=by
  rw[List.filter_eq_nil_iff];intro g hg;obtain⟨y,hy,rfl⟩:=Qt.1 hg;have:Nat.ble h.mark y.2=true:=QH (w1 y hy);simp[this]
 simp[this,yu]
theorem UG{m N0:Nat}{Bad:Nat->Prop}:∀ {l:List (U4×List Nat)} {g:Nat} {cl:Bool} {fr:WF} {h:U2} {Q:WF->U2->Prop},WU P tab m N0 l g false fr h Q->BQ P tab m N0 Bad l g cl fr h Q:=by
 have key:∀ (l:List (U4×List Nat)) (c1:Bool) (g:Nat) (cl:Bool) (fr:WF) (h:U2) (Q:WF->U2->Prop),c1=false->WU P tab m N0 l g c1 fr h Q->BQ P tab m N0 Bad l g cl fr h Q:=by
  intro l;induction l with
  |nil=>intro c1 g cl fr h Q _ hx;exact hx
  |cons x l ih=>
   intro c1 g cl fr h Q hc hx;obtain⟨o,un⟩:=x;simp only[WU]at hx;simp only[BQ];split
   ·rename_i hk;rw[QI hk]at hx;obtain⟨hu,⟨hw,hm,ob,f,hmade,hx⟩|⟨hw,hx⟩⟩:=hx
    ·exact⟨hu,.inl ⟨hw,hm,ob,f,hmade,false,(fun h=>by cases h),ih false _ _ _ _ _ rfl hx⟩⟩
    ·exact⟨hu,.inr ⟨hw,ih c1 _ _ _ _ _ hc hx⟩⟩
   ·rename_i hk;rw[QC hk]at hx;exact hx.mono fun fr' h' ⟨⟨a,b,c⟩,k⟩=>⟨⟨a,b,c.elim .inl fun c=>by rw[hc]at c;cases c.1⟩,false,(fun h=>by cases h),ih _ _ _ _ _ _ (by rw[hc];rfl) k⟩
 intro l g cl fr h Q hx;exact key l false g cl fr h Q rfl hx
end
section
variable {P:Program}{tab:Wi}{m N0:Nat}{Bad:Nat->Prop}{l:List (U4×List Nat)}{o:U4}{un:List Nat}{g:Nat}{cl:Bool}{fr:WF}{h h0 h':U2}{Q:WF->U2->Prop}{K:WB->WF->U2->Prop}{t:U7 Value}
def uK7(P:Program)(tab:Wi)(m N0:Nat)(Bad:Nat->Prop)(un:List Nat)(t:U7 Value)(o:U4)(h:U2)(l:List (U4×List Nat))(g:Nat)(cl:Bool)(Q:WF->U2->Prop):WF->U2->Prop:=
 fun fr' h'=>ok7 m N0 Bad un cl t o h h'/\∃ cl',(cl'=true->cl=true/\∀ k∈h'.wr,Bad k)/\BQ P tab m N0 Bad l g cl' fr' h' Q
theorem BQ.q(hk:Nat.beq (zE o.op) 3=false)(hx:WO P tab [o] fr (inC h) (uK7 P tab m N0 Bad un fr.tm o h l g cl Q)):BQ P tab m N0 Bad ((o,un)::l) g cl fr (inC h) Q:=by
 simp only[BQ];rw[QC (by rw[hk];exact Bool.noConfusion)];exact hx
theorem zVS(hx:BQ P tab m N0 Bad l g cl fr (inC h) Q):uK7 P tab m N0 Bad [] t o h l g cl Q fr (inC h):=
 ⟨⟨fun g hg=>(by cases hg),QE _,.inl rfl⟩,cl,fun h=>⟨h,fun k hk=>by cases hk⟩,hx⟩
theorem zVd{d:Option Nat}{agg:Bool}{n k:Nat}{x:Operand}{a:Addr}(hb:¬Bad a.block)(hn:a.block<N0)(hx:BQ P tab m N0 Bad l g true fr (inC h) Q)(hr:WI t x (yC (.pointer (some a)) k):=by exact zr):uK7 P tab m N0 Bad un t ⟨d,none,.load agg n x⟩ h l g true Q fr (inC h):=by
 refine⟨⟨fun g hg=>(by cases hg),QE _,.inr ⟨rfl,rfl,fun g hg=> ?_⟩⟩,true,fun h=>⟨h,fun k hk=>by cases hk⟩,hx⟩;unfold WI yC at hr;simp only[zZ,zP,cond_true,hr,QA]at hg;rw[<-hg];exact⟨hb,hn⟩
theorem UN{α:Type}{c b d1 d2:Nat}{R:U2->List Value->α->Prop}{hS:U2}{v w:Value}{xs:List α}{cs zero:List Value}{ds:List Deferred}{rd:Option Nat}(a:α)(Dn:Nat->Prop){x y:Operand}
  (o:WR c R b hS v xs) (hm:m<=b) (hbn:b<=hS.n) (hc0:0<c) (hl:xs.length<=100000) (d:Bm R hS cs a Dn) (hD:∀ k,Dn k->b<=k/\k<hS.n) (hv:∀ g n k,v=.slice (some ⟨g,0,none⟩) n k->¬Dn g) (hBad:∀ k,b<=k->Bad k)
  (k:∀ X v' lit,X.n=hS.n+2->(∀ k,k<hS.n->(∀ n k',v≠ .slice (some ⟨k,0,none⟩) n k')->X.get k=hS.get k)->WR c R b X v' (xs++[a])->zAo hS v'->(Wf hS->Wf X)->BQ P tab m N0 Bad l (hS.n+1) true ⟨(t.set d1 lit).set d2 v',ds,rd⟩ (Am.inC X) Q)
  (hx:WI t x w:=by exact zr) (hw:w.cells=cs.toArray:=by rfl) (hc:cs.length=c:=by rfl) (h1:zK cs=true:=by rfl) (hz:zero.length=c:=by rfl) (hy:∀ u,WI (t.set d1 u) y v:=by intro u;exact zr) (hne:l≠[]:=by exact List.cons_ne_nil _ _):
  BQ P tab m N0 Bad ((⟨some d1,none,.buildSlice 1 c zero [(0,c,x)]⟩,[])::(⟨some d2,none,.append c y (.tmp d1)⟩,[])::l) hS.n true ⟨t,ds,rd⟩ (Am.inC (zC 1 hS)) Q:=by
 have hx:ev t x=w:=hx;rw[BQ,QI (show Nat.beq (zE (Wn.buildSlice 1 c zero [(0,c,x)])) 3=true from rfl)];refine⟨rfl,.inl ⟨rfl,QO hm hbn,.row cs true 0,_,by simp only[ye,zo,Qm,Gf,hx,Y6 hw hc hz,QL];rfl,true,fun _=>⟨rfl,hBad _ hbn⟩,?_⟩⟩;generalize hH1:(Am.inC (Am.inC (zC 1 hS))).lay hS.n (.row cs true 0)=H1;have n1:H1.n=hS.n+1:=by rw[<-hH1];rfl
 have get1:∀ c',H1.get c'=if c'=hS.n then some (.row cs true 0)else hS.get c':=fun c'=>by rw[<-hH1];exact zQ _ _ _ _
 have oX1:WR c R b (Am.inC H1) v xs:=o.upd (fun k _ hk=>by show H1.get k=_;rw[get1,QC (by omega)]) (by show hS.n<=H1.n;omega);have d1':Bm R (Am.inC H1) cs a Dn:=d.mono (fun _ h=>h) (fun k o hd e=>by
  show H1.get k=_;have:=(hD k hd).2;rw[get1,QC (by omega)];exact e) (by show hS.n<=H1.n;omega)
 obtain⟨v',H2,q1,q2,q3,q4,q5,q6,q7,q8,n',k',g',q9,q10⟩:=Y2 (H:=Am.inC H1) (gl:=hS.n) oX1 hc hc0 h1 hl (by show b<=H1.n;omega) d1' (fun k hd=>⟨(hD k hd).1,by have:=(hD k hd).2;show k<H1.n;omega⟩) hv (QE _) (by show hS.n<H1.n;omega) (fun _ _=>rfl) (by show H1.get hS.n=_;rw[get1,QI rfl]);rw[BQ,QC (show ¬Nat.beq (zE (Wn.append c y (.tmp d1))) 3=true from Bool.noConfusion)];have hyv:ev (t.set d1 (.slice (some ⟨hS.n,0,none⟩) 1 c)) y=v:=hy _;have e1:ev (t.set d1 (.slice (some ⟨hS.n,0,none⟩) 1 c)) (.tmp d1)=.slice (some ⟨hS.n,0,none⟩) 1 c:=by simp only[ev,zh,Q2]
 refine WO.op v' H2 rfl (by simp only[WE,hyv,e1,q1]) ?_;have hwr:∀ k∈H2.wr,b<=k:=fun k hk=>by
  rcases q6 k hk with h|h
  ·cases h
  ·exact h
 have h2n:H2.n=hS.n+2:=by rw[q3];show H1.n+1=_;omega
 refine WO.nil ⟨⟨fun k hk=>QO hm (hwr k hk),by show H1.n<=H2.n;omega,.inl rfl⟩,true,fun h=>⟨rfl,fun k hk=>hBad k (hwr k hk)⟩,?_⟩;have fin:=k H2 v' (.slice (some ⟨hS.n,0,none⟩) 1 c) h2n (fun k hk hvk=>by
  rw[q4 k (by show k<H1.n;omega) hvk];show H1.get k=_;rw[get1,QC (by omega)]) q2 (fun j hj=>by subst q9;cases hj;have h1:H1.n<=g':=q10;show hS.n<=g';omega) (fun w=>q8 fun g hg=>by
  have hg:H1.n<=g:=hg;show H1.get g=none;rw[get1,QC (by omega)];exact w g (by omega))
 cases l with
 |nil=>exact absurd rfl hne
 |cons z l=>
  obtain⟨z1,z2⟩:=z;simp only[BQ]at fin |-;exact fin
theorem goW{G' G:Prop}(k:G')(r:Wrap G'->G:=by
  intro hgo;first|with_reducible show BQ _ _ _ _ _ (_::_) _ _ _ _ _|refine go ?_
  repeat (first|((apply BQ.q;rfl);refine go ?_)|refine zVS ?_)
  first|with_reducible show BQ _ _ _ _ _ (_::_) _ _ _ _ _|refine go ?_
  exact hgo.out):G:=r ⟨k⟩
end
def cutX(id:Nat)(M:U7 Value->U2->Prop)(ds:List Deferred)(rd:Option Nat)(K:WB->WF->U2->Prop):WB->WF->U2->Prop
 | .normal,fr,h=>fr.dfs=ds/\fr.round=rd/\M fr.tm h
 | .exit i,fr,h=>if i=id then fr.dfs=ds/\fr.round=rd/\M fr.tm h else K (.exit i) fr h
 | .goto l,fr,h=>K (.goto l) fr h
 | .ret,fr,h=>K .ret fr h
section
variable {P:Program}{tab:Wi}{t:U7 Value}{ds:List Deferred}{rd:Option Nat}
theorem zFT{id:Nat}{M:U7 Value->U2->Prop}{K:WB->WF->U2->Prop}{h:U2}(hx:M t h):cutX id M ds rd K (.exit id) ⟨t,ds,rd⟩ h:=by
 show if id=id then ds=ds/\rd=rd/\M t h else K (.exit id) ⟨t,ds,rd⟩ h;rw[QI rfl];exact⟨rfl,rfl,hx⟩
theorem WX.cutX{c:U3}{h:U2}{id:Nat}{K:WB->WF->U2->Prop}(ws:List Nat)(hw:yH c=ws)(M:U7 Value->U2->Prop)(h1:WX P tab c ⟨t,ds,rd⟩ h (Am.cutX id M ds rd (Zy id K)))(h2:∀ t' h',zCV ws t t'->M t' h'->Zy id K .normal ⟨t',ds,rd⟩ h'):WX P tab c ⟨t,ds,rd⟩ h (Zy id K):=
 (WX.frame h1).mono fun e fr h ⟨hf,hx⟩=>by
  have hs:zCV ws t fr.tm:=fun j hj=>hf j (by rw[hw];intro hc;have:=ZI hj;simp[hc]at this);obtain⟨t',ds',rd'⟩:=fr;cases e with
  |normal=>
   have hx:ds'=ds/\rd'=rd/\M t' h:=hx;obtain⟨e1,e2,e3⟩:=hx;subst e1 e2;exact h2 _ _ hs e3
  |exit i=>
   have hx:if i=id then ds'=ds/\rd'=rd/\M t' h else Zy id K (.exit i) ⟨t',ds',rd'⟩ h:=hx;split at hx
   ·rename_i hi;obtain⟨e1,e2,e3⟩:=hx;subst e1 e2;have h3:=h2 _ _ hs e3;unfold Zy at h3 |-;simp only[hi,Q2];exact h3
   ·exact hx
  |goto i=>exact hx
  |ret=>exact hx
end
end Go.Am
