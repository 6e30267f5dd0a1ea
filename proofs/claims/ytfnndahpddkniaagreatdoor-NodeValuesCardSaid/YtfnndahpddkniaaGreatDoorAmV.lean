/- A part of the machine and of its soundness; proves no statement. -/
import Derived.Test.YtfnndahpddkniaaGreatDoorAmU
set_option linter.all false
namespace Go.Am
section
variable {P:Program}{tab:Wm}
def BE(P:Program)(tab:Wm)(m:Nat)(Bad:Nat->Prop):List (U1×List Nat)->Nat->WG->Uy->(WG->Uy->Prop)->Prop
 |[],_,fr,h,Q=>Q fr h
 |(o,un)::l,g,fr,h,Q=>
  if Nat.beq (zH o.op) 3=true then
   un=[]/\zS fr.tm o.guard=true/\m<=g/\zi fr.tm o=none/\∃ ob f,yg fr.tm o.op=some (ob,f)/\BE P tab m Bad l (g+1) (val o.dst fr (f g)) ((inC h).lay g ob) Q
  else WO P tab [o] fr (inC h) fun fr' h'=>(∀ g∈h'.wr,m<=g)/\(un=[]\/(zi fr.tm o=none/\∀ g∈h'.wr,Bad g))/\(∀ g,zi fr.tm o=some g->¬Bad g)/\BE P tab m Bad l g fr' h' Q
theorem zKa{Bad:Nat->Prop}{un:List Nat}{t:U3 Value}{o:U1}{h':Uy}(hk:un=[]\/(zi t o=none/\∀ g∈h'.wr,Bad g))(ws:List (Nat×Nat))(bs:List (Nat×Nat)){rs:List (Nat×Nat×Option (Nat×Nat×List Value))}(hr:∀ e∈rs,¬Bad e.2.1):
  ((match zi t o with
   |some g=>(ws.all fun x=> !(Nat.beq g x.2&&un.contains x.1))&&bs.all fun x=> !un.contains x.1||Nat.ble (g+1) x.2
   |none=>true)&&rs.all fun x=> !(un.contains x.1&&h'.wr.contains x.2.1)||zEi h' x.2.1 x.2.2)=true:=by
 rcases hk with rfl|⟨h1,h2⟩
 ·exact zLk o ws rs bs t h'
 ·rw[h1];simp only[Qd];rw[QY];intro x hx;have:h'.wr.contains x.2.1=false:=by
   cases hc:h'.wr.contains x.2.1 with
   |false=>rfl
   |true=>exact absurd (h2 _ (List.contains_iff_mem.1 hc)) (hr x hx)
  rw[this,Qo];rfl
theorem BE.run{m:Nat}{Bad:Nat->Prop}:∀ {ops:List (U1×List Nat)} {g:Nat} {fr:WG} {h:Uy} {Q:WG->Uy->Prop},BE P tab m Bad ops g fr h Q->
  ∃ fr' h',Q fr' h'/\∀ (i:Nat) (ws:List (Nat×Nat)) (rs:List (Nat×Nat×Option (Nat×Nat×List Value))) (bs:List (Nat×Nat)),(∀ e∈ws,m<=e.2)->(∀ e∈rs,¬Bad e.2.1)->
   ∃ ws',(∀ e∈ws',m<=e.2)/\Ev fun n=>yT P (BH P tab n) ops i g ws rs bs fr h=some (fr',h',ws'):=by
 intro ops;induction ops with
 |nil=>intro g fr h Q hx;exact⟨fr,h,hx,fun i ws rs bs hw _=>⟨ws,hw,Ev.all fun n=>rfl⟩⟩
 |cons x ops ihl=>
  intro g fr h Q hx;obtain⟨o,un⟩:=x;simp only[BE]at hx;have go:∀ {g':Nat} {fr1:WG} {h1:Uy},(g'=bif Nat.beq (zH o.op) 3 then g+1 else g)->(Ev fun n=>yb P (BH P tab n) g o fr (inC h)=some (fr1,h1))->(∀ x∈h1.wr,m<=x)->(un=[]\/(zi fr.tm o=none/\∀ g∈h1.wr,Bad g))->(∀ g,zi fr.tm o=some g->¬Bad g)->BE P tab m Bad ops g' fr1 h1 Q->
    ∃ fr' h',Q fr' h'/\∀ (i:Nat) (ws:List (Nat×Nat)) (rs:List (Nat×Nat×Option (Nat×Nat×List Value))) (bs:List (Nat×Nat)),(∀ e∈ws,m<=e.2)->(∀ e∈rs,¬Bad e.2.1)->
     ∃ ws',(∀ e∈ws',m<=e.2)/\Ev fun n=>yT P (BH P tab n) ((o,un)::ops) i g ws rs bs fr h=some (fr',h',ws'):=by
   intro g' fr1 h1 hg ev hw hk hb hx;obtain⟨fr',h',q,run⟩:=ihl hx;refine⟨fr',h',q,fun i ws rs bs hws hrs=> ?_⟩;obtain⟨ws',w1,w2⟩:=run (i+1) (h1.wr.map (fun g=>(i,g))++ws) (match zi fr.tm o with
     |some g=>(i,g,zAK fr.tm h o.op)::rs
     |none=>rs) ((i,h.n)::bs) (fun e he=>by
      rcases Qu.1 he with he|he
      ·obtain⟨y,hy,rfl⟩:=Q8.1 he;exact hw y hy
      ·exact hws e he) (fun e he=>by
      cases hr:zi fr.tm o with
      |none=>rw[hr]at he;exact hrs e he
      |some k=>
       rw[hr]at he;rcases GI.1 he with rfl|he
       ·exact hb k hr
       ·exact hrs e he)
   refine⟨ws',w1,(ev.and w2).mono fun n ⟨e1,e2⟩=> ?_⟩;simp only[yT];have e1':yb P (BH P tab n) g o fr {h with mark:=h.n,wr:=[]}=some (fr1,h1):=e1;rw[e1'];have hok:=zKa hk ws bs hrs;exact(congrArg (fun b:Bool=>bif b then yT P (BH P tab n) ops (i+1) (bif Nat.beq (zH o.op) 3 then g+1 else g) (h1.wr.map (fun g=>(i,g))++ws) (match zi fr.tm o with
     |some g=>(i,g,zAK fr.tm h o.op)::rs
     |none=>rs) ((i,h.n)::bs) fr1 h1 else none) hok).trans (by rw[cond_true,<-hg];exact e2)
  by_cases hk:Nat.beq (zH o.op) 3=true
  ·rw[QF hk]at hx;obtain⟨rfl,hw,hm,hr,ob,f,hmade,hx⟩:=hx;refine go (g':=g+1) (by rw[hk];rfl) (Ev.all fun n=> ?_) (h1:=(inC h).lay g ob) (fun x hx=> ?_) (.inl rfl) (fun k hk2=>by rw[hr]at hk2;cases hk2) hx
   ·unfold yb;simp only[hk,hw,hmade,cond_true]
   ·rcases yp hx with rfl|hx
    ·exact hm
    ·cases hx
  ·rw[QC hk]at hx;have hk':Nat.beq (zH o.op) 3=false:=by cases hb:Nat.beq (zH o.op) 3 with
    |false=>rfl
    |true=>exact absurd hb hk
   unfold WO at hx;obtain⟨fr1,h1,⟨q1,q2,q3,q4⟩,ev⟩:=hx;refine go (g':=g) (by rw[hk'];rfl) (ev.mono fun n e=> ?_) q1 q2 q3 q4;unfold yb;simp only[hk',QV];simp only[yq]at e;cases ha:yK P (BH P tab n) o fr (inC h)with
   |none=>rw[ha]at e;cases e
   |some p=>rw[ha]at e;exact e
theorem Vg{ops:List (U1×List Nat)}{fr:WG}{h:Uy}{K:WB->WG->Uy->Prop}(Bad:Nat->Prop)(k:Nat)(hk:zFy ops=k)(hne:ops.isEmpty=false)
  (hx:BE P tab h.mark Bad ops h.n fr (inC (zC k h)) (zBI K h)):WX P tab (.regionC ops) fr h K:=by
 subst hk;have hx':BE P tab h.mark Bad ops h.n fr (zC (zFy ops) h) (zBI K h):=by
  cases ops with
  |nil=>cases hne
  |cons x ops=>exact hx
 obtain⟨fr',h',q,run⟩:=BE.run (h:=zC (zFy ops) h) hx';obtain⟨ws',w1,w2⟩:=run 0 [] [] [] (fun e he=>by cases he) (fun e he=>by cases he);unfold WX;refine⟨.normal,fr',_,q,Ev.up (w2.mono fun n e=> ?_)⟩;rw[zp];simp only[zl,Yb];have e':yT P (BH P tab n) ops 0 h.n [] [] [] fr {h with n:=h.n+(ops.filter fun x=>Nat.beq (zH x.1.op) 3).length}=some (fr',h',ws'):=e;rw[e'];have:((ws'.map (·.2)).filter fun g=> !Nat.ble h.mark g)=[]:=by
  rw[List.filter_eq_nil_iff];intro g hg;obtain⟨y,hy,rfl⟩:=Q8.1 hg;have:Nat.ble h.mark y.2=true:=QG (w1 y hy);simp[this]
 simp[this,outC]
end
section
variable {P:Program}{tab:Wm}{m:Nat}{Bad:Nat->Prop}{l:List (U1×List Nat)}{o:U1}{un:List Nat}{g:Nat}{fr:WG}{h h0 h':Uy}{Q:WG->Uy->Prop}{K:WB->WG->Uy->Prop}{t:U3 Value}
def uK6(P:Program)(tab:Wm)(m:Nat)(Bad:Nat->Prop)(un:List Nat)(t:U3 Value)(o:U1)(l:List (U1×List Nat))(g:Nat)(Q:WG->Uy->Prop):WG->Uy->Prop:=
 fun fr' h'=>(∀ g∈h'.wr,m<=g)/\(un=[]\/(zi t o=none/\∀ g∈h'.wr,Bad g))/\(∀ g,zi t o=some g->¬Bad g)/\BE P tab m Bad l g fr' h' Q
theorem BE.q(hk:Nat.beq (zH o.op) 3=false)(hx:WO P tab [o] fr (inC h) (uK6 P tab m Bad un fr.tm o l g Q)):BE P tab m Bad ((o,un)::l) g fr (inC h) Q:=by
 simp only[BE];rw[QC (by rw[hk];exact Bool.noConfusion)];exact hx
theorem zP1(hr:zi t o=none)(hx:BE P tab m Bad l g fr (inC h) Q):uK6 P tab m Bad [] t o l g Q fr (inC h):=
 ⟨fun g hg=>(by cases hg),.inl rfl,fun g hg=>(by rw[hr]at hg;cases hg),hx⟩
theorem zJy{d:Option Nat}{agg:Bool}{n k:Nat}{x:Operand}{a:Addr}(hr:WA t x (yG (.pointer (some a)) k))(hb:¬Bad a.block)(hx:BE P tab m Bad l g fr (inC h) Q):uK6 P tab m Bad [] t ⟨d,none,.load agg n x⟩ l g Q fr (inC h):=by
 refine⟨fun g hg=>(by cases hg),.inl rfl,fun g hg=> ?_,hx⟩;unfold WA yG at hr;simp only[zi,zS,cond_true,hr,QA]at hg;rw[<-hg];exact hb
theorem BE.mk{d:Nat}{op:Wl}{ob:WY}{f:Nat->Value}(hk:Nat.beq (zH op) 3=true)(hm:m<=g)(hmade:yg t op=some (ob,f)){ds:List Deferred}{rd:Option Nat}(hx:BE P tab m Bad l (g+1) ⟨t.set d (f g),ds,rd⟩ ((inC h).lay g ob) Q):BE P tab m Bad ((⟨some d,none,op⟩,[])::l) g ⟨t,ds,rd⟩ (inC h) Q:=by
 simp only[BE];rw[QF hk];refine⟨by trivial,rfl,hm,?_,ob,f,hmade,hx⟩;cases op<;>first|rfl|cases hk
end
structure AR(hB h:Uy)(p:Value)(cells:List Value)(n:Nat)(A:Nat->List Int):Prop where
 own:Uz hB h p cells
 len:cells.length=n
 all:∀ j,j<n->U5 hB h (cells.getD j undef) (A j)
 apart:∀ i j g a b c d,i<n->j<n->i≠j->cells.getD i undef=.slice (some ⟨g,0,none⟩) a b->cells.getD j undef=.slice (some ⟨g,0,none⟩) c d->False
theorem AR.ext{hB h h':Uy}{p:Value}{cells:List Value}{n:Nat}{A:Nat->List Int}(r:AR hB h p cells n A)(e:Ext h h'):AR hB h' p cells n A:=
 ⟨r.own.ext e,r.len,fun j hj=>(r.all j hj).ext e,r.apart⟩
theorem AR.off{hB h:Uy}{p:Value}{cells:List Value}{n:Nat}{A:Nat->List Int}(r:AR hB h p cells n A){j:Nat}(hj:j<n){g gp a b:Nat}(hp:p=.pointer (some ⟨gp,0,none⟩))(hv:cells.getD j undef=.slice (some ⟨g,0,none⟩) a b):g≠gp:=by
 intro e;subst e;obtain⟨q,_,_,hq,hg⟩:=r.own;rw[hp]at hq;cases hq;rcases r.all j hj with⟨h1,_⟩|⟨q2,_,_,h2,h3⟩
 ·rw[h1]at hv;cases hv
 ·rw[h2]at hv;cases hv;rw[hg]at h3;have he:cells=(A j).map I:=by simpa using h3
  have:=congrArg (fun l=>l.getD j undef) he;simp only[h2]at this;have hlen:j<((A j).map I).length:=by rw[<-he,r.len];exact hj
  rw[QH,QB hlen]at this;simp at this
section
variable {P:Program}{tab:Wm}{t:U3 Value}{ds:List Deferred}{rd:Option Nat}
theorem zFh{l:List Value}{i j:Nat}{v d:Value}(hi:i<l.length):(l.set i v).getD j d=if j=i then v else l.getD j d:=by
 simp only[QH,List.getElem?_set];by_cases h:i=j
 ·subst h;simp[hi]
 ·rw[QC h,QC (fun e=>h e.symm)]
theorem zBY{l:List Value}{i:Nat}{v:Value}(hi:i<l.length):zh l i [v]=l.set i v:=by
 unfold zh;rw[QX,List.set_eq_take_append_cons_drop,QF hi];simp
theorem zL4{cells:List Value}{i:Nat}(hi:i<cells.length):(cut cells i 1).bind (zM false)=some (cells.getD i undef):=by
 have h1:cells.drop i=cells[i]::cells.drop (i+1):=GO hi;have h2:cells.getD i undef=cells[i]:=by simp[List.getD,QB hi]
 have hc:cut cells i 1=some [cells[i]]:=(ZF (by omega)).trans (by rw[h1];rfl);rw[hc,h2];rfl
theorem zFx(a n k):(Value.slice a n k).cells=#[.slice a n k]:=rfl
theorem XG{d1 d2 d3 s i n:Nat}{x y z:Operand}{un:List Nat}{hB h:Uy}{p v:Value}{cells:List Value}{A:Nat->List Int}{k:Int}{K:WB->WG->Uy->Prop}
  (r:AR hB h p cells n A) (e0:Ext hB h) (hm:h.mark<=hB.n) (hi:i<n) (hv:cells.getD i undef=v) (hlen:(A i).length<=1000)
  (hy:WA t y (I k)) (hx:WA (t.set d1 (.slice (some ⟨h.n,0,none⟩) 1 1)) x v) (h21:Nat.beq d1 d2=false) (hs:∀ w,WA ((t.set d1 (.slice (some ⟨h.n,0,none⟩) 1 1)).set d2 w) (.tmp s) p) (hz:∀ w,WA ((t.set d1 (.slice (some ⟨h.n,0,none⟩) 1 1)).set d2 w) z (I (i:Int))) (h32:Nat.beq d2 d3=false)
  (kk:∀ h1 w t',(∀ j,Nat.beq j d1=false->Nat.beq j d2=false->Nat.beq j d3=false->zB t' j=zB t j)->Ext hB h1->AR hB h1 p (cells.set i w) n (fun j=>if j=i then A i++[k]else A j)->(∀ g,g<h.n->p≠ .pointer (some ⟨g,0,none⟩)->(∀ a b,v≠ .slice (some ⟨g,0,none⟩) a b)->h1.get g=h.get g)->h.n<=h1.n->K .normal ⟨t',ds,rd⟩ h1):
  BE P tab h.mark (fun g=>∃ a b,v=.slice (some ⟨g,0,none⟩) a b) [(⟨some d1,none,.buildSlice 1 1 [I 0] [(0,1,y)]⟩,[]),(⟨some d2,none,.append 1 x (.tmp d1)⟩,un),(⟨some d3,none,.idxArr n 1 (.tmp s) z⟩,[]),(⟨none,none,.store 1 (.tmp d3) (.tmp d2)⟩,[])] h.n ⟨t,ds,rd⟩ (inC (zC 1 h)) (zBI K h):=by
 have hon:=r.all i hi;rw[hv]at hon;obtain⟨gp,gp1,gp2,hp,gp3⟩:=r.own;have hmade:yg t (.buildSlice 1 1 [I 0] [(0,1,y)])=some (.row [I k] true 0,fun g=> .slice (some ⟨g,0,none⟩) 1 1):=by
  have hy:ev t y=I k:=hy;simp only[yg,zv,Qr,Gb,hy];rfl
 refine BE.mk rfl (by have:=e0.n;omega) hmade ?_;generalize hH1:(inC (zC 1 h)).lay h.n (.row [I k] true 0)=H1;have n1:H1.n=h.n+1:=by rw[<-hH1];rfl
 have get1:∀ c,H1.get c=if c=h.n then some (.row [I k] true 0)else h.get c:=fun c=>by rw[<-hH1];exact zQ _ _ _ _
 have sl:WH (inC H1) (.slice (some ⟨h.n,0,none⟩) 1 1) [k]:=⟨rfl,.inr ⟨h.n,0,[I k],rfl,ZU (own:=true) (lo:=0) (by have:=get1 h.n;rw[QF rfl]at this;exact this),rfl,by show h.n<H1.n;omega⟩⟩;have hsrc:=Zy sl;obtain⟨H2,ha,n2,get2,keep2,wr2,wf2⟩:∃ H2,yP 1 v (.slice (some ⟨h.n,0,none⟩) 1 1) (inC H1)=some (.slice (some ⟨h.n+1,0,none⟩) (A i++[k]).length 1,H2)/\H2.n=h.n+2/\H2.get (h.n+1)=some (.row ((A i++[k]).map I) true 0)/\
   (∀ c,c≠h.n+1->(∀ a b,v≠ .slice (some ⟨c,0,none⟩) a b)->H2.get c=H1.get c)/\(∀ c∈H2.wr,∃ a b,v=.slice (some ⟨c,0,none⟩) a b)/\(∀ c,h.n+2<=c->H1.get c=none->H2.get c=none):=by
  have hone:zK [I k]=true:=rfl;have hn1:(inC H1).n=h.n+1:=n1;rcases hon with⟨rfl,hA⟩|⟨q,q1,q2,rfl,q3⟩
  ·refine⟨(inC H1).push (.row [I k] true 0),?_,?_,?_,fun c hc _=> ?_,fun c hc=>(by cases hc),fun c hc h0=> ?_⟩
   ·have:Nat.ble 1 room=true:=rfl;simp only[yP,hsrc,Qr,Gb,hone,QW,QV,QX,Nat.div_one,this,cond_true,hA,GK];rw[<-hn1];rfl
   ·show(inC H1).n+1=_;omega
   ·rw[hA,<-hn1,zT,QF rfl];rfl
   ·rw[zT,QC (by omega)];rfl
   ·rw[zT,QC (by omega)];exact h0
  ·have hq:(inC H1).get q=some (.row ((A i).map I) true 0):=by
    have:=get1 q;rw[QC (by omega)]at this;exact this.trans q3
   refine⟨((inC H1).kill q).push (.row ((A i).map I++[I k]) true (0-0)),?_,?_,?_,fun c hc hv=> ?_,fun c hc=> ?_,fun c hc h0=> ?_⟩
   ·have h1:Nat.ble ((A i).length+1) room=true:=QG (by have:room=4294967296:=rfl;omega);have h2:cut ((A i).map I) 0 ((A i).length*1)=some ((A i).map I):=by rw[ZF (by simp)];simp[Q9]
    have h3:Nat.ble 0 (0+(A i).length*1)=true:=QG (QK _);simp only[yP,hsrc,Qr,Gb,hone,QW,QV,QX,Nat.div_one,h1,h2,h3,hq,cond_true,hn1,QR];rfl
   ·show(inC H1).n+1=_;omega
   ·have e:((inC H1).kill q).n=h.n+1:=n1;rw[<-e,zT,QF rfl];simp
   ·rw[zT,QC (by show c≠(inC H1).n;omega),yl,QC (fun e=>hv _ _ (by rw[e]))];rfl
   ·have hc2:c∈(inC H1).log q:=hc;rcases yp hc2 with rfl|h
    ·exact⟨_,_,rfl⟩
    ·cases h
   ·rw[zT,QC (by show c≠(inC H1).n;omega),yl];split
    ·rfl
    ·exact h0
 have hbad:∀ c,(∃ a b,v=.slice (some ⟨c,0,none⟩) a b)->hB.n<=c/\c<h.n/\c≠gp:=by
  rintro c ⟨a,b,e⟩;have hne:=r.off hi hp (hv.trans e);rcases hon with⟨h1,_⟩|⟨q,q1,q2,h1,_⟩
  ·rw[e]at h1;cases h1
  ·rw[e]at h1;cases h1;exact⟨q1,q2,hne⟩
 have hgp:∀ a b,v≠ .slice (some ⟨gp,0,none⟩) a b:=fun a b e=>(hbad gp ⟨a,b,e⟩).2.2 rfl;rw[BE,QC (show ¬Nat.beq (zH (Wl.append 1 x (.tmp d1))) 3=true from Bool.noConfusion)];have hx:ev (t.set d1 (.slice (some ⟨h.n,0,none⟩) 1 1)) x=v:=hx;have e1:ev (t.set d1 (.slice (some ⟨h.n,0,none⟩) 1 1)) (.tmp d1)=.slice (some ⟨h.n,0,none⟩) 1 1:=by simp only[ev,ze,Q0]
 refine WO.op (.slice (some ⟨h.n+1,0,none⟩) (A i++[k]).length 1) H2 rfl (by simp only[U6,hx,e1,ha]) ?_;refine WO.nil ⟨fun c hc=> ?_,.inr ⟨rfl,wr2⟩,fun c hc=>(by cases hc),?_⟩
 ·have:=(hbad c (wr2 c hc)).1;omega
 rw[BE,QC (show ¬Nat.beq (zH (Wl.idxArr n 1 (.tmp s) z)) 3=true from Bool.noConfusion)];have own2:Uz hB (inC H2) p cells:=by
  refine⟨gp,gp1,by show gp<H2.n;omega,hp,?_⟩;show H2.get gp=_;rw[keep2 gp (by omega) hgp,get1,QC (by omega)];exact gp3
 have hs2:=hs (.slice (some ⟨h.n+1,0,none⟩) (A i++[k]).length 1);have hz2:=hz (.slice (some ⟨h.n+1,0,none⟩) (A i++[k]).length 1);have hidx:=Vn (P:=P) (ih:=Ex.bot) (c:=1) (n:=n) (i:=i) hs2 (by have hz2:ev _ z=I (i:Int):=hz2;rw[hz2];rfl) own2 hi;rw[JF]at hidx;refine WO.op _ (inC H2) rfl hidx ?_;refine WO.nil ⟨fun c hc=>(by cases hc),?_,fun c hc=>(by cases hc),?_⟩
 ·exact .inr ⟨rfl,fun c hc=>(by cases hc)⟩
 rw[BE,QC (show ¬Nat.beq (zH (Wl.store 1 (.tmp d3) (.tmp d2))) 3=true from Bool.noConfusion)];have hst:zo (inC (inC H2)) ⟨gp,i,none⟩ [.slice (some ⟨h.n+1,0,none⟩) (A i++[k]).length 1]=some ((inC (inC H2)).set gp (.row (cells.set i (.slice (some ⟨h.n+1,0,none⟩) (A i++[k]).length 1)) true 0)):=by
  obtain⟨q,_,_,hq,hg⟩:=own2;rw[hp]at hq;cases hq;have hg':(inC (inC H2)).get gp=some (.row cells true 0):=hg;have h1:Nat.ble (i+1) cells.length=true:=QG (by rw[r.len];exact hi);have h0:Nat.ble 0 i=true:=QG (QK _);have h2:zK [.slice (some ⟨h.n+1,0,none⟩) (A i++[k]).length 1]=true:=rfl;simp only[zo,hg',QX,h1,h0,h2,Qt,zBY (show i<cells.length by rw[r.len];exact hi)];rfl
 have hd32:¬d2=d3:=fun e=>by subst e;simp at h32
 refine VT undef ((inC (inC H2)).set gp (.row (cells.set i (.slice (some ⟨h.n+1,0,none⟩) (A i++[k]).length 1)) true 0)) rfl (by
  have a1:∀ tt:U3 Value,ev (tt.set d3 (yG p i)) (.tmp d3)=.pointer (some ⟨gp,i,none⟩):=fun tt=>by
   simp only[ev,ze,Q0,hp,yG,GC]
  have a2:∀ w,ev (((t.set d1 (.slice (some ⟨h.n,0,none⟩) 1 1)).set d2 w).set d3 (yG p i)) (.tmp d2)=w:=fun w=>by
   simp only[ev,ze,QC hd32,Q0]
  simp only[val,U6,a1,a2,zFx,Gj,QX,GS,hst,QI,cond_true]) ?_
 refine WO.nil ⟨fun c hc=> ?_,.inl rfl,fun c hc=>(by cases hc),?_⟩
 ·have hc2:c∈(inC (inC H2)).log gp:=hc;rcases yp hc2 with rfl|h
  ·omega
  ·cases h
 generalize hH:outC h ((inC (inC H2)).set gp (.row (cells.set i (.slice (some ⟨h.n+1,0,none⟩) (A i++[k]).length 1)) true 0))=H;have nH:H.n=h.n+2:=by rw[<-hH];exact n2
 have getH:∀ c,H.get c=if c=gp then some (.row (cells.set i (.slice (some ⟨h.n+1,0,none⟩) (A i++[k]).length 1)) true 0)else H2.get c:=fun c=>by rw[<-hH];exact zQ _ _ _ _
 have keepH:∀ c,c<h.n->c≠gp->(∀ a b,v≠ .slice (some ⟨c,0,none⟩) a b)->H.get c=h.get c:=fun c h1 h2 h3=>by
  rw[getH,QC h2,keep2 c (by omega) h3,get1,QC (by omega)]
 have lowH:∀ c,c<hB.n->H.get c=h.get c:=fun c hc=>keepH c (by have:=e0.n;omega) (by omega) (fun a b e=>by have:=(hbad c ⟨a,b,e⟩).1;omega);show K .normal _ _;rw[hH];refine kk H (.slice (some ⟨h.n+1,0,none⟩) (A i++[k]).length 1) _ (fun j a1 a2 a3=> ?_) ?_ ?_ (fun c h1 h2 h3=>keepH c h1 (fun e=>h2 (by rw[hp,e])) h3) (by omega)
 ·have b1:¬j=d1:=fun e=>by subst e;simp at a1
  have b2:¬j=d2:=fun e=>by subst e;simp at a2
  have b3:¬j=d3:=fun e=>by subst e;simp at a3
  simp only[val,ze,QC b1,QC b2,QC b3]
 ·refine⟨by rw[nH];have:=e0.n;omega,fun c hc=>(lowH c hc).trans (e0.get c hc),fun w c hc=> ?_,?_,fun hmk=> ?_⟩
  ·rw[nH]at hc;rw[getH,QC (by omega)];exact wf2 c hc (by rw[get1,QC (by omega)];exact e0.wf w c (by omega))
  ·rw[<-hH];exact e0.mark
  ·rw[<-hH];exact e0.wr hmk
 ·refine⟨⟨gp,gp1,by omega,hp,by rw[getH,QF rfl]⟩,by rw[Gv];exact r.len,fun j hj=> ?_,fun j1 j2 g a b c d hj1 hj2 hne e1 e2=> ?_⟩
  ·rw[zFh (by rw[r.len];exact hi)];by_cases e:j=i
   ·rw[QF e];simp only[QF e];exact .inr ⟨h.n+1,by have:=e0.n;omega,by omega,rfl,by rw[getH,QC (by omega)];exact get2⟩
   ·rw[QC e];simp only[QC e];rcases r.all j hj with h1|⟨q,q1,q2,h1,q3⟩
    ·exact .inl h1
    ·refine .inr ⟨q,q1,by omega,h1,?_⟩;rw[keepH q q2 (r.off hj hp h1) (fun a b e2=>r.apart j i q _ _ a b hj hi e h1 (hv.trans e2))];exact q3
  ·rw[zFh (by rw[r.len];exact hi)]at e1 e2;have old:∀ j a b,j<n->cells.getD j undef=.slice (some ⟨g,0,none⟩) a b->g<h.n:=fun j a b hj e=>by
    rcases r.all j hj with⟨h1,_⟩|⟨q,_,q2,h1,_⟩
    ·rw[e]at h1;cases h1
    ·rw[e]at h1;cases h1;exact q2
   by_cases f1:j1=i
   ·rw[QF f1]at e1;cases e1;by_cases f2:j2=i
    ·exact hne (f1.trans f2.symm)
    ·rw[QC f2]at e2;have:=old j2 _ _ hj2 e2;omega
   ·rw[QC f1]at e1;by_cases f2:j2=i
    ·rw[QF f2]at e2;cases e2;have:=old j1 _ _ hj1 e1;omega
    ·rw[QC f2]at e2;exact r.apart j1 j2 g a b c d hj1 hj2 hne e1 e2
theorem AR.one{hB h:Uy}{p:Value}{cells:List Value}{n:Nat}{A:Nat->List Int}(r:AR hB h p cells n A):zK cells=true:=by
 unfold zK;rw[QY];intro x hx;obtain⟨j,hj,rfl⟩:=JJ.1 hx;have e:cells.getD j undef=cells[j]:=by simp[List.getD,QB hj]
 have:=r.all j (by rw[<-r.len];exact hj);rw[e]at this;rcases this with⟨h,_⟩|⟨_,_,_,h,_⟩<;>rw[h]
theorem AR.updC{hB h h':Uy}{p:Value}{cells:List Value}{n:Nat}{A:Nat->List Int}(r:AR hB h p cells n A)(o:Uz hB h' p cells)(u:Wd p h h'):AR hB h' p cells n A:=by
 refine⟨o,r.len,fun j hj=> ?_,r.apart⟩;rcases r.all j hj with h1|⟨q,q1,q2,h1,q3⟩
 ·exact .inl h1
 ·refine .inr ⟨q,q1,QL q2 u.1,h1,(u.2 q q2 fun e=> ?_).trans q3⟩;exact r.off hj e h1 rfl
theorem zJm{cells:List Value}{n:Nat}(hn:cells.length=n):(cut cells 0 n).bind (zM true)=some (.agg cells.toArray):=by
 subst hn;rw[ZF (by omega)];simp[Q9,zM]
theorem XA{d i:Nat}{x:Operand}{p:Value}{cells:List Value}{h0 h:Uy}{l:List U1}{Q:WG->Uy->Prop}(o:Uz h0 h p cells)(hi:i<cells.length)(k:WO P tab l ⟨t.set d (cells.getD i undef),ds,rd⟩ h Q)(hx:WA t x (yG p i):=by exact zj):WO P tab (⟨some d,none,.load false 1 x⟩::l) ⟨t,ds,rd⟩ h Q:=
 Xq (Uz.load hx o (zL4 hi)) k
theorem XV{d n:Nat}{x:Operand}{p:Value}{cells:List Value}{h0 h:Uy}{l:List U1}{Q:WG->Uy->Prop}(o:Uz h0 h p cells)(hn:cells.length=n)(k:WO P tab l ⟨t.set d (.agg cells.toArray),ds,rd⟩ h Q)(hx:WA t x p:=by exact zj):WO P tab (⟨some d,none,.load true n x⟩::l) ⟨t,ds,rd⟩ h Q:=
 Xq (Vk hx o (zJm hn)) k
end
section
variable {P:Program}{tab:Wm}{ds:List Deferred}{rd:Option Nat}{h:Uy}{l:List U1}{t:U3 Value}
theorem goV{G' G:Prop}(k:G')(r:Wrap G'->G:=by
  intro hgo;first|with_reducible show BE _ _ _ _ (_::_) _ _ _ _|refine go ?_
  repeat (first|((apply BE.q;rfl);refine go ?_)|refine zP1 rfl ?_|(apply zJy;(exact zP);(assumption)))
  first|with_reducible show BE _ _ _ _ (_::_) _ _ _ _|refine go ?_
  exact hgo.out):G:=r ⟨k⟩
end
section
variable {P:Program}{tab:Wm}{t:U3 Value}{ds:List Deferred}{rd:Option Nat}
theorem zDf{h0 h:Uy}{p:Value}{xs:List Int}{j:Nat}{a:Int}(o:Uz h0 h p (xs.map I))(hj:j<xs.length):∃ g,h0.n<=g/\g<h.n/\p=.pointer (some ⟨g,0,none⟩)/\zo h ⟨g,j,none⟩ [I a]=some (h.set g (.row ((xs.set j a).map I) true 0)):=by
 obtain⟨g,g1,g2,hp,g3⟩:=o;refine⟨g,g1,g2,hp,?_⟩;have h1:Nat.ble (j+1) (xs.map I).length=true:=QG (by simp;omega);have h0:Nat.ble 0 j=true:=QG (QK _);have h2:zK [I a]=true:=rfl;simp only[zo,g3,QX,h1,h0,h2,Qt,zAI _ _ _ hj];rfl
theorem V8{x y:Operand}{p:Value}{xs:List Int}{j:Nat}{a:Int}{h0 h:Uy}{l:List U1}{Q:WG->Uy->Prop}(o:Uz h0 h p (xs.map I))(e0:Ext h0 h)(hj:j<xs.length)
  (k:∀ h',Ext h0 h'->Uz h0 h' p ((xs.set j a).map I)->Wd p h h'->WO P tab l ⟨t,ds,rd⟩ h' Q) (hx:WA t x (yG p j):=by exact zj) (hy:WA t y (I a):=by exact zj):WO P tab (⟨none,none,.store 1 x y⟩::l) ⟨t,ds,rd⟩ h Q:=by
 refine Vp hx hy (v:=I a) (cs:=[I a]) rfl rfl rfl o e0 (by simp;omega) fun h' a1 a2 a3=>k h' a1 ?_ a3;rw[zAI _ _ _ hj]at a2;exact a2
theorem UQ{N0 g:Nat}{cl:Bool}{x y:Operand}{p:Value}{xs:List Int}{j:Nat}{a:Int}{h0 X:Uy}{m:Nat}{w:U1×List Nat}{l:List (U1×List Nat)}{Q:WG->Uy->Prop}(o:Uz h0 X p (xs.map I))(hm:m<=h0.n)(hj:j<xs.length)
  (k:∀ X',X'.n=X.n->Uz h0 X' p ((xs.set j a).map I)->Wd p X X'->(Wf X->Wf X')->WM P tab m N0 (w::l) g false ⟨t,ds,rd⟩ (inC X') Q) (hx:WA t x (yG p j):=by exact zj) (hy:WA t y (I a):=by exact zj):
  WM P tab m N0 ((⟨none,none,.store 1 x y⟩,[])::w::l) g cl ⟨t,ds,rd⟩ (inC X) Q:=by
 obtain⟨q,q1,q2,hp,hst⟩:=zDf (a:=a) o hj;rw[WM,QC (show ¬Nat.beq (zH (Wl.store 1 x y)) 3=true from Bool.noConfusion)];have hst':zo (inC (inC X)) ⟨q,j,none⟩ [I a]=some ((inC (inC X)).set q (.row ((xs.set j a).map I) true 0)):=by
  have:Uz h0 (inC (inC X)) p (xs.map I):=o;obtain⟨q',_,_,hp',h⟩:=zDf (a:=a) this hj;rw[hp]at hp';cases hp';exact h
 have hx:ev t x=yG p j:=hx;have hy:ev t y=I a:=hy;have hc:(I a).cells=#[I a]:=rfl;refine VT undef ((inC (inC X)).set q (.row ((xs.set j a).map I) true 0)) rfl (by
  simp only[U6,hx,hp,yG,GC,hy,hc,hst',QI];rfl) ?_
 have hlog:(inC (inC X)).log q=[q]:=by
  have:Nat.ble X.n q=false:=by
   cases hb:Nat.ble X.n q with
   |false=>rfl
   |true=>have:=QP hb;omega
  show(bif Nat.ble X.n q then[]else q::[])=_;rw[this];rfl
 have hwr:((inC (inC X)).set q (.row ((xs.set j a).map I) true 0)).wr=[q]:=hlog;refine WO.nil ⟨⟨fun c hc=> ?_,QE _,.inl rfl⟩,?_⟩
 ·rw[hwr]at hc;rw[Qb]at hc;subst hc;omega
 ·rw[hwr,show(cl&&[q].isEmpty)=false by cases cl<;>rfl];have:=k ((inC (inC X)).set q (.row ((xs.set j a).map I) true 0)) rfl ⟨q,q1,q2,hp,by rw[zt,QF rfl]⟩ ⟨QE _,fun c _ hc=>by rw[zt,QC (fun e=>hc (by rw[hp,e]))];rfl⟩ (fun wf c hc=>by have hc:X.n<=c:=hc;rw[zt,QC (by omega)];exact wf c hc);obtain⟨o2,un2⟩:=w;unfold WM at this |-;exact this
theorem UL{N0 g:Nat}{cl:Bool}{x y:Operand}{p:Value}{xs:List Int}{j:Nat}{a:Int}{h0 hS X:Uy}{K:WB->WG->Uy->Prop}(o:Uz h0 X p (xs.map I))(e0:Ext h0 hS)(hm:hS.mark<=h0.n)(hn:X.n=hS.n)(u:Wd p hS X)(wf:Wf hS->Wf X)(hj:j<xs.length)
  (k:∀ h1,Ext h0 h1->Uz h0 h1 p ((xs.set j a).map I)->Wd p hS h1->K .normal ⟨t,ds,rd⟩ h1) (hx:WA t x (yG p j):=by exact zj) (hy:WA t y (I a):=by exact zj):
  WM P tab hS.mark N0 [(⟨none,none,.store 1 x y⟩,[])] g cl ⟨t,ds,rd⟩ (inC X) (zBI K hS):=by
 obtain⟨q,q1,q2,hp,_⟩:=zDf (a:=a) o hj;rw[WM,QC (show ¬Nat.beq (zH (Wl.store 1 x y)) 3=true from Bool.noConfusion)];have hst':zo (inC (inC X)) ⟨q,j,none⟩ [I a]=some ((inC (inC X)).set q (.row ((xs.set j a).map I) true 0)):=by
  have:Uz h0 (inC (inC X)) p (xs.map I):=o;obtain⟨q',_,_,hp',h⟩:=zDf (a:=a) this hj;rw[hp]at hp';cases hp';exact h
 have hx:ev t x=yG p j:=hx;have hy:ev t y=I a:=hy;have hc:(I a).cells=#[I a]:=rfl;refine VT undef ((inC (inC X)).set q (.row ((xs.set j a).map I) true 0)) rfl (by
  simp only[U6,hx,hp,yG,GC,hy,hc,hst',QI];rfl) ?_
 refine WO.nil ⟨⟨fun c hc=> ?_,QE _,.inl rfl⟩,?_⟩
 ·have hc2:c∈(inC (inC X)).log q:=hc;rcases yp hc2 with rfl|h
  ·omega
  ·cases h
 have get2:∀ c,(outC hS ((inC (inC X)).set q (.row ((xs.set j a).map I) true 0))).get c=if c=q then some (.row ((xs.set j a).map I) true 0)else X.get c:=fun c=>zQ _ _ _ _;refine k (outC hS ((inC (inC X)).set q (.row ((xs.set j a).map I) true 0))) ?_ ⟨q,q1,q2,hp,by rw[get2,QF rfl]⟩ ⟨by show hS.n<=X.n;omega,fun c hc hv=>by rw[get2,QC (fun e=>hv (by rw[hp,e]))];exact u.2 c hc hv⟩;refine⟨by show h0.n<=X.n;rw[hn];exact e0.n,fun c hc=> ?_,fun w c hc=> ?_,e0.mark,fun hmk=>e0.wr hmk⟩
 ·rw[get2,QC (by omega)];exact(u.2 c (by have:=e0.n;omega) (fun e=>by rw[hp]at e;cases e;omega)).trans (e0.get c hc)
 ·have hc:X.n<=c:=hc;rw[get2,QC (by omega)];exact wf (e0.wf w) c hc
theorem zK5{xs:List Int}{j n:Nat}(h:j+n<=xs.length):(cut (xs.map I) j n).bind (zM true)=some (.agg (((xs.drop j).take n).map I).toArray):=by
 rw[ZF (by simp;omega)];simp[zM]
theorem Vq{d j n:Nat}{x:Operand}{p:Value}{xs:List Int}{h0 h:Uy}{l:List U1}{Q:WG->Uy->Prop}(o:Uz h0 h p (xs.map I))(hn:j+n<=xs.length)(k:WO P tab l ⟨t.set d (.agg (((xs.drop j).take n).map I).toArray),ds,rd⟩ h Q)(hx:WA t x (yG p j):=by exact zj):WO P tab (⟨some d,none,.load true n x⟩::l) ⟨t,ds,rd⟩ h Q:=
 Xq (Uz.load hx o (zK5 hn)) k
theorem zLb{e:TypeId}{kk:IntKind}{d:Nat}(he:P.underlying e=some (.int kk))(ha:zW P (isAgg e)=some false){xs ys:List Int}(hl:xs.length=ys.length):∀ (m i:Nat),i+m=xs.length->
  zW P (do
   let s <-(forIn (List.range' i m) (none,()) fun f (__s:Option Bool×Unit)=>do
           let __do_lift <-part e (xs.map I).toArray (f*1)
           let __do_lift_1 <-part e (ys.map I).toArray (f*1)
           let __do_lift <-Op.equalIn (d+1) e __do_lift __do_lift_1
           if(!__do_lift)=true then pure (ForInStep.done (some false,()))
            else pure (ForInStep.yield (none,())):Sem (Option Bool×Unit))
   match s.fst with
        |some r=>pure r
        |none=>pure true)=some (decide (xs.drop i=ys.drop i)):=by
 intro m;induction m with
 |zero=>
  intro i hi;have h1:xs.drop i=[]:=List.drop_eq_nil_of_le (by omega);have h2:ys.drop i=[]:=List.drop_eq_nil_of_le (by omega);rw[h1,h2];rfl
 |succ m ih=>
  intro i hi;have hx:i<xs.length:=by omega
  have hy:i<ys.length:=by omega
  have px:zW P (part e (xs.map I).toArray (i*1))=some (I xs[i]):=zCT (by rw[ha]) (by simp[hx]);have py:zW P (part e (ys.map I).toArray (i*1))=some (I ys[i]):=zCT (by rw[ha]) (by simp[hy]);have heq:zW P (Op.equalIn (d+1) e (I xs[i]) (I ys[i]))=some (decide (xs[i]=ys[i])):=by
   rw[Op.equalIn,zL,yc he];simp only[Qa,Q0,zGh];congr 1
  rw[List.range'_succ,List.forIn_cons];simp only[bind_assoc,zL,px,py,Qa,heq];have e1:(xs.drop i=ys.drop i)↔(xs[i]=ys[i]/\xs.drop (i+1)=ys.drop (i+1)):=by rw[GO hx,GO hy,List.cons.injEq]
  by_cases h:xs[i]=ys[i]
  ·have:=ih (i+1) (by omega);rw[QT h,show decide (xs.drop i=ys.drop i)=decide (xs.drop (i+1)=ys.drop (i+1))from decide_eq_decide.2 (e1.trans ⟨fun h=>h.2,fun k=>⟨h,k⟩⟩),<-this,zL];rfl
  ·rw[QQ h,show decide (xs.drop i=ys.drop i)=false from QQ fun k=>h (e1.1 k).1];rfl
theorem zPr{t e:TypeId}{kk:IntKind}{n:Nat}{xs ys:List Int}{x y:Operand}(ht:P.underlying t=some (.array n e))(he:P.underlying e=some (.int kk))(ha:zW P (isAgg e)=some false)(hs:zW P (sizeOf e)=some 1)(hg:P.eqGuardType P.depth t=false)(hx:xs.length=n)(hy:ys.length=n):
  zW P (do eqGuard .eql t x y (.agg (xs.map I).toArray) (.agg (ys.map I).toArray);binOp .eql t (.agg (xs.map I).toArray) (.agg (ys.map I).toArray))=some (.bool (decide (xs=ys))):=by
 have h1:zW P (eqGuard .eql t x y (.agg (xs.map I).toArray) (.agg (ys.map I).toArray))=some ():=by
  unfold eqGuard;simp only[QW,QZ,GX];rw[zL,yI];simp only[Qa];rw[zL,yI];simp only[Qa,hg,Qg,Q0];rfl
 rw[zL,h1];simp only[Qa];unfold binOp;simp only[];rw[zL];have h2:zW P (Op.equal t (.agg (xs.map I).toArray) (.agg (ys.map I).toArray))=some (decide (xs=ys)):=by
  unfold Op.equal Op.maxDepth;rw[show(10000:Nat)=9999+1 from rfl,Op.equalIn,zL,yc ht];simp only[Qa];rw[zL,hs];simp only[Qa];have:=zLb (P:=P) (d:=9998) he ha (xs:=xs) (ys:=ys) (by omega) n 0 (by omega);rw[Q3,Q3]at this;rw[<-this,zL,zL];first|rw[Std.Legacy.Range.forIn_eq_forIn_range']|rw[Std.Range.forIn_eq_forIn_range']
  have hsz:(Std.Legacy.Range.size [:n])=n:=by simp[Std.Legacy.Range.size]
  rw[hsz];congr 1;funext a;obtain⟨a,_⟩:=a;cases a<;>rfl
 rw[h2];rfl
noncomputable def zOh(P:Program)(t:TypeId)(n:Nat):Bool:=
 (match P.underlying t with
 |some (.array m e)=>Nat.beq m n&&(match P.underlying e with|some (.int _)=>true|_=>false)&&(match zW P (isAgg e)with|some false=>true|_=>false)&&(match zW P (sizeOf e)with|some 1=>true|_=>false)
 |_=>false)&& !P.eqGuardType P.depth t
theorem zOB{t:TypeId}{n:Nat}{xs ys:List Int}{x y:Operand}(h:zOh P t n=true)(hx:xs.length=n)(hy:ys.length=n):
  zW P (do eqGuard .eql t x y (.agg (xs.map I).toArray) (.agg (ys.map I).toArray);binOp .eql t (.agg (xs.map I).toArray) (.agg (ys.map I).toArray))=some (.bool (decide (xs=ys))):=by
 unfold zOh at h;rw[QJ]at h;obtain⟨h,hg⟩:=h;have hg:P.eqGuardType P.depth t=false:=by cases hh:P.eqGuardType P.depth t with|false=>rfl|true=>rw[hh]at hg;cases hg
 split at h
 ·rename_i m e ht;simp only[QJ]at h;obtain⟨⟨⟨h1,h2⟩,h3⟩,h4⟩:=h;have hm:=QM h1;subst hm;split at h2
  ·rename_i kk he;refine zPr ht he ?_ ?_ hg hx hy
   ·split at h3
    ·assumption
    ·cases h3
   ·split at h4
    ·assumption
    ·cases h4
  ·cases h2
 ·cases h
def zJY(K:WB->WG->Uy->Prop):WB->WG->Uy->Prop
 | .normal,fr,h=>K .normal fr h
 | .exit i,fr,h=>K (.exit i) fr h
 | .goto _,_,_=>False
 | .ret,fr,h=>K .ret fr h
theorem zGy{K fr h}(hx:K .ret fr h):zJY K .ret fr h:=hx
theorem V4{b fr h K}(hx:WX P tab b fr h (zJY K)):WX P tab (.scope b) fr h K:=by
 unfold WX at hx |-;obtain⟨e,fr',h',k,ev⟩:=hx;have run:∀ n,(BH P tab n).exec b fr h=some (e,fr',h')->(∀ l,e≠ .goto l)->YE (BH P tab n) zOo b b fr h=some (e,fr',h'):=fun n h1 h2=>by
  show YE (BH P tab n) (4294967295+1) b b fr h=_;rw[YE,h1];cases e with
  |goto l=>exact absurd rfl (h2 l)
  |_=>rfl
 cases e with
 |goto l=>exact k.elim
 |normal=>exact⟨_,_,_,k,Ev.up (ev.mono fun n e=>by rw[zp];simp only[zl];exact run n e (fun l h=>by cases h))⟩
 |exit i=>exact⟨_,_,_,k,Ev.up (ev.mono fun n e=>by rw[zp];simp only[zl];exact run n e (fun l h=>by cases h))⟩
 |ret=>exact⟨_,_,_,k,Ev.up (ev.mono fun n e=>by rw[zp];simp only[zl];exact run n e (fun l h=>by cases h))⟩
end
def Bj{α:Type}(R:Uy->List Value->α->Prop)(h:Uy)(cs:List Value)(a:α)(D:Nat->Prop):Prop:=
 ∀ hx:Uy,(∀ k o,D k->h.get k=some o->hx.get k=some o)->h.n<=hx.n->R hx cs a
def OwnR{α:Type}(c:Nat)(R:Uy->List Value->α->Prop)(b:Nat)(h:Uy)(v:Value)(xs:List α):Prop:=
 (v=.slice none 0 0/\xs=[])\/∃ g cells D,b<=g/\g<h.n/\v=.slice (some ⟨g,0,none⟩) xs.length c/\h.get g=some (.row cells true 0)/\cells.length=xs.length*c/\¬D g/\(∀ k,D k->b<=k/\k<h.n)/\
  ∀ (i:Nat) (a:α),xs[i]?=some a->Bj R h ((cells.drop (i*c)).take c) a D
section
variable {α:Type}{c b:Nat}{R:Uy->List Value->α->Prop}{h h':Uy}{v:Value}{xs:List α}
theorem Bj.self{cs:List Value}{a:α}{D:Nat->Prop}(d:Bj R h cs a D):R h cs a:=d h (fun _ _ _ e=>e) (QE _)
theorem Bj.mono{cs:List Value}{a:α}{D E:Nat->Prop}(d:Bj R h cs a D)(hE:∀ k,D k->E k)(hk:∀ k o,D k->h.get k=some o->h'.get k=some o)(hn:h.n<=h'.n):Bj R h' cs a E:=
 fun hx h1 h2=>d hx (fun k o hd e=>h1 k o (hE k hd) (hk k o hd e)) (QU hn h2)
theorem OwnR.nil:OwnR c R b h (.slice none 0 0) ([]:List α):= .inl ⟨rfl,rfl⟩
theorem OwnR.upd(o:OwnR c R b h v xs)(hk:∀ k,b<=k->k<h.n->h'.get k=h.get k)(hn:h.n<=h'.n):OwnR c R b h' v xs:=by
 rcases o with o|⟨g,cells,D,g1,g2,g3,g4,g5,g6,g7,g8⟩
 ·exact .inl o
 ·exact .inr ⟨g,cells,D,g1,QL g2 hn,g3,(hk g g1 g2).trans g4,g5,g6,fun k hd=>⟨(g7 k hd).1,QL (g7 k hd).2 hn⟩,fun i a ha=>(g8 i a ha).mono (fun _ h=>h) (fun k o hd e=>(hk k (g7 k hd).1 (g7 k hd).2).trans e) hn⟩
theorem OwnR.ext(o:OwnR c R b h v xs)(e:Ext h h'):OwnR c R b h' v xs:=o.upd (fun k _ hk=>e.get k hk) e.n
theorem OwnR.dep(o:OwnR c R b h v xs){hx:Uy}(hk:∀ k o,b<=k->k<h.n->h.get k=some o->hx.get k=some o)(hn:h.n<=hx.n):Wu c R hx v xs:=by
 rcases o with⟨rfl,rfl⟩|⟨g,cells,D,g1,g2,rfl,g4,g5,g6,g7,g8⟩
 ·exact Wu.nil
 ·refine⟨cells,⟨g5,.inr ⟨g,0,cells,rfl,ZU (hk g _ g1 g2 g4),?_,QL g2 hn⟩⟩,fun i a ha=>g8 i a ha hx (fun k o hd e=>hk k o (g7 k hd).1 (g7 k hd).2 e) hn⟩;rw[ZF (by omega)];simp[<-g5]
theorem OwnR.sl(o:OwnR c R b h v xs):Wu c R h v xs:=o.dep (fun _ _ _ _ e=>e) (QE _)
theorem OwnR.base{b':Nat}(o:OwnR c R b h v xs)(hb:b'<=b):OwnR c R b' h v xs:=by
 rcases o with o|⟨g,cells,D,g1,g2,g3,g4,g5,g6,g7,g8⟩
 ·exact .inl o
 ·exact .inr ⟨g,cells,D,QU hb g1,g2,g3,g4,g5,g6,fun k hd=>⟨QU hb (g7 k hd).1,(g7 k hd).2⟩,g8⟩
theorem U5.depI{hb:Uy}{w:Value}{l:List Int}(o:U5 hb h w l){hx:Uy}(hk:∀ k o,hb.n<=k->k<h.n->h.get k=some o->hx.get k=some o)(hn:h.n<=hx.n):WH hx w l:=by
 rcases o with⟨rfl,rfl⟩|⟨g,g1,g2,rfl,g4⟩
 ·exact WH.nil hx
 ·exact WH.own (QL g2 hn) (hk g _ g1 g2 g4)
theorem zNG{cells cs:List Value}{n i:Nat}(hl:cells.length=n*c)(hc:cs.length=c)(hi:i<n):(((cells++cs).drop (i*c)).take c)=(cells.drop (i*c)).take c:=by
 have h1:i*c+c<=n*c:=by rw[<-G4];exact GP _ hi
 rw[List.drop_append,List.take_append_of_le_length];rw[List.length_drop];omega
theorem zJ4{cells cs:List Value}{n:Nat}(hl:cells.length=n*c)(hc:cs.length=c):(((cells++cs).drop (n*c)).take c)=cs:=by
 rw[List.drop_append,List.drop_eq_nil_of_le (by omega),GK,hl,Nat.sub_self,Q3,Q9 (by omega)]
theorem OwnR.snoc(o:OwnR c R b h v xs){cs:List Value}{a:α}{Dn:Nat->Prop}{g':Nat}{olds:List Value}(hc:cs.length=c)(d:Bj R h cs a Dn)(hD:∀ k,Dn k->b<=k/\k<h.n)(hv:∀ g n k,v=.slice (some ⟨g,0,none⟩) n k->¬Dn g)
  (hold:∀ g n k,v=.slice (some ⟨g,0,none⟩) n k->h.get g=some (.row olds true 0)) (hnil:v=.slice none 0 0->olds=[])
  (hg:h.n<=g') (hb:b<=g') (hg2:g'<h'.n) (hget:h'.get g'=some (.row (olds++cs) true 0)) (keep:∀ k,b<=k->k<h.n->(∀ n k',v≠ .slice (some ⟨k,0,none⟩) n k')->h'.get k=h.get k):
  OwnR c R b h' (.slice (some ⟨g',0,none⟩) (xs++[a]).length c) (xs++[a]):=by
 rcases o with⟨rfl,rfl⟩|⟨g,cells,D,g1,g2,rfl,g4,g5,g6,g7,g8⟩
 ·have:=hnil rfl;subst this;refine .inr ⟨g',cs,Dn,hb,hg2,rfl,by simpa using hget,by simp[hc],fun hd=>by have:=(hD _ hd).2;omega,fun k hd=>⟨(hD k hd).1,by have:=(hD k hd).2;omega⟩,fun i x hx=> ?_⟩;have hi:i=0:=by
   have:=(QS.1 hx).1;simp at this;omega
  subst hi;simp at hx;subst hx;rw[Nat.zero_mul,Q3,Q9 (by omega)];exact d.mono (fun _ h=>h) (fun k o hd e=>(keep k (hD k hd).1 (hD k hd).2 (fun _ _ e=>by cases e)).trans e) (by omega)
 ·have:=hold g _ _ rfl;rw[g4]at this;cases this;refine .inr ⟨g',olds++cs,fun k=>D k\/Dn k,hb,hg2,rfl,hget,by rw[QR,QR,QX,G4,g5,hc],fun hd=> ?_,fun k hd=> ?_,fun i x hx=> ?_⟩
  ·rcases hd with hd|hd
   ·have:=(g7 _ hd).2;omega
   ·have:=(hD _ hd).2;omega
  ·rcases hd with hd|hd
   ·exact⟨(g7 k hd).1,by have:=(g7 k hd).2;omega⟩
   ·exact⟨(hD k hd).1,by have:=(hD k hd).2;omega⟩
  ·by_cases hi:i<xs.length
   ·rw[Q6 hi]at hx;rw[zNG g5 hc hi];refine(g8 i x hx).mono (fun k h=> .inl h) (fun k o hd e=>(keep k (g7 k hd).1 (g7 k hd).2 (fun n k' e2=> ?_)).trans e) (by omega);cases e2;exact g6 hd
   ·rw[GH (by omega)]at hx;have hi2:i=xs.length:=by
     have:=(QS.1 hx).1;simp at this;omega
    subst hi2;simp at hx;subst hx;rw[zJ4 g5 hc];refine d.mono (fun k h=> .inr h) (fun k o hd e=>(keep k (hD k hd).1 (hD k hd).2 (fun n k' e2=> ?_)).trans e) (by omega);exact hv k n k' e2 hd
end
section
variable {P:Program}{tab:Wm}{t:U3 Value}{h:Uy}{ds:List Deferred}{rd:Option Nat}{l:List U1}{Q:WG->Uy->Prop}
theorem zAT{zero cs:List Value}{v:Value}{c:Nat}(hv:v.cells=cs.toArray)(hc:cs.length=c)(hz:zero.length=c):Zi (zg zero 1) [(0,c,v)]=some cs:=by
 have h1:zg zero 1=zero:=by simp[zg]
 have h2:Nat.beq v.cells.size c=true:=by rw[hv];simp[hc]
 have h3:Nat.ble (0+c) zero.length=true:=QG (by omega);rw[h1];simp only[Zi,h2,h3,Qt,cond_true,hv];congr 1;simp[zh,hc,hz]
theorem Yr{α:Type}{c b gl:Nat}{R:Uy->List Value->α->Prop}{h H:Uy}{v:Value}{xs:List α}{cs:List Value}{a:α}{Dn:Nat->Prop}(o:OwnR c R b h v xs)(hc:cs.length=c)(hc0:0<c)(h1:zK cs=true)(hl:xs.length<=100000)(hbn:b<=h.n)
  (d:Bj R h cs a Dn) (hD:∀ k,Dn k->b<=k/\k<h.n) (hv:∀ g n k,v=.slice (some ⟨g,0,none⟩) n k->¬Dn g) (hH:h.n<=H.n) (hgl:gl<H.n) (hkeep:∀ k,k<h.n->H.get k=h.get k) (hlit:H.get gl=some (.row cs true 0)):
  ∃ v' H',yP c v (.slice (some ⟨gl,0,none⟩) 1 c) H=some (v',H')/\OwnR c R b H' v' (xs++[a])/\H'.n=H.n+1/\(∀ k,k<H.n->(∀ n k',v≠ .slice (some ⟨k,0,none⟩) n k')->H'.get k=H.get k)/\H'.mark=H.mark/\(∀ k∈H'.wr,k∈H.wr\/b<=k)/\
   (H.mark<=b->H'.wr=H.wr)/\(Wf H->Wf H')/\(∃ n k g,v'=.slice (some ⟨g,0,none⟩) n k/\H.n<=g):=by
 obtain⟨y,ys,rfl⟩:∃ y ys,cs=y::ys:=by
  cases cs with
  |nil=>simp at hc;omega
  |cons y ys=>exact⟨y,ys,rfl⟩
 have hsrc:yU c H (.slice (some ⟨gl,0,none⟩) 1 c)=some (y::ys):=by
  have e1:yW H gl=some (y::ys):=ZU hlit;have e2:cut (y::ys) 0 (1*c)=some (y::ys):=by rw[ZF (by omega)];simp[<-hc]
  have e3:Nat.beq 1 0=false:=rfl;rw[Nat.one_mul]at e2;simp only[yU,e1,e3,Nat.one_mul,e2,GS,Qn,Qt,cond_true,QV]
 have hdiv:(y::ys).length / c=1:=by rw[hc];exact Nat.div_self hc0
 have hroom:room=4294967296:=rfl;rcases id o with⟨rfl,rfl⟩|⟨g,cells,D,g1,g2,rfl,g4,g5,g6,g7,g8⟩
 ·have hb1:Nat.ble 1 room=true:=rfl;refine⟨.slice (some ⟨H.n,0,none⟩) 1 c,H.push (.row (y::ys) true 0),?_,?_,rfl,fun k hk _=> ?_,rfl,fun k hk=> .inl hk,fun _=>rfl,fun w k hk=> ?_,⟨_,_,_,rfl,QE _⟩⟩
  ·simp only[yP,hsrc,h1,QW,QV,hdiv,hb1,cond_true];rfl
  ·have:=o.snoc (h':=H.push (.row (y::ys) true 0)) (g':=H.n) (olds:=[]) hc d hD hv (fun g n k e=>by cases e) (fun _=>rfl) hH (QU hbn hH) (Q1 _) (zU _ _) (fun k _ hk _=>by rw[zT,QC (by omega)];exact hkeep k hk);exact this
  ·rw[zT,QC (by omega)]
  ·have hk:H.n+1<=k:=hk;rw[zT,QC (by omega)];exact w k (by omega)
 ·have hb1:Nat.ble (xs.length+1) room=true:=QG (by omega);have hq:H.get g=some (.row cells true 0):=(hkeep g g2).trans g4;have h2:cut cells 0 (xs.length*c)=some cells:=by rw[ZF (by omega)];simp[<-g5]
  have h3:Nat.ble 0 (0+xs.length*c)=true:=QG (QK _);have hcc:Nat.beq c 0=false:=by cases hz:Nat.beq c 0 with
   |false=>rfl
   |true=>have:=QM hz;omega
  have hKn:(H.kill g).n=H.n:=rfl;refine⟨.slice (some ⟨H.n,0,none⟩) (xs.length+1) c,(H.kill g).push (.row (cells++y::ys) true (0-0)),?_,?_,rfl,fun k hk hvk=> ?_,rfl,fun k hk=> ?_,fun hm=> ?_,fun w k hk=> ?_,⟨_,_,_,rfl,QE _⟩⟩
  ·simp only[yP,hsrc,h1,QW,QV,hdiv,hb1,hcc,GS,hq,h2,h3,cond_true,Qn,Qt]
  ·have:=o.snoc (h':=(H.kill g).push (.row (cells++y::ys) true (0-0))) (g':=H.n) (olds:=cells) hc d hD hv (fun g n k e=>by cases e;exact g4) (fun e=>by cases e) hH (QU hbn hH) (Q1 _) (zU (H.kill g) _) (fun k _ hk hvk=>by
    rw[zT,QC (by rw[hKn];omega),yl,QC (fun e=>hvk _ _ (by rw[e]))];exact hkeep k hk)
   rw[QR,QX]at this;exact this
  ·rw[zT,QC (by rw[hKn];omega),yl,QC (fun e=>hvk _ _ (by rw[e]))]
  ·have hk2:k∈H.log g:=hk;rcases yp hk2 with rfl|h
   ·exact .inr g1
   ·exact .inl h
  ·show H.log g=H.wr;exact Y3 (by omega)
  ·have hk:H.n+1<=k:=hk;rw[zT,QC (by rw[hKn];omega),yl];split
   ·rfl
   ·exact w k (by omega)
theorem Vw{α:Type}{c b d1 d2:Nat}{R:Uy->List Value->α->Prop}{hB:Uy}{v w:Value}{xs:List α}{cs zero:List Value}(a:α)(Dn:Nat->Prop){x y:Operand}(o:OwnR c R b h v xs)(e0:Ext hB h)(hb:hB.n<=b)(hbn:b<=h.n)(hc0:0<c)(hl:xs.length<=100000)
  (d:Bj R h cs a Dn) (hD:∀ k,Dn k->b<=k/\k<h.n) (hv:∀ g n k,v=.slice (some ⟨g,0,none⟩) n k->¬Dn g)
  (k:∀ v' h' lit,Ext hB h'->OwnR c R b h' v' (xs++[a])->h.n<=h'.n->(∀ k,k<h.n->(∀ n k',v≠ .slice (some ⟨k,0,none⟩) n k')->h'.get k=h.get k)->WO P tab l ⟨(t.set d1 lit).set d2 v',ds,rd⟩ h' Q)
  (hx:WA t x w:=by exact zj) (hw:w.cells=cs.toArray:=by rfl) (hc:cs.length=c:=by rfl) (h1:zK cs=true:=by rfl) (hz:zero.length=c:=by rfl) (hy:∀ u,WA (t.set d1 u) y v:=by intro u;exact zj):
  WO P tab (⟨some d1,none,.buildSlice 1 c zero [(0,c,x)]⟩::⟨some d2,none,.append c y (.tmp d1)⟩::l) ⟨t,ds,rd⟩ h Q:=by
 have hx:ev t x=w:=hx;refine WO.op (.slice (some ⟨h.n,0,none⟩) 1 c) (h.push (.row cs true 0)) rfl (by
  simp only[U6,zv,Qr,Gb,hx,zAT hw hc hz,QI];rfl) ?_
 obtain⟨v',H',q1,q2,q3,q4,q5,q6,q7,q8,q9⟩:=Yr (H:=h.push (.row cs true 0)) (gl:=h.n) o hc hc0 h1 hl hbn d hD hv (GU _) (Q1 _) (fun k hk=>by rw[zT,QC (by omega)]) (zU _ _);have hyv:ev (t.set d1 (.slice (some ⟨h.n,0,none⟩) 1 c)) y=v:=hy _;have e1:ev (t.set d1 (.slice (some ⟨h.n,0,none⟩) 1 c)) (.tmp d1)=.slice (some ⟨h.n,0,none⟩) 1 c:=by simp only[ev,ze,Q0]
 refine WO.op v' H' rfl (by simp only[U6,hyv,e1,q1]) (k v' H' _ ?_ q2 (by rw[q3];show h.n<=h.n+1+1;omega) (fun k hk hvk=> ?_))
 ·have hvb:∀ k,k<hB.n->∀ n k',v≠ .slice (some ⟨k,0,none⟩) n k':=fun k hk n k' e=>by
   rcases o with⟨e2,_⟩|⟨g,_,_,g1,_,e2,_⟩
   ·rw[e2]at e;cases e
   ·rw[e2]at e;cases e;omega
  refine⟨by rw[q3];show hB.n<=h.n+1+1;have:=e0.n;omega,fun k hk=> ?_,fun w=>q8 ?_,q5.trans e0.mark,fun hm=> ?_⟩
  ·have:=e0.n;rw[q4 k (by show k<h.n+1;omega) (hvb k hk),zT,QC (by omega)];exact e0.get k hk
  ·intro k hk;have hk:h.n+1<=k:=hk;rw[zT,QC (by omega)];exact e0.wf w k (by omega)
  ·rw[q7 (by show h.mark<=b;rw[e0.mark];omega)];exact e0.wr hm
 ·rw[q4 k (by show k<h.n+1;omega) hvk,zT,QC (by omega)]
theorem UA{α:Type}{c b d1 d2 d3 s j m N0:Nat}{cl:Bool}{R:Uy->List Value->α->Prop}{hB hS X:Uy}{p v w:Value}{xs:List α}{cs zero cells:List Value}(a:α)(Dn:Nat->Prop){x y:Operand}{K:WB->WG->Uy->Prop}
  (eX:Ext (inC (zC 1 hS)) X) (o:OwnR c R b hS v xs) (e0:Ext hB hS) (hm:hS.mark<=hB.n) (hb:hB.n<=b) (hbn:b<=hS.n) (hc0:0<c) (hl:xs.length<=100000) (op:Uz hB hS p cells) (hpb:∀ g,p=.pointer (some ⟨g,0,none⟩)->g<b)
  (d:Bj R X cs a Dn) (hD:∀ k,Dn k->b<=k/\k<X.n) (hv:∀ g n k,v=.slice (some ⟨g,0,none⟩) n k->¬Dn g) (hDs:¬Dn hS.n) (hj:j<cells.length) (hcl:zK cells=true)
  (k:∀ H v' t',zED [d1,d2,d3] t t'->Ext hB H->Uz hB H p (cells.set j v')->zK (cells.set j v')=true->OwnR c R b H v' (xs++[a])->(∀ k,k<hS.n->p≠ .pointer (some ⟨k,0,none⟩)->(∀ n k',v≠ .slice (some ⟨k,0,none⟩) n k')->H.get k=hS.get k)->hS.n<=H.n->K .normal ⟨t',ds,rd⟩ H)
  (hx:WA t x w:=by exact zj) (hw:w.cells=cs.toArray:=by rfl) (hc:cs.length=c:=by rfl) (h1:zK cs=true:=by rfl) (hz:zero.length=c:=by rfl) (hy:∀ u,WA (t.set d1 u) y v:=by intro u;exact zj) (hs:∀ u u',WA ((t.set d1 u).set d2 u') (.tmp s) p:=by intro u u';exact zj) (h32:Nat.beq d2 d3=false:=by rfl) (hm0:m=hS.mark:=by rfl):
  WM P tab m N0 [(⟨some d1,none,.buildSlice 1 c zero [(0,c,x)]⟩,[]),(⟨some d2,none,.append c y (.tmp d1)⟩,[]),(⟨some d3,none,.fld j (.tmp s)⟩,[]),(⟨none,none,.store 1 (.tmp d3) (.tmp d2)⟩,[])] hS.n cl ⟨t,ds,rd⟩ (inC X) (zBI K hS):=by
 subst hm0;have hx:ev t x=w:=hx;have hnX:hS.n+1<=X.n:=eX.n;obtain⟨gp,gp1,gp2,hp,gp3⟩:=op;have hgpb:=hpb gp hp;rw[WM,QF (show Nat.beq (zH (Wl.buildSlice 1 c zero [(0,c,x)])) 3=true from rfl)];refine⟨rfl,.inl ⟨rfl,by have:=e0.n;omega,.row cs true 0,_,by simp only[yg,zv,Qr,Gb,hx,zAT hw hc hz,QI];rfl,?_⟩⟩;generalize hH1:(inC (inC X)).lay hS.n (.row cs true 0)=H1;have n1:H1.n=X.n:=by rw[<-hH1];rfl
 have get1:∀ c',H1.get c'=if c'=hS.n then some (.row cs true 0)else X.get c':=fun c'=>by rw[<-hH1];exact zQ _ _ _ _
 have getX:∀ k,k<hS.n->X.get k=hS.get k:=fun k hk=>eX.get k (by show k<hS.n+1;omega);have oX:OwnR c R b X v xs:=o.upd (fun k _ hk=>getX k hk) (by omega);have oX1:OwnR c R b (inC H1) v xs:=by
  rcases o with o|⟨g,cl',D,g1,g2,g3,g4,g5,g6,g7,g8⟩
  ·exact .inl o
  ·refine .inr ⟨g,cl',D,g1,by show g<H1.n;omega,g3,?_,g5,g6,fun k hd=>⟨(g7 k hd).1,by have:=(g7 k hd).2;show k<H1.n;omega⟩,fun i a ha=>(g8 i a ha).mono (fun _ h=>h) (fun k o hd e=> ?_) (by show hS.n<=H1.n;omega)⟩
   ·show H1.get g=_;rw[get1,QC (by omega),getX g g2];exact g4
   ·have:=(g7 k hd).2;show H1.get k=_;rw[get1,QC (by omega),getX k this];exact e
 have d1':Bj R (inC H1) cs a Dn:=d.mono (fun _ h=>h) (fun k o hd e=>by
  show H1.get k=_;rw[get1,QC (fun e2:k=hS.n=>by subst e2;exact hDs hd)];exact e) (by show X.n<=H1.n;omega)
 obtain⟨v',H2,q1,q2,q3,q4,q5,q6,q7,q8,n',k',g',q9,q10⟩:=Yr (H:=inC H1) (gl:=hS.n) oX1 hc hc0 h1 hl (by show b<=H1.n;omega) d1' (fun k hd=>⟨(hD k hd).1,by have:=(hD k hd).2;show k<H1.n;omega⟩) hv (QE _) (by show hS.n<H1.n;omega) (fun _ _=>rfl) (by show H1.get hS.n=_;rw[get1,QF rfl]);rw[WM,QC (show ¬Nat.beq (zH (Wl.append c y (.tmp d1))) 3=true from Bool.noConfusion)];have hyv:ev (t.set d1 (.slice (some ⟨hS.n,0,none⟩) 1 c)) y=v:=hy _;have e1:ev (t.set d1 (.slice (some ⟨hS.n,0,none⟩) 1 c)) (.tmp d1)=.slice (some ⟨hS.n,0,none⟩) 1 c:=by simp only[ev,ze,Q0]
 refine WO.op v' H2 rfl (by simp only[U6,hyv,e1,q1]) ?_;refine WO.nil ⟨⟨fun c' hc'=> ?_,by show H1.n<=H2.n;rw[q3];exact GU _,.inl rfl⟩,?_⟩
 ·rcases q6 c' hc' with h|h
  ·cases h
  ·omega
 have hvp:∀ n k,v≠ .slice (some ⟨gp,0,none⟩) n k:=fun n k e=>by
  rcases o with⟨e2,_⟩|⟨g,_,_,g1,_,e2,_⟩
  ·rw[e2]at e;cases e
  ·rw[e2]at e;cases e;omega
 have own2:H2.get gp=some (.row cells true 0):=by
  rw[q4 gp (by show gp<H1.n;omega) hvp];show H1.get gp=_;rw[get1,QC (by omega),getX gp gp2];exact gp3
 rw[WM,QC (show ¬Nat.beq (zH (Wl.fld j (.tmp s))) 3=true from Bool.noConfusion)];have hs2:ev ((t.set d1 (.slice (some ⟨hS.n,0,none⟩) 1 c)).set d2 v') (.tmp s)=p:=hs _ _;refine WO.op (.pointer (some ⟨gp,j,none⟩)) (inC H2) rfl (by simp only[U6,hs2,hp,GC,Qn,cond_true]) ?_;refine WO.nil ⟨⟨fun c' hc'=>(by cases hc'),QE _,.inl rfl⟩,?_⟩;rw[WM,QC (show ¬Nat.beq (zH (Wl.store 1 (.tmp d3) (.tmp d2))) 3=true from Bool.noConfusion)];have hvone:zK [v']=true:=by rw[q9];rfl
 have hvcells:v'.cells=#[v']:=by rw[q9];rfl
 have hst:zo (inC (inC H2)) ⟨gp,j,none⟩ [v']=some ((inC (inC H2)).set gp (.row (cells.set j v') true 0)):=by
  have hg':(inC (inC H2)).get gp=some (.row cells true 0):=own2;have h1:Nat.ble (j+1) cells.length=true:=QG hj;have h0:Nat.ble 0 j=true:=QG (QK _);simp only[zo,hg',QX,h1,h0,hvone,Qt,zBY hj];rfl
 have hd32:¬d2=d3:=fun e=>by subst e;simp at h32
 refine VT undef ((inC (inC H2)).set gp (.row (cells.set j v') true 0)) rfl (by
  have a1:∀ tt:U3 Value,ev (tt.set d3 (.pointer (some ⟨gp,j,none⟩))) (.tmp d3)=.pointer (some ⟨gp,j,none⟩):=fun tt=>by
   simp only[ev,ze,Q0]
  have a2:∀ w,ev (((t.set d1 (.slice (some ⟨hS.n,0,none⟩) 1 c)).set d2 w).set d3 (.pointer (some ⟨gp,j,none⟩))) (.tmp d2)=w:=fun w=>by
   simp only[ev,ze,QC hd32,Q0]
  simp only[val,U6,a1,a2,hvcells,Gj,QX,GS,hst,QI,cond_true]) ?_
 refine WO.nil ⟨⟨fun c' hc'=> ?_,QE _,.inl rfl⟩,?_⟩
 ·have hc2:c'∈(inC (inC H2)).log gp:=hc';rcases yp hc2 with rfl|h
  ·omega
  ·cases h
 generalize hH:outC hS ((inC (inC H2)).set gp (.row (cells.set j v') true 0))=H;have nH:H.n=X.n+1:=by rw[<-hH];show H2.n=_;rw[q3];show H1.n+1=_;omega
 have getH:∀ c',H.get c'=if c'=gp then some (.row (cells.set j v') true 0)else H2.get c':=fun c'=>by rw[<-hH];exact zQ _ _ _ _
 have keepH:∀ c',c'<hS.n->c'≠gp->(∀ n k,v≠ .slice (some ⟨c',0,none⟩) n k)->H.get c'=hS.get c':=fun c' h1 h2 h3=>by
  rw[getH,QC h2,q4 c' (by show c'<H1.n;omega) h3];show H1.get c'=_;rw[get1,QC (by omega),getX c' h1]
 have hvB:∀ k,k<hB.n->∀ n k',v≠ .slice (some ⟨k,0,none⟩) n k':=fun k hk n k' e=>by
  rcases o with⟨e2,_⟩|⟨g,_,_,g1,_,e2,_⟩
  ·rw[e2]at e;cases e
  ·rw[e2]at e;cases e;omega
 have oneH:zK (cells.set j v')=true:=by
  unfold zK at *;rw[QY]at *;intro z hz;rcases List.mem_or_eq_of_mem_set hz with h|h
  ·exact hcl z h
  ·subst h;rw[q9]
 show K .normal _ _;rw[hH];refine k H v' _ (fun i hi=> ?_) ?_ ⟨gp,gp1,by rw[nH];omega,hp,by rw[getH,QF rfl]⟩ oneH (q2.upd (fun k hk1 hk2=>by rw[getH,QC (by omega)]) (by rw[nH,q3];show H1.n+1<=_;omega)) (fun c' h1 h2 h3=>keepH c' h1 (fun e=>h2 (by rw[hp,e])) h3) (by rw[nH];omega)
 ·have hc:=ZQ hi;rw[List.contains_eq_mem,Gf]at hc;have b1:¬i=d1:=fun e=>hc (by simp[e]);have b2:¬i=d2:=fun e=>hc (by simp[e]);have b3:¬i=d3:=fun e=>hc (by simp[e]);simp only[val,ze,QC b1,QC b2,QC b3]
 ·have hn0:=e0.n;refine⟨by rw[nH];omega,fun k hk=>(keepH k (by omega) (by omega) (hvB k hk)).trans (e0.get k hk),fun w k hk=> ?_,?_,fun hmk=> ?_⟩
  ·rw[nH]at hk;rw[getH,QC (by omega)];refine q8 (fun k2 hk2=> ?_) k (by rw[q3];show H1.n+1<=k;omega);have hk2:H1.n<=k2:=hk2;show H1.get k2=_;rw[get1,QC (by omega)];exact eX.wf (fun k3 hk3=>e0.wf w k3 (by have:hS.n+1<=k3:=hk3;omega)) k2 (by omega)
  ·rw[<-hH];exact e0.mark
  ·rw[<-hH];exact e0.wr hmk
end
section
variable {P:Program}{tab:Wm}{m:Nat}{Bad:Nat->Prop}{l:List (U1×List Nat)}{o:U1}{un:List Nat}{g:Nat}{fr:WG}{h h0 h':Uy}{Q:WG->Uy->Prop}{K:WB->WG->Uy->Prop}{t:U3 Value}{ds:List Deferred}{rd:Option Nat}
theorem zNK{d:Option Nat}{agg:Bool}{n j:Nat}{x:Operand}{v:Value}(hv:∃ a n k,v=.slice (some a) n k/\¬Bad a.block)(hx:BE P tab m Bad l g fr (inC h) Q)(hr:WA t x (zx v j):=by exact zj):uK6 P tab m Bad [] t ⟨d,none,.load agg n x⟩ l g Q fr (inC h):=by
 obtain⟨a,n',k',rfl,hb⟩:=hv;exact zJy (a:=a) (k:=j) hr hb hx
theorem zM2{N0 j n:Nat}{d:Option Nat}{agg:Bool}{x:Operand}{v:Value}{un:List Nat}(hv:∃ a n k,v=.slice (some a) n k/\a.block<N0)(hx:WM P tab m N0 l g true fr (inC h) Q)(hr:WA t x (zx v j):=by exact zj):
  uK2 P tab m N0 un t ⟨d,none,.load agg n x⟩ (inC h) l g true Q fr (inC h):=by
 obtain⟨a,n',k',rfl,hb⟩:=hv;refine zC9 (fun k hk=> ?_) hx;unfold WA zx at hr;simp only[zi,zS,cond_true,hr,QA]at hk;omega
theorem YM{α:Type}{c i:Nat}{R:Uy->List Value->α->Prop}{v:Value}{xs:List α}(s:Wu c R h v xs)(hi:i<xs.length):∃ a n k,v=.slice (some a) n k/\a.block<h.n:=by
 obtain⟨cells,⟨h1,⟨h2,_⟩|⟨g,off,row,rfl,_,_,hg⟩⟩,_⟩:=s
 ·omega
 ·exact⟨_,_,_,rfl,hg⟩
theorem zFk{c i n:Nat}{h:Uy}{v:Value}{cells:List Value}(a:WT c h v n cells)(hi:i<n):Wc h v (i*c) ((cells.drop (i*c)).take c):=by
 have hlen:cells.length=n*c:=a.1;have hle:i*c+c<=cells.length:=by
  rw[hlen,<-G4];exact GP _ hi
 intro P ih t x agg k off r hx hn hr;cases hc:cut ((cells.drop (i*c)).take c) off k with
 |none=>rw[hc]at hr;cases hr
 |some m=>
  rw[hc]at hr;have h1:cut cells (i*c) c=Option.some ((cells.drop (i*c)).take c):=ZF hle;exact zEE a hx (zDn h1 hc) hn hr
theorem zV{α:Type}[Inhabited α]{c:Nat}{R:Uy->List Value->α->Prop}{h:Uy}{v:Value}{T:List α}{i:Nat}(s:Wu c R h v T)(hi:i<T.length):∃ cs,R h cs (T.getD i default)/\(∀ h',Ext h h'->Wc h' v (i*c) cs/\Wc (inC h') v (i*c) cs)/\zLq v:=by
 have hs:=s.some hi;obtain⟨cells,a,b⟩:=s;refine⟨_,by simpa [List.getD,QB hi]using b i T[i] (QB hi),fun h' e=> ?_,hs⟩;have a':=a.ext e;exact⟨zFk a' hi,zFk (h:=inC h') a' hi⟩
theorem UF{d1 d2 n:Nat}{z1 z2 cs1 cs2:List Value}{y1 y2:Operand}{v1 v2:Value}{u1 u2:List Nat}{hS:Uy}(hm:hS.mark<=hS.n)
  (k:∀ H p1 p2,Ext hS H->Uz hS H p1 cs1->Uz hS H p2 cs2->K .normal ⟨(t.set d1 p1).set d2 p2,ds,rd⟩ H)
  (hy1:∀ a b,WA ((t.set d1 a).set d2 b) y1 v1:=by intro a b;exact zj) (hy2:∀ a b,WA ((t.set d1 a).set d2 b) y2 v2:=by intro a b;exact zj) (hv1:v1.cells=cs1.toArray:=by rfl) (hv2:v2.cells=cs2.toArray:=by rfl)
  (hz1:z1.length=n:=by rfl) (hz2:z2.length=n:=by rfl) (hc1:cs1.length=n:=by rfl) (hc2:cs2.length=n:=by rfl) (h1:zK cs1=true:=by rfl) (h2:zK cs2=true:=by rfl) (h12:Nat.beq d1 d2=false:=by rfl) (hm0:m=hS.mark:=by rfl):
  BE P tab m (fun g=>g=hS.n\/g=hS.n+1) [(⟨some d1,none,.alloc z1⟩,[]),(⟨some d2,none,.alloc z2⟩,[]),(⟨none,none,.store n (.tmp d1) y1⟩,u1),(⟨none,none,.store n (.tmp d2) y2⟩,u2)] hS.n ⟨t,ds,rd⟩ (inC (zC 2 hS)) (zBI K hS):=by
 subst hm0;have hd12:¬d1=d2:=fun e=>by subst e;simp at h12
 rw[BE,QF (show Nat.beq (zH (Wl.alloc z1)) 3=true from rfl)];refine⟨rfl,rfl,hm,rfl,.row z1 true 0,fun g=> .pointer (some ⟨g,0,none⟩),rfl,?_⟩;rw[BE,QF (show Nat.beq (zH (Wl.alloc z2)) 3=true from rfl)];refine⟨rfl,rfl,by show hS.mark<=hS.n+1;omega,rfl,.row z2 true 0,fun g=> .pointer (some ⟨g,0,none⟩),rfl,?_⟩;generalize hH2:(inC ((inC (inC (zC 2 hS))).lay hS.n (.row z1 true 0))).lay (hS.n+1) (.row z2 true 0)=H2;have n2:H2.n=hS.n+2:=by rw[<-hH2];rfl
 have get2:∀ c,H2.get c=if c=hS.n+1 then some (.row z2 true 0)else if c=hS.n then some (.row z1 true 0)else hS.get c:=fun c=>by
  rw[<-hH2];refine(zQ _ _ _ _).trans ?_;split
  ·rfl
  ·exact zQ _ _ _ _
 have store:∀ (X:Uy) (g:Nat) (z cs:List Value),X.get g=some (.row z true 0)->z.length=n->cs.length=n->zK cs=true->zo (inC X) ⟨g,0,none⟩ cs=some ((inC X).set g (.row cs true 0)):=fun X g z cs hg hz hc h1=>by
  have hg':(inC X).get g=some (.row z true 0):=hg;have h2:Nat.ble (0+cs.length) z.length=true:=QG (by omega);have h3:Nat.ble 0 0=true:=rfl;have h4:zh z 0 cs=cs:=by simp[zh,hz,hc]
  simp only[zo,hg',h2,h3,h1,h4,Qn,Qt,cond_true]
 have e1:∀ a b,ev ((t.set d1 a).set d2 b) (.tmp d1)=a:=fun a b=>by simp only[ev,ze,QC hd12,Q0]
 have e2:∀ a b,ev ((t.set d1 a).set d2 b) (.tmp d2)=b:=fun a b=>by simp only[ev,ze,Q0]
 have y1e:∀ a b,ev ((t.set d1 a).set d2 b) y1=v1:=hy1;have y2e:∀ a b,ev ((t.set d1 a).set d2 b) y2=v2:=hy2;rw[BE,QC (show ¬Nat.beq (zH (Wl.store n (.tmp d1) y1)) 3=true from Bool.noConfusion)];refine VT undef ((inC H2).set hS.n (.row cs1 true 0)) rfl (by
  simp only[val,U6,e1,y1e,hv1,Gj,hc1,GS,store H2 hS.n z1 cs1 (by rw[get2,QC (by omega),QF rfl]) hz1 hc1 h1,QI,cond_true]) ?_
 refine WO.nil ⟨fun c hc=> ?_,.inr ⟨rfl,fun c hc=> ?_⟩,fun c hc=>(by cases hc),?_⟩
 ·have hc:c∈(inC H2).log hS.n:=hc;rcases yp hc with rfl|h
  ·exact hm
  ·cases h
 ·have hc:c∈(inC H2).log hS.n:=hc;rcases yp hc with rfl|h
  ·exact .inl rfl
  ·cases h
 generalize hH3:(inC H2).set hS.n (.row cs1 true 0)=H3;have n3:H3.n=hS.n+2:=by rw[<-hH3];exact n2
 have get3:∀ c,H3.get c=if c=hS.n then some (.row cs1 true 0)else H2.get c:=fun c=>by rw[<-hH3];exact zt _ _ _ _
 rw[BE,QC (show ¬Nat.beq (zH (Wl.store n (.tmp d2) y2)) 3=true from Bool.noConfusion)];refine VT undef ((inC H3).set (hS.n+1) (.row cs2 true 0)) rfl (by
  simp only[val,U6,e2,y2e,hv2,Gj,hc2,GS,store H3 (hS.n+1) z2 cs2 (by rw[get3,QC (by omega),get2,QF rfl]) hz2 hc2 h2,QI,cond_true]) ?_
 refine WO.nil ⟨fun c hc=> ?_,.inr ⟨rfl,fun c hc=> ?_⟩,fun c hc=>(by cases hc),?_⟩
 ·have hc:c∈(inC H3).log (hS.n+1):=hc;rcases yp hc with rfl|h
  ·omega
  ·cases h
 ·have hc:c∈(inC H3).log (hS.n+1):=hc;rcases yp hc with rfl|h
  ·exact .inr rfl
  ·cases h
 generalize hH4:outC hS ((inC H3).set (hS.n+1) (.row cs2 true 0))=H4;have n4:H4.n=hS.n+2:=by rw[<-hH4];exact n3
 have get4:∀ c,H4.get c=if c=hS.n+1 then some (.row cs2 true 0)else if c=hS.n then some (.row cs1 true 0)else hS.get c:=fun c=>by
  rw[<-hH4];refine(zt (inC H3) _ _ _).trans ?_;split
  ·rfl
  ·rename_i hne;refine(get3 c).trans ?_;split
   ·rfl
   ·rename_i hne2;rw[get2,QC hne,QC hne2]
 show K .normal _ _;rw[hH4];refine k H4 (.pointer (some ⟨hS.n,0,none⟩)) (.pointer (some ⟨hS.n+1,0,none⟩)) ⟨by omega,fun c hc=>by rw[get4,QC (by omega),QC (by omega)],fun w c hc=> ?_,?_,fun hmk=> ?_⟩ ⟨hS.n,QE _,by omega,rfl,by rw[get4,QC (by omega),QF rfl]⟩ ⟨hS.n+1,by omega,by omega,rfl,by rw[get4,QF rfl]⟩
 ·rw[get4,QC (by omega),QC (by omega)];exact w c (by omega)
 ·rw[<-hH4];rfl
 ·rw[<-hH4];rfl
def RBo(_:Uy)(cs:List Value)(b:Bool):Prop:=cs=[.bool b]
abbrev zOT(h:Uy)(v:Value)(l:List Bool):Prop:=Wu 1 RBo h v l
def Wx(h0 h:Uy)(v:Value)(l:List Bool):Prop:=∃ g,h0.n<=g/\g<h.n/\v=.slice (some ⟨g,0,none⟩) l.length 1/\h.get g=some (.row (l.map .bool) true 0)
theorem Wx.ext{h0 h h' v l}(o:Wx h0 h v l)(e:Ext h h'):Wx h0 h' v l:=by
 obtain⟨g,a,b,c,d⟩:=o;exact⟨g,a,QL b e.n,c,(e.get g b).trans d⟩
theorem Wx.sl{h0 h v l}(o:Wx h0 h v l):zOT h v l:=by
 obtain⟨g,a,b,rfl,d⟩:=o;refine⟨l.map .bool,WT.own (own:=true) (lo:=0) b d (by simp),fun i x hx=> ?_⟩;obtain⟨hi,e⟩:=QS.1 hx;show((l.map Value.bool).drop (i*1)).take 1=_;rw[JF,GO (by simpa using hi)];simp[e]
theorem zIH(n:Nat):zg [.bool false] n=(List.replicate n false).map Value.bool:=by
 induction n with
 |zero=>rfl
 |succ n ih=>rw[zg,ih];rfl
theorem UE{d n:Nat}{x y:Operand}{l:List U1}(hr:n<=100000)(k:∀ v h',Ext h h'->Wx h h' v (List.replicate n false)->WO P tab l ⟨t.set d v,ds,rd⟩ h' Q)
  (hx:WA t x (I (n:Int)):=by exact zj) (hy:WA t y (I (n:Int)):=by exact zj):WO P tab (⟨some d,none,.mkSlice 1 [.bool false] x y⟩::l) ⟨t,ds,rd⟩ h Q:=by
 have h1:Nat.ble n room=true:=QG (by have:room=4294967296:=rfl;omega);have h2:Nat.ble n n=true:=QG (QE _);have hx:ev t x=I (n:Int):=hx;have hy:ev t y=I (n:Int):=hy;have hn:BC (I (n:Int))=some n:=rfl;refine WO.op _ _ rfl (by simp only[U6,hx,hy,hn,h1,h2,Qt,cond_true];rfl) (k _ _ (Zc _ _) ⟨h.n,QE _,by simp[Uy.push],by simp,?_⟩);rw[zU,zIH]
theorem Vv{N0 g:Nat}{cl:Bool}{x y:Operand}{v:Value}{bs:List Bool}{b:Bool}{i j:Nat}{hB hS X:Uy}{m:Nat}(o:Wx hB X v bs)(e0:Ext hB hS)(hm:hS.mark<=hB.n)(hX:outC hS X=hS)(hi:i<bs.length)
  (k:∀ h',Ext hB h'->Wx hB h' v (bs.set i b)->(∀ k,k<hS.n->(∀ n k',v≠ .slice (some ⟨k,0,none⟩) n k')->h'.get k=hS.get k)->hS.n<=h'.n->K .normal ⟨t,ds,rd⟩ h')
  (hx:WA t x (zx v j):=by exact zj) (hy:WA t y (.bool b):=by exact zj) (hj:j=i*1:=by rfl) (hm0:m=hS.mark:=by rfl):WM P tab m N0 [(⟨none,none,.store 1 x y⟩,[])] g cl ⟨t,ds,rd⟩ (inC X) (zBI K hS):=by
 subst hm0 hj;rw[JF]at hx;obtain⟨q,q1,q2,rfl,q3⟩:=o;have hx:ev t x=.pointer (some ⟨q,0+i,none⟩):=hx;have hy:ev t y=.bool b:=hy;have gX:∀ c,X.get c=hS.get c:=fun c=>by have:=congrArg (fun h:Uy=>h.get c) hX;exact this
 have nX:X.n=hS.n:=by have:=congrArg Uy.n hX;exact this
 rw[WM,QC (show ¬Nat.beq (zH (Wl.store 1 x y)) 3=true from Bool.noConfusion)];have hst:zo (inC (inC X)) ⟨q,0+i,none⟩ [.bool b]=some ((inC (inC X)).set q (.row ((bs.set i b).map .bool) true 0)):=by
  have g3':(inC (inC X)).get q=some (.row (bs.map .bool) true 0):=q3;have h2:Nat.ble (0+i+1) (bs.map Value.bool).length=true:=QG (by simp;omega);have h3:Nat.ble 0 (0+i)=true:=QG (QK _);have h4:zh (bs.map Value.bool) (0+i) [.bool b]=(bs.set i b).map .bool:=by
   rw[GC,zBY (by simpa using hi),List.map_set]
  have h5:zK [Value.bool b]=true:=rfl;simp only[zo,g3',QX,h2,h3,h4,h5,Qn,Qt,cond_true]
 have hc:(Value.bool b).cells=#[.bool b]:=rfl;refine VT undef ((inC (inC X)).set q (.row ((bs.set i b).map .bool) true 0)) rfl (by
  simp only[U6,hx,hy,hc,Gj,QX,GS,hst,QI,cond_true]) ?_
 refine WO.nil ⟨⟨fun k hk=> ?_,QE _,.inl rfl⟩,?_⟩
 ·have hk2:k∈(inC (inC X)).log q:=hk;rcases yp hk2 with rfl|hk3
  ·omega
  ·cases hk3
 have get2:∀ k,(outC hS ((inC (inC X)).set q (.row ((bs.set i b).map .bool) true 0))).get k=if k=q then some (.row ((bs.set i b).map .bool) true 0)else hS.get k:=fun k=>by
  have e1:((inC (inC X)).set q (.row ((bs.set i b).map .bool) true 0)).get k=if k=q then some (.row ((bs.set i b).map .bool) true 0)else(inC (inC X)).get k:=zt ..;refine e1.trans ?_;split
  ·rfl
  ·exact gX k
 refine k (outC hS ((inC (inC X)).set q (.row ((bs.set i b).map .bool) true 0))) ?_ ⟨q,q1,q2,by simp,by rw[get2,QF rfl]⟩ (fun c hc hv=>by rw[get2,QC (fun e=>hv _ _ (by rw[e]))]) (by show hS.n<=X.n;omega);refine⟨by show hB.n<=X.n;rw[nX];exact e0.n,fun c hc=>by rw[get2,QC (by omega)];exact e0.get c hc,fun w c hc=> ?_,e0.mark,fun hmk=>e0.wr hmk⟩;have hc:X.n<=c:=hc;rw[get2,QC (by omega)];exact e0.wf w c (by omega)
end
section
variable {P:Program}{tab:Wm}{t:U3 Value}{h:Uy}{ds:List Deferred}{rd:Option Nat}{l:List U1}{Q:WG->Uy->Prop}
end
section
variable {P:Program}{tab:Wm}{m N0:Nat}{l:List (U1×List Nat)}{o:U1}{g:Nat}{cl:Bool}{fr:WG}{h h0 h':Uy}{Q:WG->Uy->Prop}{K:WB->WG->Uy->Prop}{x:U1×List Nat}{t:U3 Value}
theorem zPn(hw:∀ k∈h'.wr,m<=k)(hn:h.n<=h'.n)(hx:∀ cl',WM P tab m N0 (x::l) g cl' fr (inC h') Q):uK2 P tab m N0 [] t o (inC h) (x::l) g cl Q fr h':=⟨⟨hw,hn,.inl rfl⟩,by
 have:=hx (cl&&h'.wr.isEmpty);obtain⟨y,un⟩:=x;unfold WM at this |-;exact this⟩
theorem zGU{j n:Nat}{d:Option Nat}{gd:Option (Nat×Bool)}{agg:Bool}{x:Operand}{v:Value}{un:List Nat}(hv:∃ a n k,v=.slice (some a) n k/\a.block<N0)(hx:WM P tab m N0 l g true fr (inC h) Q)(hr:WA t x (zx v j):=by exact zj):
  uK2 P tab m N0 un t ⟨d,gd,.load agg n x⟩ (inC h) l g true Q fr (inC h):=by
 obtain⟨a,n',k',rfl,hb⟩:=hv;refine zC9 (fun k hk=> ?_) hx;unfold WA zx at hr;cases hw:zS t gd with
 |false=>simp only[zi,hw,QV]at hk;cases hk
 |true=>
  simp only[zi,hw,cond_true,hr,QA]at hk;omega
theorem zPc{j n:Nat}{b:Bool}{d:Option Nat}{agg:Bool}{x:Operand}{un:List Nat}(hx:WM P tab m N0 l g true fr (inC h) Q)(s:WZ t j (.bool b):=by exact YX)(hb:b=true:=by exact zE2):
  uK2 P tab m N0 un t ⟨d,some (j,false),.load agg n x⟩ (inC h) l g true Q fr (inC h):=by
 refine zC9 (fun k hk=> ?_) hx;unfold WZ at s;subst hb;have hw:zS t (some (j,false))=false:=by simp only[zS,s];rfl
 simp only[zi,hw,QV]at hk;cases hk
end
section
variable {α:Type}{c b:Nat}{R:Uy->List Value->α->Prop}
theorem zNx{cells:List Value}{n:Nat}(hc:0<c)(hl:cells.length=n*c)(h:∀ i,i<n->zK ((cells.drop (i*c)).take c)=true):zK cells=true:=by
 unfold zK at *;rw[QY];intro x hx;obtain⟨j,hj,rfl⟩:=JD hx;have hi:j / c<n:=by rw[Nat.div_lt_iff_lt_mul hc];omega
 have h1:=QY.1 (h (j / c) hi);refine h1 _ ?_;have hd:j / c*c+j % c=j:=by rw[Nat.mul_comm];exact Nat.div_add_mod ..
 have hm:j % c<c:=Nat.mod_lt _ hc;rw[JJ];refine⟨j % c,by rw[Qj,List.length_drop];omega,?_⟩;rw[List.getElem_take,List.getElem_drop];congr 1
variable {P:Program}{tab:Wm}{t:U3 Value}{h:Uy}{ds:List Deferred}{rd:Option Nat}{l:List U1}{Q:WG->Uy->Prop}
theorem UX{d:Nat}{zero:List Value}(R:Uy->List Value->α->Prop)(k:∀ v h',Ext h h'->OwnR c R h.n h' v []->WO P tab l ⟨t.set d v,ds,rd⟩ h' Q):WO P tab (⟨some d,none,.buildSlice 0 c zero []⟩::l) ⟨t,ds,rd⟩ h Q:=by
 refine WO.op (.slice (some ⟨h.n,0,none⟩) 0 c) (h.push (.row [] true 0)) rfl rfl (k _ _ (Zc _ _) (.inr ⟨h.n,[],fun _=>False,QE _,Q1 _,rfl,zU _ _,by simp,fun h=>h,fun k hk=>hk.elim,fun i a ha=>by simp at ha⟩))
theorem XZ{d:Nat}{hB:Uy}{x y:Operand}{v w:Value}{ys:List α}(o:OwnR c R b h v ([]:List α))(s:Wu c R h w ys)(hc:0<c)(hind:∀ cs a,R h cs a->Bj R h cs a (fun _=>False))(hone:∀ cs a,R h cs a->zK cs=true)
  (e0:Ext hB h) (hb:hB.n<=b) (hbn:b<=h.n) (hl:ys.length<=100000) (k:∀ v' h',Ext hB h'->OwnR c R b h' v' ys->WO P tab l ⟨t.set d v',ds,rd⟩ h' Q) (hx:WA t x v:=by exact zj) (hy:WA t y w:=by exact zj):
  WO P tab (⟨some d,none,.append c x y⟩::l) ⟨t,ds,rd⟩ h Q:=by
 have hx:ev t x=v:=hx;have hy:ev t y=w:=hy;have hroom:room=4294967296:=rfl;obtain⟨cells,⟨hlen,hcase⟩,hR⟩:=s;have hpc:∀ i,i<ys.length->∃ a,ys[i]?=some a/\R h ((cells.drop (i*c)).take c) a:=fun i hi=>⟨ys[i],QB hi,hR i _ (QB hi)⟩;by_cases hy0:ys.length=0
 ·have hsrc:yU c h w=some []:=by
   rcases hcase with⟨_,rfl|⟨a,k',rfl⟩⟩|⟨g,off,row,rfl,_⟩
   ·rfl
   ·rfl
   ·rw[hy0];rfl
  have hys:ys=[]:=Gs hy0;subst hys;have hv:∃ a n k,v=.slice a n k/\(a=none->n=0/\k=0):=by
   rcases o with⟨rfl,_⟩|⟨g,_,_,_,_,rfl,_⟩
   ·exact⟨_,_,_,rfl,fun _=>⟨rfl,rfl⟩⟩
   ·exact⟨_,_,_,rfl,fun h=>by cases h⟩
  refine WO.op v h rfl ?_ (k v h e0 o);obtain⟨a,n,kk,rfl,ha⟩:=hv;cases a with
  |none=>obtain⟨rfl,rfl⟩:=ha rfl;simp only[U6,hx,hy,yP,hsrc]
  |some a=>simp only[U6,hx,hy,yP,hsrc]
 ·obtain⟨g,off,row,rfl,hrow,hcut,hg⟩:=hcase.resolve_left (fun h=>hy0 h.1);have hbe:Nat.beq ys.length 0=false:=by cases hb:Nat.beq ys.length 0 with
   |false=>rfl
   |true=>exact absurd (QM hb) hy0
  have hsrc:yU c h (.slice (some ⟨g,off,none⟩) ys.length c)=some cells:=by
   simp only[yU,hbe,GS,Qn,Qt,cond_true,QV,hrow,hcut]
  have h1:zK cells=true:=zNx hc hlen fun i hi=>by
   obtain⟨a,_,r⟩:=hpc i hi;exact hone _ _ r
  obtain⟨z,zs,hz⟩:∃ z zs,cells=z::zs:=by
   cases hcl:cells with
   |nil=>exfalso;rw[hcl,Gw]at hlen;have:0<ys.length*c:=Nat.mul_pos (by omega) hc;omega
   |cons z zs=>exact⟨z,zs,rfl⟩
  have hdiv:(z::zs).length / c=ys.length:=by rw[<-hz,hlen];exact Nat.mul_div_cancel _ hc
  rw[hz]at hsrc h1;have hcc:Nat.beq c 0=false:=by cases hz:Nat.beq c 0 with
   |false=>rfl
   |true=>have:=QM hz;omega
  have fin:∀ H:Uy,h.n<H.n->H.get h.n=some (.row (z::zs) true 0)->OwnR c R b H (.slice (some ⟨h.n,0,none⟩) ys.length c) ys:=fun H hn hget=>
   .inr ⟨h.n,z::zs,fun _=>False,hbn,hn,rfl,hget,by rw[<-hz];exact hlen,fun h=>h,fun k hk=>hk.elim,fun i a ha=>by
    rw[<-hz];exact(hind _ _ (hR i a ha)).mono (fun _ h=>h) (fun _ _ h=>h.elim) (by omega)⟩
  rcases o with⟨rfl,_⟩|⟨g0,zIO,D,g1,g2,rfl,g4,g5,_⟩
  ·have hb1:Nat.ble ys.length room=true:=QG (by omega);refine WO.op (.slice (some ⟨h.n,0,none⟩) ys.length c) (h.push (.row (z::zs) true 0)) rfl ?_ (k _ _ (e0.push _) (fin _ (Q1 _) (zU _ _)));simp only[U6,hx,hy,yP,hsrc,h1,QW,QV,hdiv,hb1,cond_true];rfl
  ·have hc0:zIO=[]:=Gs (by rw[g5,Gw,Nat.zero_mul]);subst hc0;have hb1:Nat.ble (0+ys.length) room=true:=QG (by omega);have h2:cut [] 0 (0*c)=some ([]:List Value):=by rw[Nat.zero_mul];rfl
   have h3:Nat.ble 0 (0+0*c)=true:=QG (QK _);refine WO.op (.slice (some ⟨h.n,0,none⟩) (0+ys.length) c) ((h.kill g0).push (.row ([]++z::zs) true (0-0))) rfl ?_ (k _ _ ((e0.kill (QU hb g1)).push _) ?_)
   ·simp only[U6,hx,hy,yP,hsrc,h1,QW,QV,hdiv,Gw,hb1,hcc,GS,g4,h2,h3,cond_true,Qn,Qt]
   ·rw[GC];exact fin _ (Q1 _) (zU (h.kill g0) _)
end
section
variable {α:Type}[Inhabited α]{c b:Nat}{R:Uy->List Value->α->Prop}{h:Uy}{v:Value}{xs:List α}
variable {P:Program}{tab:Wm}{t:U3 Value}{ds:List Deferred}{rd:Option Nat}{l:List U1}{Q:WG->Uy->Prop}
end
section
variable {P:Program}{tab:Wm}{t:U3 Value}{h:Uy}{ds:List Deferred}{rd:Option Nat}{l:List U1}{Q:WG->Uy->Prop}
end
section
variable {P:Program}{tab:Wm}{t:U3 Value}{h h0:Uy}{ds:List Deferred}{rd:Option Nat}{l:List U1}{Q:WG->Uy->Prop}
end
section
variable {P:Program}{tab:Wm}{N0 m g:Nat}{cl:Bool}{t:U3 Value}{ds:List Deferred}{rd:Option Nat}{K:WB->WG->Uy->Prop}
theorem V7{hS X:Uy}{d n:Nat}{y:Operand}{v:Value}{zero cs:List Value}(eX:Ext (inC (zC 1 hS)) X)(hm:hS.mark<=hS.n)(k:∀ H p,Ext hS H->Uz hS H p cs->K .normal ⟨t.set d p,ds,rd⟩ H)
  (hy:∀ p,WA (t.set d p) y v:=by intro p;exact zj) (hv:v.cells=cs.toArray:=by rfl) (hz:zero.length=n:=by rfl) (hn:cs.length=n:=by rfl) (h1:zK cs=true:=by rfl) (hm0:m=hS.mark:=by rfl) (hg0:g=hS.n:=by rfl):
  WM P tab m N0 [(⟨some d,none,.alloc zero⟩,[]),(⟨none,none,.store n (.tmp d) y⟩,[])] g cl ⟨t,ds,rd⟩ (inC X) (zBI K hS):=by
 subst hm0 hg0;have hlt:hS.n<X.n:=eX.n;refine XE hm hlt ?_ (hy _) hv hz hn h1;have e6:=zGl (o:= .row zero true 0) (o':= .row cs true 0) (k:=0) eX;have o6:=zHF (cs:=cs) (o:= .row zero true 0) eX;exact k _ _ e6 o6
theorem WM.mk{h:Uy}{d:Nat}{gd:Option (Nat×Bool)}{op:Wl}{ob:WY}{f:Nat->Value}{l:List (U1×List Nat)}{Q:WG->Uy->Prop}(hm:m<=g)(hmade:yg t op=some (ob,f))(hx:WM P tab m N0 l (g+1) false ⟨t.set d (f g),ds,rd⟩ ((inC h).lay g ob) Q)(hk:Nat.beq (zH op) 3=true:=by rfl)(hw:zS t gd=true:=by rfl):
  WM P tab m N0 ((⟨some d,gd,op⟩,[])::l) g cl ⟨t,ds,rd⟩ (inC h) Q:=by
 rw[WM,QF hk];exact⟨rfl,.inl ⟨hw,hm,ob,f,hmade,hx⟩⟩
theorem WM.no{h:Uy}{d j:Nat}{b want:Bool}{op:Wl}{l:List (U1×List Nat)}{Q:WG->Uy->Prop}(hx:WM P tab m N0 l (g+1) cl ⟨t.set d undef,ds,rd⟩ (inC h) Q)(hk:Nat.beq (zH op) 3=true:=by rfl)(s:WZ t j (.bool b):=by exact YX)(hb:(b == want)=false:=by rfl):
  WM P tab m N0 ((⟨some d,some (j,want),op⟩,[])::l) g cl ⟨t,ds,rd⟩ (inC h) Q:=by
 rw[WM,QF hk];have s:zB t j=.bool b:=s;exact⟨rfl,.inr ⟨by simp only[zS,s,hb],hx⟩⟩
theorem zKT{j:Nat}{b want:Bool}(s:WZ t j (.bool b))(hb:(b == want)=true):zS t (some (j,want))=true:=by
 have s:zB t j=.bool b:=s;simp only[zS,s,hb]
theorem WM.inC{h:Uy}{fr:WG}{x:U1×List Nat}{l:List (U1×List Nat)}{Q:WG->Uy->Prop}(hx:WM P tab m N0 (x::l) g cl fr (Am.inC h) Q):WM P tab m N0 (x::l) g cl fr h Q:=by
 obtain⟨o,un⟩:=x;unfold WM at hx |-;exact hx
theorem zNk(h:Uy)(g:Nat)(o:WY)(j:Nat):((Am.inC h).lay g o).get j=if j=g then some o else h.get j:=zQ _ _ _ _
theorem XF{X:Uy}{d:Nat}{gd:Option (Nat×Bool)}{op:Wl}{ob:WY}{f:Nat->Value}{x:U1×List Nat}{l:List (U1×List Nat)}{Q:WG->Uy->Prop}(hm:m<=g)(hmade:yg t op=some (ob,f))
  (k:∀ X',X'.n=X.n->(∀ j,X'.get j=if j=g then some ob else X.get j)->WM P tab m N0 (x::l) (g+1) false ⟨t.set d (f g),ds,rd⟩ (Am.inC X') Q) (hk:Nat.beq (zH op) 3=true) (hw:zS t gd=true:=by rfl):WM P tab m N0 ((⟨some d,gd,op⟩,[])::x::l) g cl ⟨t,ds,rd⟩ (Am.inC X) Q:=
 WM.mk hm hmade (WM.inC (k _ rfl fun j=>zNk X g ob j)) hk hw
theorem Vh{X:Uy}{d n:Nat}{gd:Option (Nat×Bool)}{zero:List Value}{parts:List (Nat×Nat×Operand)}{vs:List (Nat×Nat×Value)}{x:U1×List Nat}{l:List (U1×List Nat)}{Q:WG->Uy->Prop}(xs:List Int)(hm:m<=g)
  (k:∀ X',X'.n=X.n->(∀ j,X'.get j=if j=g then some (.row (xs.map I) true 0)else X.get j)->WM P tab m N0 (x::l) (g+1) false ⟨t.set d (.slice (some ⟨g,0,none⟩) xs.length 1),ds,rd⟩ (Am.inC X') Q)
  (hp:Wv t parts vs:=by(repeat (apply Wv.cons;(exact zP)));exact Wv.nil) (hn:xs.length=n:=by rfl) (hf:Zi (zg zero n) vs=some (xs.map I):=by rfl) (hw:zS t gd=true:=by first|rfl|exact zKT YX rfl):
  WM P tab m N0 ((⟨some d,gd,.buildSlice n 1 zero parts⟩,[])::x::l) g cl ⟨t,ds,rd⟩ (Am.inC X) Q:=by
 subst hn;have hp:zv t parts=vs:=hp;exact XF (f:=fun g=> .slice (some ⟨g,0,none⟩) xs.length 1) hm (by simp only[yg,hp,hf,QI]) k rfl hw
theorem Xh{X:Uy}{d:Nat}{x:Operand}{v:Value}{cs:List Value}{o:U1×List Nat}{l:List (U1×List Nat)}{Q:WG->Uy->Prop}(hm:m<=g)
  (k:∀ X',X'.n=X.n->(∀ j,X'.get j=if j=g then some (.row cs true 0)else X.get j)->WM P tab m N0 (o::l) (g+1) false ⟨t.set d (.pointer (some ⟨g,0,none⟩)),ds,rd⟩ (Am.inC X') Q) (hx:WA t x v:=by exact zj) (hv:v.cells.toList=cs:=by rfl):
  WM P tab m N0 ((⟨some d,none,.box x⟩,[])::o::l) g cl ⟨t,ds,rd⟩ (Am.inC X) Q:=by
 have hx:ev t x=v:=hx;subst hv;exact XF (f:=fun g=> .pointer (some ⟨g,0,none⟩)) hm (by simp only[yg,hx]) k rfl
end
theorem zJ9{h:Uy}{q off:Nat}{row cs:List Value}(hq:h.get q=some (.row row true 0))(hl:off+cs.length<=row.length)(h1:zK cs=true):zo h ⟨q,off,none⟩ cs=some (h.set q (.row (zh row off cs) true 0)):=by
 have h2:Nat.ble (off+cs.length) row.length=true:=QG hl;have h3:Nat.ble 0 off=true:=QG (QK _);simp only[zo,hq,h2,h3,h1,Qn,Qt,cond_true]
section
variable {P:Program}{tab:Wm}{t:U3 Value}{ds:List Deferred}{rd:Option Nat}
variable {m N0 g:Nat}{cl:Bool}{K:WB->WG->Uy->Prop}{hS X:Uy}{q off n:Nat}{row cs:List Value}{x y:Operand}{u:Value}
section
variable {α:Type}[Inhabited α]{R:Uy->List Value->α->Prop}{c b i:Nat}{v:Value}{xs:List α}{a:α}
end
theorem zHx{c g off len n:Nat}(hn:n<=len):ZW c (.slice (some ⟨g,off,none⟩) len c) (some n) none none=some (.slice (some ⟨g,off+n*c,none⟩) (len-n) c):=by
 have b1:Nat.ble n len=true:=QG hn;have b2:Nat.ble len len=true:=QG (QE _);simp only[ZW,Gq,GD,b1,b2,Qn,Qt,cond_true,GS]
theorem Uh{h:Uy}{Q:WG->Uy->Prop}{l:List U1}{d c n:Nat}{zero:List Value}(hr:n<=100000)(k:∀ h',Ext h h'->h'.n=h.n+1->h'.get h.n=some (.row (zg zero n) true 0)->WO P tab l ⟨t.set d (.slice (some ⟨h.n,0,none⟩) n c),ds,rd⟩ h' Q)
  (hx:WA t x (I (n:Int)):=by exact zj) (hy:WA t y (I (n:Int)):=by exact zj):WO P tab (⟨some d,none,.mkSlice c zero x y⟩::l) ⟨t,ds,rd⟩ h Q:=by
 have h1:Nat.ble n room=true:=QG (by have:room=4294967296:=rfl;omega);have h2:Nat.ble n n=true:=QG (QE _);have hx:ev t x=I (n:Int):=hx;have hy:ev t y=I (n:Int):=hy;have hn:BC (I (n:Int))=some n:=rfl;exact WO.op _ _ rfl (by simp only[U6,hx,hy,hn,h1,h2,Qt,cond_true]<;>rfl) (k _ (Zc _ _) rfl (zU _ _))
end
section
variable {P:Program}{tab:Wm}{t:U3 Value}{ds:List Deferred}{rd:Option Nat}
variable {q off n:Nat}{row:List Value}{x y:Operand}
theorem Xu{h:Uy}{Q:WG->Uy->Prop}{l:List U1}{d c k m:Nat}{w:Value}{ys:List Value}(hq:h.get q=some (.row row true 0))(s:WT c h w k ys)(hc:0<c)(hk:min k n=m)(hl:off+m*c<=row.length)(h1:zK ys=true)
  (hX:∀ h',h'.n=h.n->(∀ j,j≠q->h'.get j=h.get j)->h'.get q=some (.row (zh row off (ys.take (m*c))) true 0)->(Wf h->Wf h')->h'.mark=h.mark->(h.mark<=q->h'.wr=h.wr)->(∀ j∈h'.wr,j=q\/j∈h.wr)->WO P tab l ⟨t.set d (I m),ds,rd⟩ h' Q)
  (hx:WA t x (.slice (some ⟨q,off,none⟩) n c):=by exact zj) (hy:WA t y w:=by exact zj):WO P tab (⟨some d,none,.copy c x y⟩::l) ⟨t,ds,rd⟩ h Q:=by
 have hx:ev t x=_:=hx;have hy:ev t y=_:=hy;have hs:=Zy s;have hlen:ys.length / c=k:=by rw[s.1];exact Nat.mul_div_cancel _ hc
 have hmin:min (ys.length / c) n=m:=by rw[hlen];exact hk
 have hml:(ys.take (m*c)).length=m*c:=by
  rw[Qj,s.1];have:m*c<=k*c:=GP _ (by omega);omega
 by_cases h0:m=0
 ·subst h0;refine WO.op (I (0:Nat)) h rfl ?_ (hX h rfl (fun _ _=>rfl) ?_ id rfl (fun _=>rfl) fun j hj=> .inr hj)
  ·simp only[U6,hx,hy,hs,hmin];rfl
  ·rw[hq];simp[zh]
 ·have hb:Nat.beq m 0=false:=by cases hb:Nat.beq m 0 with
   |false=>rfl
   |true=>exact absurd (QM hb) h0
  have h2:zK (ys.take (m*c))=true:=by
   unfold zK at *;rw[QY]at *;exact fun a ha=>h1 a (Qp ha)
  refine WO.op (I m) (h.set q (.row (zh row off (ys.take (m*c))) true 0)) rfl ?_ (hX _ rfl (fun j hj=>by rw[zt,QC hj]) (by rw[zt,QF rfl]) (fun wf j hj=> ?_) rfl (fun hm=>Y3 hm) fun j hj=>yp hj)
  ·simp only[U6,hx,hy,hs,hmin,hb,QV,GS,Qn,Qt,cond_true,zJ9 hq (by rw[hml];exact hl) h2,QI]
  ·have hj:h.n<=j:=hj;by_cases e:j=q
   ·subst e;have:=wf.lt hq;omega
   ·rw[zt,QC e];exact wf j hj
theorem zOF{h h0:Uy}{v w:Value}{xs ys:List Int}(o:U5 h0 h v xs)(s:WH h w ys)(e0:Ext h0 h)(hne:ys≠[])(hr:xs.length+ys.length<=4294967296):
  ∃ v' h',yP 1 v w h=some (v',h')/\Ext h0 h'/\WQ h h' v' (xs++ys)/\BM v h h':=by
 have hsrc:=Zy s;have hroom:room=4294967296:=rfl;obtain⟨z,zs,rfl⟩:∃ z zs,ys=z::zs:=by
  cases ys with
  |nil=>exact absurd rfl hne
  |cons z zs=>exact⟨z,zs,rfl⟩
 have hone:zK (I z::zs.map I)=true:=zCQ (z::zs);have hlen:(I z::zs.map I).length / 1=(z::zs).length:=by simp
 rcases o with⟨rfl,rfl⟩|⟨g,g1,g2,rfl,g3⟩
 ·have h1:Nat.ble (z::zs).length room=true:=QG (by rw[hroom];simpa using hr);refine⟨.slice (some ⟨h.n,0,none⟩) (z::zs).length 1,h.push (.row ((z::zs).map I) true 0),?_,e0.push _,⟨h.n,QE _,by simp[Uy.push],rfl,zU _ _⟩,⟨GU _,fun k hk _=> ?_⟩⟩
  ·simp only[yP,hsrc,Qr,hone,hlen,h1,QW,cond_true,QV];rfl
  ·rw[zT,QC (by omega)]
 ·have h1:Nat.ble (xs.length+(z::zs).length) room=true:=QG (by rw[hroom];exact hr);have h2:cut (xs.map I) 0 (xs.length*1)=some (xs.map I):=by rw[ZF (by simp)];simp[Q9]
  have hn:(h.kill g).n=h.n:=rfl;have h3:Nat.ble 0 (0+xs.length*1)=true:=QG (QK _);refine⟨.slice (some ⟨h.n,0,none⟩) (xs.length+(z::zs).length) 1,(h.kill g).push (.row (xs.map I++(z::zs).map I) true (0-0)),?_,(e0.kill g1).push _,⟨h.n,QE _,by simp[Uy.push,Uy.kill],by simp,?_⟩,⟨GU _,fun k hk hv=> ?_⟩⟩
  ·simp only[yP,hsrc,Qr,hone,hlen,h1,g3,h2,h3,QW,cond_true,QV];rfl
  ·have:=zU (h.kill g) (.row (xs.map I++(z::zs).map I) true (0-0));rw[hn]at this;rw[this];simp
  ·rw[zT,QC (by rw[hn];omega),yl,QC (fun e=>hv _ _ _ rfl e.symm)]
theorem Vx{h h0:Uy}{Q:WG->Uy->Prop}{l:List U1}{d:Nat}{v w:Value}{xs ys:List Int}(o:U5 h0 h v xs)(s:WH h w ys)(e0:Ext h0 h)(hne:ys≠[])(hr:xs.length+ys.length<=4294967296)(k:∀ v' h',Ext h0 h'->WQ h h' v' (xs++ys)->BM v h h'->WO P tab l ⟨t.set d v',ds,rd⟩ h' Q)
  (hx:WA t x v:=by exact zj) (hy:WA t y w:=by exact zj):WO P tab (⟨some d,none,.append 1 x y⟩::l) ⟨t,ds,rd⟩ h Q:=by
 have hx:ev t x=v:=hx;have hy:ev t y=w:=hy;obtain⟨v',h',a,b,c,u⟩:=zOF o s e0 hne hr;exact WO.op v' h' rfl (by simp only[U6,hx,hy,a]) (k v' h' b c u)
theorem UR{α:Type}{c b d1 d2:Nat}{R:Uy->List Value->α->Prop}{h hB:Uy}{Q:WG->Uy->Prop}{l:List U1}{v w:Value}{xs:List α}{cs zero:List Value}(a:α)(Dn:Nat->Prop)(o:OwnR c R b h v xs)(e0:Ext hB h)(hb:hB.n<=b)(hbn:b<=h.n)(hc0:0<c)(hl:xs.length<=100000)
  (d:Bj R h cs a Dn) (hD:∀ k,Dn k->b<=k/\k<h.n) (hv:∀ g n k,v=.slice (some ⟨g,0,none⟩) n k->¬Dn g)
  (k:∀ v' h' lit,Ext hB h'->OwnR c R b h' v' (xs++[a])->h.n<=h'.n->(∀ k,k<h.n->(∀ n k',v≠ .slice (some ⟨k,0,none⟩) n k')->h'.get k=h.get k)->(∃ n k g,v'=.slice (some ⟨g,0,none⟩) n k/\h.n<=g)->WO P tab l ⟨(t.set d1 lit).set d2 v',ds,rd⟩ h' Q)
  (hx:WA t x w:=by exact zj) (hw:w.cells=cs.toArray:=by rfl) (hc:cs.length=c:=by rfl) (h1:zK cs=true:=by rfl) (hz:zero.length=c:=by rfl) (hy:∀ u,WA (t.set d1 u) y v:=by intro u;exact zj):
  WO P tab (⟨some d1,none,.buildSlice 1 c zero [(0,c,x)]⟩::⟨some d2,none,.append c y (.tmp d1)⟩::l) ⟨t,ds,rd⟩ h Q:=by
 have hx:ev t x=w:=hx;refine WO.op (.slice (some ⟨h.n,0,none⟩) 1 c) (h.push (.row cs true 0)) rfl (by
  simp only[U6,zv,Qr,Gb,hx,zAT hw hc hz,QI];rfl) ?_
 obtain⟨v',H',q1,q2,q3,q4,q5,q6,q7,q8,q9⟩:=Yr (H:=h.push (.row cs true 0)) (gl:=h.n) o hc hc0 h1 hl hbn d hD hv (GU _) (Q1 _) (fun k hk=>by rw[zT,QC (by omega)]) (zU _ _);have hyv:ev (t.set d1 (.slice (some ⟨h.n,0,none⟩) 1 c)) y=v:=hy _;have e1:ev (t.set d1 (.slice (some ⟨h.n,0,none⟩) 1 c)) (.tmp d1)=.slice (some ⟨h.n,0,none⟩) 1 c:=by simp only[ev,ze,Q0]
 refine WO.op v' H' rfl (by simp only[U6,hyv,e1,q1]) (k v' H' _ ?_ q2 (by rw[q3];show h.n<=h.n+1+1;omega) (fun k hk hvk=> ?_) (let⟨n,k,g,e,hg⟩:=q9;⟨n,k,g,e,QU (GU _) hg⟩))
 ·have hvb:∀ k,k<hB.n->∀ n k',v≠ .slice (some ⟨k,0,none⟩) n k':=fun k hk n k' e=>by
   rcases o with⟨e2,_⟩|⟨g,_,_,g1,_,e2,_⟩
   ·rw[e2]at e;cases e
   ·rw[e2]at e;cases e;omega
  refine⟨by rw[q3];show hB.n<=h.n+1+1;have:=e0.n;omega,fun k hk=> ?_,fun w=>q8 ?_,q5.trans e0.mark,fun hm=> ?_⟩
  ·have:=e0.n;rw[q4 k (by show k<h.n+1;omega) (hvb k hk),zT,QC (by omega)];exact e0.get k hk
  ·intro k hk;have hk:h.n+1<=k:=hk;rw[zT,QC (by omega)];exact e0.wf w k (by omega)
  ·rw[q7 (by show h.mark<=b;rw[e0.mark];omega)];exact e0.wr hm
 ·rw[q4 k (by show k<h.n+1;omega) hvk,zT,QC (by omega)]
end
def blk:Value->Option Nat
 | .slice (some a) _ _=>some a.block
 | .pointer (some a)=>some a.block
 |_=>none
def WN(v w:Value):Prop:=∀ b,blk v=some b->blk w≠some b
theorem WN.symm{v w:Value}(o:WN v w):WN w v:=fun b h k=>o b k h
def UpB(v:Value)(h h':Uy):Prop:=h.n<=h'.n/\∀ g,g<h.n->blk v≠some g->h'.get g=h.get g
theorem BM.upB{v:Value}{h h':Uy}(u:BM v h h'):UpB v h h':=⟨u.1,fun g hg hv=>u.2 g hg fun a n c e he=>hv (by rw[e,<-he];rfl)⟩
theorem Wd.upB{v:Value}{h h':Uy}(u:Wd v h h'):UpB v h h':=⟨u.1,fun g hg hv=>u.2 g hg fun e=>hv (by rw[e];rfl)⟩
theorem zOO{v:Value}{h h':Uy}(hn:h.n<=h'.n)(u:∀ k,k<h.n->(∀ n k',v≠ .slice (some ⟨k,0,none⟩) n k')->h'.get k=h.get k):UpB v h h':=⟨hn,fun g hg hv=>u g hg fun n k e=>hv (by rw[e];rfl)⟩
def zBG(h:Uy)(v:Value):Prop:=∀ b,blk v=some b->h.n<=b
def zF7(h:Uy)(v:Value):Prop:=∀ b,blk v=some b->b<h.n
theorem VJ{h:Uy}{v w:Value}(a:zBG h v)(b:zF7 h w):WN v w:=fun k hk hw=>by have:=a k hk;have:=b k hw;omega
section
variable {hB h h':Uy}{v w p:Value}{l:List Int}{cs:List Value}
theorem U5.within(o:U5 hB h w l):zF7 h w:=fun b hb=>by
 rcases o with⟨rfl,_⟩|⟨g,_,g2,rfl,_⟩
 ·cases hb
 ·cases hb;exact g2
theorem U5.since'(o:U5 hB h w l):zBG hB w:=fun b hb=>by
 rcases o with⟨rfl,_⟩|⟨g,g1,_,rfl,_⟩
 ·cases hb
 ·cases hb;exact g1
theorem Uz.within(o:Uz hB h p cs):zF7 h p:=fun b hb=>by obtain⟨g,_,g2,rfl,_⟩:=o;cases hb;exact g2
theorem Uz.since'(o:Uz hB h p cs):zBG hB p:=fun b hb=>by obtain⟨g,g1,_,rfl,_⟩:=o;cases hb;exact g1
theorem U5.upB(o:U5 hB h w l)(u:UpB v h h')(d:WN v w):U5 hB h' w l:=by
 rcases o with o|⟨g,g1,g2,rfl,g3⟩
 ·exact .inl o
 ·exact .inr ⟨g,g1,QL g2 u.1,rfl,(u.2 g g2 fun e=>d _ e rfl).trans g3⟩
theorem Uz.upB(o:Uz hB h p cs)(u:UpB v h h')(d:WN v p):Uz hB h' p cs:=by
 obtain⟨g,g1,g2,rfl,g3⟩:=o;exact⟨g,g1,QL g2 u.1,rfl,(u.2 g g2 fun e=>d _ e rfl).trans g3⟩
section
variable {α:Type}{c b:Nat}{R:Uy->List Value->α->Prop}{xs:List α}
theorem OwnR.within(o:OwnR c R b h w xs):zF7 h w:=fun b hb=>by
 rcases o with⟨rfl,_⟩|⟨g,_,_,_,g2,rfl,_⟩
 ·cases hb
 ·cases hb;exact g2
theorem OwnR.upB(hi:∀ h h' cs a,R h cs a->R h' cs a)(o:OwnR c R b h w xs)(u:UpB v h h')(d:WN v w):OwnR c R b h' w xs:=by
 rcases o with o|⟨g,cells,D,g1,g2,rfl,g3,g4,_,_,g7⟩
 ·exact .inl o
 ·exact .inr ⟨g,cells,fun _=>False,g1,QL g2 u.1,rfl,(u.2 g g2 fun e=>d _ e rfl).trans g3,g4,id,fun _ h=>h.elim,fun i a ha hx _ _=>hi _ _ _ _ (g7 i a ha).self⟩
end
theorem Yp{P:Program}{tab:Wm}{t:U3 Value}{m N0 n g j:Nat}{un:List Nat}{d:Option Nat}{gd:Option (Nat×Bool)}{agg:Bool}{x:Operand}{p:Value}{cs:List Value}{h0 hs h:Uy}{l:List (U1×List Nat)}{fr:WG}{Q:WG->Uy->Prop}(o:Uz h0 hs p cs)(hN:hs.n<=N0)(hx:WM P tab m N0 l g true fr (inC h) Q)
  (hr:WA t x (yG p j):=by exact zj):uK2 P tab m N0 un t ⟨d,gd,.load agg n x⟩ (inC h) l g true Q fr (inC h):=by
 refine zC9 (fun k hk=> ?_) hx;obtain⟨q,q1,q2,rfl,q3⟩:=o;have hr:ev t x=_:=hr;unfold yG at hr;cases hw:zS t gd with
 |false=>simp only[zi,hw,QV]at hk;cases hk
 |true=>
  simp only[zi,hw,cond_true,hr,QA]at hk;omega
theorem zLT{P:Program}{tab:Wm}{t:U3 Value}{m N0 n g:Nat}{un:List Nat}{d:Option Nat}{gd:Option (Nat×Bool)}{agg:Bool}{x:Operand}{p:Value}{cs:List Value}{h0 hs h:Uy}{l:List (U1×List Nat)}{fr:WG}{Q:WG->Uy->Prop}(o:Uz h0 hs p cs)(hN:hs.n<=N0)(hx:WM P tab m N0 l g true fr (inC h) Q)
  (hr:WA t x p:=by exact zj):uK2 P tab m N0 un t ⟨d,gd,.load agg n x⟩ (inC h) l g true Q fr (inC h):=
 Yp (j:=0) o hN hx (by rw[<-o.at0];exact hr)
theorem Ub{P:Program}{tab:Wm}{t:U3 Value}{ds:List Deferred}{rd:Option Nat}{Q:WG->Uy->Prop}{l:List U1}{d c:Nat}{zero cs:List Value}{x:Operand}{w:Value}
  (k:∀ h',Ext h h'->h'.n=h.n+1->WT c h' (.slice (some ⟨h.n,0,none⟩) 1 c) 1 cs->h'.get h.n=some (.row cs true 0)->WO P tab l ⟨t.set d (.slice (some ⟨h.n,0,none⟩) 1 c),ds,rd⟩ h' Q)
  (hx:WA t x w:=by exact zj) (hw:w.cells=cs.toArray:=by rfl) (hc:cs.length=c:=by rfl) (hz:zero.length=c:=by rfl):WO P tab (⟨some d,none,.buildSlice 1 c zero [(0,c,x)]⟩::l) ⟨t,ds,rd⟩ h Q:=by
 have hx:ev t x=w:=hx;refine WO.op (.slice (some ⟨h.n,0,none⟩) 1 c) (h.push (.row cs true 0)) rfl (by
  simp only[U6,zv,Qr,Gb,hx,zAT hw hc hz,QI];rfl) (k _ (Zc _ _) rfl (WT.own (Q1 _) (zU _ _) (by rw[hc,Nat.one_mul])) (zU _ _))
end
section
variable {P:Program}{tab:Wm}{t:U3 Value}{h:Uy}{ds:List Deferred}{rd:Option Nat}{l:List U1}{Q:WG->Uy->Prop}
theorem Xt{α:Type}{c b d1 d2 d0 d3 s j m N0:Nat}{cl:Bool}{R:Uy->List Value->α->Prop}{hB hS X:Uy}{p v w:Value}{xs:List α}{cs zero cells:List Value}(a:α)(Dn:Nat->Prop){x y:Operand}{K:WB->WG->Uy->Prop}
  (eX:Ext (Am.inC (zC 1 hS)) X) (o:OwnR c R b hS v xs) (e0:Ext hB hS) (hm:hS.mark<=hB.n) (hb:hB.n<=b) (hbn:b<=hS.n) (hc0:0<c) (hl:xs.length<=100000) (op:Uz hB hS p cells) (hpb:∀ g,p=.pointer (some ⟨g,0,none⟩)->g<b)
  (d:Bj R X cs a Dn) (hD:∀ k,Dn k->b<=k/\k<X.n) (hv:∀ g n k,v=.slice (some ⟨g,0,none⟩) n k->¬Dn g) (hDs:¬Dn hS.n) (hj:j<cells.length) (hcl:zK cells=true)
  (k:∀ H v' t',zED [d1,d2,d0,d3] t t'->Ext hB H->Uz hB H p (cells.set j v')->zK (cells.set j v')=true->OwnR c R b H v' (xs++[a])->zBG hS v'->(∀ k,k<hS.n->p≠ .pointer (some ⟨k,0,none⟩)->(∀ n k',v≠ .slice (some ⟨k,0,none⟩) n k')->H.get k=hS.get k)->hS.n<=H.n->K .normal ⟨t',ds,rd⟩ H)
  (hx:WA t x w:=by exact zj) (hw:w.cells=cs.toArray:=by rfl) (hc:cs.length=c:=by rfl) (h1:zK cs=true:=by rfl) (hz:zero.length=c:=by rfl) (hy:∀ u,WA (t.set d1 u) y v:=by intro u;exact zj) (hs:∀ u u',WA ((t.set d1 u).set d2 u') (.tmp s) p:=by intro u u';exact zj) (h32:Nat.beq d2 d3=false:=by rfl) (h20:Nat.beq d2 d0=false:=by rfl) (hm0:m=hS.mark:=by rfl):
  WM P tab m N0 [(⟨some d1,none,.buildSlice 1 c zero [(0,c,x)]⟩,[]),(⟨some d2,none,.append c y (.tmp d1)⟩,[]),(⟨some d0,none,.nilCheck (.tmp s)⟩,[]),(⟨some d3,none,.fld j (.tmp d0)⟩,[]),(⟨none,none,.store 1 (.tmp d3) (.tmp d2)⟩,[])] hS.n cl ⟨t,ds,rd⟩ (Am.inC X) (zBI K hS):=by
 subst hm0;have hx:ev t x=w:=hx;have hnX:hS.n+1<=X.n:=eX.n;obtain⟨gp,gp1,gp2,hp,gp3⟩:=op;have hgpb:=hpb gp hp;rw[WM,QF (show Nat.beq (zH (Wl.buildSlice 1 c zero [(0,c,x)])) 3=true from rfl)];refine⟨rfl,.inl ⟨rfl,by have:=e0.n;omega,.row cs true 0,_,by simp only[yg,zv,Qr,Gb,hx,zAT hw hc hz,QI];rfl,?_⟩⟩;generalize hH1:(Am.inC (Am.inC X)).lay hS.n (.row cs true 0)=H1;have n1:H1.n=X.n:=by rw[<-hH1];rfl
 have get1:∀ c',H1.get c'=if c'=hS.n then some (.row cs true 0)else X.get c':=fun c'=>by rw[<-hH1];exact zQ _ _ _ _
 have getX:∀ k,k<hS.n->X.get k=hS.get k:=fun k hk=>eX.get k (by show k<hS.n+1;omega);have oX:OwnR c R b X v xs:=o.upd (fun k _ hk=>getX k hk) (by omega);have oX1:OwnR c R b (Am.inC H1) v xs:=by
  rcases o with o|⟨g,cl',D,g1,g2,g3,g4,g5,g6,g7,g8⟩
  ·exact .inl o
  ·refine .inr ⟨g,cl',D,g1,by show g<H1.n;omega,g3,?_,g5,g6,fun k hd=>⟨(g7 k hd).1,by have:=(g7 k hd).2;show k<H1.n;omega⟩,fun i a ha=>(g8 i a ha).mono (fun _ h=>h) (fun k o hd e=> ?_) (by show hS.n<=H1.n;omega)⟩
   ·show H1.get g=_;rw[get1,QC (by omega),getX g g2];exact g4
   ·have:=(g7 k hd).2;show H1.get k=_;rw[get1,QC (by omega),getX k this];exact e
 have d1':Bj R (Am.inC H1) cs a Dn:=d.mono (fun _ h=>h) (fun k o hd e=>by
  show H1.get k=_;rw[get1,QC (fun e2:k=hS.n=>by subst e2;exact hDs hd)];exact e) (by show X.n<=H1.n;omega)
 obtain⟨v',H2,q1,q2,q3,q4,q5,q6,q7,q8,n',k',g',q9,q10⟩:=Yr (H:=Am.inC H1) (gl:=hS.n) oX1 hc hc0 h1 hl (by show b<=H1.n;omega) d1' (fun k hd=>⟨(hD k hd).1,by have:=(hD k hd).2;show k<H1.n;omega⟩) hv (QE _) (by show hS.n<H1.n;omega) (fun _ _=>rfl) (by show H1.get hS.n=_;rw[get1,QF rfl]);rw[WM,QC (show ¬Nat.beq (zH (Wl.append c y (.tmp d1))) 3=true from Bool.noConfusion)];have hyv:ev (t.set d1 (.slice (some ⟨hS.n,0,none⟩) 1 c)) y=v:=hy _;have e1:ev (t.set d1 (.slice (some ⟨hS.n,0,none⟩) 1 c)) (.tmp d1)=.slice (some ⟨hS.n,0,none⟩) 1 c:=by simp only[ev,ze,Q0]
 refine WO.op v' H2 rfl (by simp only[U6,hyv,e1,q1]) ?_;refine WO.nil ⟨⟨fun c' hc'=> ?_,by show H1.n<=H2.n;rw[q3];exact GU _,.inl rfl⟩,?_⟩
 ·rcases q6 c' hc' with h|h
  ·cases h
  ·omega
 have hvp:∀ n k,v≠ .slice (some ⟨gp,0,none⟩) n k:=fun n k e=>by
  rcases o with⟨e2,_⟩|⟨g,_,_,g1,_,e2,_⟩
  ·rw[e2]at e;cases e
  ·rw[e2]at e;cases e;omega
 have own2:H2.get gp=some (.row cells true 0):=by
  rw[q4 gp (by show gp<H1.n;omega) hvp];show H1.get gp=_;rw[get1,QC (by omega),getX gp gp2];exact gp3
 rw[WM,QC (show ¬Nat.beq (zH (Wl.nilCheck (.tmp s))) 3=true from Bool.noConfusion)];have hs2:ev ((t.set d1 (.slice (some ⟨hS.n,0,none⟩) 1 c)).set d2 v') (.tmp s)=p:=hs _ _;refine WO.op p (Am.inC H2) rfl (by simp only[U6,hs2,hp];rfl) ?_;refine WO.nil ⟨⟨fun c' hc'=>(by cases hc'),QE _,.inl rfl⟩,?_⟩;rw[WM,QC (show ¬Nat.beq (zH (Wl.fld j (.tmp d0))) 3=true from Bool.noConfusion)];have hs3:∀ tt:U3 Value,ev (tt.set d0 p) (.tmp d0)=p:=fun tt=>by simp only[ev,ze,Q0]
 refine WO.op (.pointer (some ⟨gp,j,none⟩)) (Am.inC H2) rfl (by simp only[val,U6,hs3];simp only[hp,GC,Qn,cond_true];rfl) ?_;refine WO.nil ⟨⟨fun c' hc'=>(by cases hc'),QE _,.inl rfl⟩,?_⟩;rw[WM,QC (show ¬Nat.beq (zH (Wl.store 1 (.tmp d3) (.tmp d2))) 3=true from Bool.noConfusion)];have hvone:zK [v']=true:=by rw[q9];rfl
 have hvcells:v'.cells=#[v']:=by rw[q9];rfl
 have hst:zo (Am.inC (Am.inC H2)) ⟨gp,j,none⟩ [v']=some ((Am.inC (Am.inC H2)).set gp (.row (cells.set j v') true 0)):=by
  have hg':(Am.inC (Am.inC H2)).get gp=some (.row cells true 0):=own2;have h1:Nat.ble (j+1) cells.length=true:=QG hj;have h0:Nat.ble 0 j=true:=QG (QK _);simp only[zo,hg',QX,h1,h0,hvone,Qt,zBY hj];rfl
 have hd32:¬d2=d3:=fun e=>by subst e;simp at h32
 have hd20:¬d2=d0:=fun e=>by subst e;simp at h20
 refine VT undef ((Am.inC (Am.inC H2)).set gp (.row (cells.set j v') true 0)) rfl (by
  have a1:∀ tt:U3 Value,ev (tt.set d3 (.pointer (some ⟨gp,j,none⟩))) (.tmp d3)=.pointer (some ⟨gp,j,none⟩):=fun tt=>by
   simp only[ev,ze,Q0]
  have a2:∀ w,ev ((((t.set d1 (.slice (some ⟨hS.n,0,none⟩) 1 c)).set d2 w).set d0 p).set d3 (.pointer (some ⟨gp,j,none⟩))) (.tmp d2)=w:=fun w=>by
   simp only[ev,ze,QC hd32,QC hd20,Q0]
  simp only[val,U6,a1,a2,hvcells,Gj,QX,GS,hst,QI,cond_true]) ?_
 refine WO.nil ⟨⟨fun c' hc'=> ?_,QE _,.inl rfl⟩,?_⟩
 ·have hc2:c'∈(Am.inC (Am.inC H2)).log gp:=hc';rcases yp hc2 with rfl|h
  ·omega
  ·cases h
 generalize hH:outC hS ((Am.inC (Am.inC H2)).set gp (.row (cells.set j v') true 0))=H;have nH:H.n=X.n+1:=by rw[<-hH];show H2.n=_;rw[q3];show H1.n+1=_;omega
 have getH:∀ c',H.get c'=if c'=gp then some (.row (cells.set j v') true 0)else H2.get c':=fun c'=>by rw[<-hH];exact zQ _ _ _ _
 have keepH:∀ c',c'<hS.n->c'≠gp->(∀ n k,v≠ .slice (some ⟨c',0,none⟩) n k)->H.get c'=hS.get c':=fun c' h1 h2 h3=>by
  rw[getH,QC h2,q4 c' (by show c'<H1.n;omega) h3];show H1.get c'=_;rw[get1,QC (by omega),getX c' h1]
 have hvB:∀ k,k<hB.n->∀ n k',v≠ .slice (some ⟨k,0,none⟩) n k':=fun k hk n k' e=>by
  rcases o with⟨e2,_⟩|⟨g,_,_,g1,_,e2,_⟩
  ·rw[e2]at e;cases e
  ·rw[e2]at e;cases e;omega
 have oneH:zK (cells.set j v')=true:=by
  unfold zK at *;rw[QY]at *;intro z hz;rcases List.mem_or_eq_of_mem_set hz with h|h
  ·exact hcl z h
  ·subst h;rw[q9]
 show K .normal _ _;rw[hH];refine k H v' _ (fun i hi=> ?_) ?_ ⟨gp,gp1,by rw[nH];omega,hp,by rw[getH,QF rfl]⟩ oneH (q2.upd (fun k hk1 hk2=>by rw[getH,QC (by omega)]) (by rw[nH,q3];show H1.n+1<=_;omega)) (fun c hc=>by rw[q9]at hc;cases hc;have:H1.n<=g':=q10;show hS.n<=g';omega) (fun c' h1 h2 h3=>keepH c' h1 (fun e=>h2 (by rw[hp,e])) h3) (by rw[nH];omega)
 ·have hc:=ZQ hi;rw[List.contains_eq_mem,Gf]at hc;have b1:¬i=d1:=fun e=>hc (by simp[e]);have b2:¬i=d2:=fun e=>hc (by simp[e]);have b3:¬i=d3:=fun e=>hc (by simp[e]);have b0:¬i=d0:=fun e=>hc (by simp[e]);simp only[val,ze,QC b1,QC b2,QC b3,QC b0]
 ·have hn0:=e0.n;refine⟨by rw[nH];omega,fun k hk=>(keepH k (by omega) (by omega) (hvB k hk)).trans (e0.get k hk),fun w k hk=> ?_,?_,fun hmk=> ?_⟩
  ·rw[nH]at hk;rw[getH,QC (by omega)];refine q8 (fun k2 hk2=> ?_) k (by rw[q3];show H1.n+1<=k;omega);have hk2:H1.n<=k2:=hk2;show H1.get k2=_;rw[get1,QC (by omega)];exact eX.wf (fun k3 hk3=>e0.wf w k3 (by have:hS.n+1<=k3:=hk3;omega)) k2 (by omega)
  ·rw[<-hH];exact e0.mark
  ·rw[<-hH];exact e0.wr hmk
def RI(_:Uy)(cs:List Value)(a:Int):Prop:=cs=[I a]
theorem zHm{hB h:Uy}{b:Nat}{v:Value}{l:List Int}(o:OwnR 1 RI b h v l)(hb:hB.n<=b):U5 hB h v l:=by
 rcases o with⟨rfl,rfl⟩|⟨g,cells,D,g1,g2,rfl,g4,g5,_,_,g8⟩
 ·exact .inl ⟨rfl,rfl⟩
 ·refine .inr ⟨g,QU hb g1,g2,rfl,?_⟩;rw[g4];congr 2;refine JB (by simp[g5]) fun i h1 h2=> ?_;have h3:i<l.length:=by simpa using h2
  have:=(g8 i l[i] (QB h3)).self;unfold RI at this;have h4:=congrArg (fun q=>q[0]?) this;simpa [GL,h1]using h4
end
section
variable {P:Program}{tab:Wm}
def ok7(m N0:Nat)(Bad:Nat->Prop)(un:List Nat)(cl:Bool)(t:U3 Value)(o:U1)(h h':Uy):Prop:=
 (∀ k∈h'.wr,m<=k)/\h.n<=h'.n/\(un=[]\/(cl=true/\h'.wr=[]/\∀ g,zi t o=some g->¬Bad g/\g<N0))
end
section
variable {P:Program}{tab:Wm}{m N0:Nat}{Bad:Nat->Prop}{l:List (U1×List Nat)}{o:U1}{un:List Nat}{g:Nat}{cl:Bool}{fr:WG}{h h0 h':Uy}{Q:WG->Uy->Prop}{K:WB->WG->Uy->Prop}{t:U3 Value}
end
section
variable {P:Program}{tab:Wm}{t:U3 Value}{ds:List Deferred}{rd:Option Nat}
end
end Go.Am
