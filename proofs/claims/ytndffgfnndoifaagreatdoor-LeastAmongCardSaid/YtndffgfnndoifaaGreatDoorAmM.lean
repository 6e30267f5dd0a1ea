/- A part of the machine and of its soundness; proves no statement. -/
import Derived.Test.YtndffgfnndoifaaGreatDoorAmE
set_option linter.all false
namespace Go.Am
open Go.RowKit
inductive TL where
 |nil
 |cl (v:Value) (rest:TL)
 |sl (c n:Nat) (sub rest:TL)
 |ag (sub rest:TL)
def zJM:Value->Value->Bool
 | .int k a,.int k' b=>decide (k=k')&&a == b
 | .bool a,.bool b=>a == b
 | .string s,.string t=>s.data.toList == t.data.toList
 | .slice none 0 0,.slice none 0 0=>true
 | .pointer none,.pointer none=>true
 | .map none,.map none=>true
 | .nilFunc,.nilFunc=>true
 | .nilIface,.nilIface=>true
 |_,_=>false
def zKB{a b:Value}(h:zJM a b=true):b=a/\yX a=true:=by
 unfold zJM at h;split at h
 ·simp only[QI,Qc,JN]at h;rw[h.1,h.2];exact⟨rfl,rfl⟩
 ·simp only[JN]at h;rw[h];exact⟨rfl,rfl⟩
 ·rename_i s t;simp only[JN]at h;obtain⟨⟨l⟩⟩:=s;obtain⟨⟨m⟩⟩:=t;simp only at h;subst h;exact⟨rfl,rfl⟩
 ·exact⟨rfl,rfl⟩
 ·exact⟨rfl,rfl⟩
 ·exact⟨rfl,rfl⟩
 ·exact⟨rfl,rfl⟩
 ·exact⟨rfl,rfl⟩
 ·cases h
def mt(h:WA):TL->List Value->Bool
 | .nil,[]=>true
 | .cl v r,x::xs=>zJM v x&&mt h r xs
 | .sl c n s r,.slice (some a) len k::xs=>
  (Nat.beq k c&&Nat.beq len n&&(match(bif Nat.beq n 0 then some []else(z0 h a.block).bind fun cells=>cut cells a.off (n*c))with
   |some vs=>mt h s vs
   |none=>false))&&mt h r xs
 | .ag s r,.agg cs::xs=>mt h s cs.toList&&mt h r xs
 |_,_=>false
def WA.skip(h:WA):WA:={h with n:=h.n+1}
def lay:TL->WA->List Value×WA
 | .nil,h=>([],h)
 | .cl v r,h=>(v::(lay r h).1,(lay r h).2)
 | .sl c n s r,h=>(.slice (some ⟨(lay s h).2.n,0,none⟩) n c::(lay r (bif Nat.beq n 0 then(lay s h).2.skip else(lay s h).2.push (.row (lay s h).1 false 0))).1,
   (lay r (bif Nat.beq n 0 then(lay s h).2.skip else(lay s h).2.push (.row (lay s h).1 false 0))).2)
 | .ag s r,h=>(.agg (lay s h).1.toArray::(lay r (lay s h).2).1,(lay r (lay s h).2).2)
def mo(h:WA):TL->List Value->List Nat->Option (List Nat)
 | .nil,[],s=>some s
 | .cl v r,x::xs,s=>bif zJM v x then mo h r xs s else none
 | .sl c n sub r,.slice (some a) len k::xs,s=>
  bif Nat.beq k c&&Nat.beq len n&&Nat.beq a.off 0&&a.spot.isNone then(match h.get a.block with
   |some (.row cells true lo)=>bif Nat.beq lo 0&&Nat.beq cells.length (n*c)then(match mo h sub cells s with
     |some s1=>bif s1.contains a.block then none else mo h r xs (a.block::s1)
     |none=>none)else none
   |_=>none)else none
 | .ag sub r,.agg cs::xs,s=>(match mo h sub cs.toList s with
   |some s1=>mo h r xs s1
   |none=>none)
 |_,_,_=>none
def Zj:TL->WA->List Value×WA
 | .nil,h=>([],h)
 | .cl v r,h=>(v::(Zj r h).1,(Zj r h).2)
 | .sl c n s r,h=>(.slice (some ⟨(Zj s h).2.n,0,none⟩) n c::(Zj r ((Zj s h).2.push (.row (Zj s h).1 true 0))).1,(Zj r ((Zj s h).2.push (.row (Zj s h).1 true 0))).2)
 | .ag s r,h=>(.agg (Zj s h).1.toArray::(Zj r (Zj s h).2).1,(Zj r (Zj s h).2).2)
def Yt:∀ (T:TL) (h:WA),Wl h.n h (Zj T h).2
 | .nil,h=>Wl.refl _ _
 | .cl v r,h=>Yt r h
 | .sl c n s r,h=>((Yt s h).on (YQ _ rfl)).on (Yt r _)
 | .ag s r,h=>(Yt s h).on (Yt r _)
def zCz:∀ (T:TL) (h:WA),h.n<=(Zj T h).2.n
 | .nil,h=>QF _
 | .cl v r,h=>zCz r h
 | .sl c n s r,h=>QM (QM (zCz s h) (GU _)) (zCz r ((Zj s h).2.push (.row (Zj s h).1 true 0)))
 | .ag s r,h=>QM (zCz s h) (zCz r _)
def zBD:∀ (T:TL) (h:WA) (g:Nat),g<h.n->(Zj T h).2.get g=h.get g
 | .nil,h,g,hg=>rfl
 | .cl v r,h,g,hg=>zBD r h g hg
 | .sl c n s r,h,g,hg=>by
  have h1:=zCz s h;show(Zj r ((Zj s h).2.push _)).2.get g=_;rw[zBD r _ g (Nat.lt_succ_of_lt (QG hg h1)),zM,QC ω,zBD s h g hg]
 | .ag s r,h,g,hg=>by
  show(Zj r (Zj s h).2).2.get g=_;rw[zBD r _ g (QG hg (zCz s h)),zBD s h g hg]
section
variable {P:Program}{w:World}{B:Nat}
def zVC{σ:Nat->Option Pl}{pl:Pl}{cells:List Value}{own:Bool}{lo:Nat}(h:BY P σ pl (.row cells own lo) w):
  ∃ c elem fr,w.heap[pl.b]?=some (.cells c elem fr)/\c.size=pl.n/\pl.base+cells.length<=pl.n/\WQ σ cells ((c.toList.drop pl.base).take cells.length)/\(own=true->fr=(0,0)):=by
 obtain⟨c,elem,fr,h1,h2,h3,h4,h5⟩:=h;refine⟨c,elem,fr,h1,h2,h3,⟨by simp;omega,fun i x y hx hy=> ?_⟩,h5⟩;obtain⟨y',a,b⟩:=h4 i x hx;have hi:i<cells.length:=(QS.1 hx).1;rw[GE,QJ hi,GN]at hy;have:c[pl.base+i]?=some y:=by simpa using hy
 rw[a]at this;cases this;exact b
def zTD{σ:Nat->Option Pl}{pl:Pl}{cells:List Value}{own:Bool}{lo m:Nat}{c:Array Value}{elem:TypeId}{fr:Nat×Nat}(h1:w.heap[pl.b]?=some (.cells c elem fr))(h2:c.size=pl.n)(h3:pl.base+m<=pl.n)
  (h4:WQ σ cells ((c.toList.drop pl.base).take m)) (h5:own=true->fr=(0,0)):BY P σ pl (.row cells own lo) w:=by
 have hlen:cells.length=m:=by rw[h4.1];simp;omega
 refine⟨c,elem,fr,h1,h2,ω,fun i x hx=> ?_,h5⟩;obtain⟨y,a,b⟩:=h4.get hx;have hi:i<m:=by rw[<-hlen];exact(QS.1 hx).1
 rw[GE,QJ hi,GN]at a;exact⟨y,by simpa using a,b⟩
def zJU{σ:Nat->Option Pl}{l:List Value}(h:WQ σ [] l):l=[]:=Gm.1 h.1.symm
def zAR{σ:Nat->Option Pl}{x:Value}{xs l:List Value}(h:WQ σ (x::xs) l):∃ y ys,l=y::ys/\WI σ x y/\WQ σ xs ys:=by
 cases l with
 |nil=>exact absurd h.1 (by simp)
 |cons y ys=>exact⟨y,ys,rfl,h.2 0 _ _ rfl rfl,by simpa using h.1,fun i a b ha hb=>h.2 (i+1) a b (by simpa using ha) (by simpa using hb)⟩
def zHK{σ:Nat->Option Pl}{h:WA}(hc:BP P B σ h w):BP P B σ h.skip w:=
 ⟨⟨hc.rel.globals,fun g pl hg=>⟨Nat.lt_succ_of_lt (hc.rel.lt g pl hg).1,(hc.rel.lt g pl hg).2⟩,hc.rel.live,hc.rel.apart,hc.rel.le⟩,hc.rows,fun g hg=>hc.wf g (Nat.le_of_succ_le hg)⟩
def zNk{σ:Nat->Option Pl}{h:WA}(hc:BP P B σ h w){pl:Pl}(hb:pl.b<w.heap.size):BP P B (yu σ h.n pl) h.skip w:=by
 have hle:=YV hc.rel pl;have cZ:Wd P B σ h w:=hc.rel;have key:∀ g o,h.get g=some o->g≠h.n:=fun g o hg e=>by
  subst e;rw[hc.wf _ (QF _)]at hg;cases hg
 refine⟨⟨fun g hg=> ?_,fun g p hg=> ?_,fun g o hg=> ?_,fun g o g' o' p p' hg ij ah hp dN=> ?_,cZ.le⟩,hc.rows,(zHK hc).wf⟩
 ·obtain⟨p,h1,h2⟩:=cZ.globals g hg;exact⟨p,hle _ _ h1,h2⟩
 ·unfold yu at hg;split at hg
  ·cases hg;rename_i e;subst e;exact⟨Q9 _,hb⟩
  ·exact⟨Nat.lt_succ_of_lt (cZ.lt g p hg).1,(cZ.lt g p hg).2⟩
 ·obtain⟨p,h1,h2,h3⟩:=cZ.live g o hg;exact⟨p,hle _ _ h1,h2.keep hle rfl,h3⟩
 ·have e1:=key g o hg;have e2:=key g' o' ij;unfold yu at hp dN;rw[QC e1]at hp;rw[QC e2]at dN;exact cZ.apart g o g' o' p p' hg ij ah hp dN
def zTv{σ:Nat->Option Pl}{h:WA}{B1:Nat}(hr:Wd P B σ h w):∀ (T:TL) (lp bL:List Value),mt h T lp=true->WQ σ lp bL->∀ σ1 h1,BP P B1 σ1 h1 w->
  ∃ σ2,BP P B1 σ2 (lay T h1).2 w/\Le σ1 σ2/\WQ σ2 (lay T h1).1 bL:=by
 intro T;induction T with
 |nil=>
  intro lp bL hm hl σ1 h1 hc;cases lp with
  |cons x xs=>cases hm
  |nil=>obtain rfl:=zJU hl;exact⟨σ1,hc,.refl _,WQ.nil _⟩
 |cl v r ih=>
  intro lp bL hm hl σ1 h1 hc;cases lp with
  |nil=>cases hm
  |cons x xs=>
   simp only[mt,QI]at hm;obtain⟨rfl,aO⟩:=zKB hm.1;obtain⟨y,ys,rfl,h2,h3⟩:=zAR hl;obtain⟨σ2,k1,k2,k3⟩:=ih xs ys hm.2 h3 σ1 h1 hc;obtain rfl:=h2.closed_eq aO;exact⟨σ2,k1,k2,.cons (VK _ aO) k3⟩
 |ag s r nI mg=>
  intro lp bL hm hl σ1 h1 hc;cases lp with
  |nil=>cases hm
  |cons x xs=>
  cases x with
  |agg cs=>
   simp only[mt,QI]at hm;obtain⟨y,ys,rfl,h2,h3⟩:=zAR hl;cases h2 with
   | @agg _ kV ha ra=>
   have b9:WQ σ cs.toList kV.toList:=⟨by simpa using ha,fun i x y hx hy=>ra i x y (by simpa using hx) (by simpa using hy)⟩;obtain⟨σ2,k1,k2,k3⟩:=nI _ _ hm.1 b9 σ1 h1 hc;obtain⟨σ3,l1,l2,l3⟩:=mg xs ys hm.2 h3 σ2 _ k1;refine⟨σ3,l1,k2.trans l2,.cons ?_ l3⟩;have:=VW (k3.mono l2);simpa using this
  |_=>cases hm
 |sl c n s r nI mg=>
  intro lp bL hm hl σ1 h1 hc;cases lp with
  |nil=>cases hm
  |cons x xs=>
  cases x with
  |slice a len k=>
   cases a with
   |none=>cases hm
   |some a=>
   simp only[mt,QI]at hm;obtain⟨⟨⟨m1,m2⟩,m3⟩,m4⟩:=hm;obtain rfl:=QN m1;obtain rfl:=QN m2;obtain⟨y,ys,rfl,h2,h3⟩:=zAR hl;by_cases h0:len=0
   ·subst h0;simp only[Gl,cond_true]at m3;obtain⟨σ2,k1,k2,k3⟩:=nI [] [] m3 (WQ.nil _) σ1 h1 hc;cases h2 with
    | @slice g off _ _ cap pl hp fJ fu hn=>
     obtain⟨σ3,l1,l2,l3⟩:=mg xs ys m4 h3 _ _ (zNk k1 (pl:=⟨pl.b,pl.base+off,pl.n⟩) (hr.lt _ _ hp).2);refine⟨σ3,l1,(k2.trans (YV k1.rel _)).trans l2,.cons ?_ l3⟩;have:=WI.slice (σ:=σ3) (g:=(lay s h1).2.n) (off:=0) (len:=0) (c:=k) (cap:=cap) (pl:=⟨pl.b,pl.base+off,pl.n⟩) (l2 _ _ (yB _ _ _)) fJ fu hn;exact this
    |szero a x c=>
     obtain⟨σ3,l1,l2,l3⟩:=mg xs ys m4 h3 _ _ (zHK k1);exact⟨σ3,l1,k2.trans l2,.cons (.szero _ _ _) l3⟩
   ·have hb:Nat.beq len 0=false:=by
     cases hq:Nat.beq len 0 with
     |false=>rfl
     |true=>exact absurd (QN hq) h0
    simp only[hb,QU]at m3;cases h2 with
    |szero a x c=>exact absurd rfl h0
    | @slice g off _ _ cap pl hp fJ fu hn=>
    split at m3;case h_2=>cases m3
    rename_i vs hv;obtain⟨cells,hv1,hZ⟩:=Option.bind_eq_some_iff.1 hv;unfold z0 at hv1;split at hv1;case h_2=>cases hv1
    rename_i dg own lo hg;cases hv1;unfold cut at hZ;cases pV:Nat.ble (off+len*k) cells.length with
    |false=>simp[pV]at hZ
    |true=>
    simp only[pV,cond_true,QA]at hZ;subst hZ;have pW:=QP pV;obtain⟨bW,p1,p2,_⟩:=hr.live _ _ hg;rw[hp]at p1;cases p1;obtain⟨bU,elem,fr,q1,q2,q3,q4,q5⟩:=zVC p2;have cR:WQ σ ((cells.drop off).take (len*k)) ((bU.toList.drop (pl.base+off)).take (len*k)):=by
     have:=(q4.drop off).take (len*k);rw[List.drop_take,List.take_take,JF,Gg ω]at this;exact this
    obtain⟨σ2,k1,k2,k3⟩:=nI _ _ m3 cR σ1 h1 hc;have fj:BY P σ2 ⟨pl.b,pl.base+off,pl.n⟩ (.row (lay s h1).1 false 0) w:=
     zTD (pl:=⟨pl.b,pl.base+off,pl.n⟩) (m:=len*k) q1 q2 (by simp only;omega) k3 (fun x=>by cases x)
    obtain⟨r1,_,r3,r4⟩:=zGT k1.rel k1.no k1.rows (cells:=(lay s h1).1) (pl:=⟨pl.b,pl.base+off,pl.n⟩) (hr.lt _ _ hp).2 fj;obtain⟨σ3,l1,l2,l3⟩:=mg xs ys m4 h3 _ _ ⟨r1,r3,(Zt _ _).wf k1.wf⟩;have hE:lay (.sl k len s r) h1=(.slice (some ⟨(lay s h1).2.n,0,none⟩) len k::(lay r ((lay s h1).2.push (.row (lay s h1).1 false 0))).1,(lay r ((lay s h1).2.push (.row (lay s h1).1 false 0))).2):=by
     simp only[lay,hb,QU]
    rw[hE];refine⟨σ3,l1,(k2.trans r4).trans l2,.cons ?_ l3⟩;have:=WI.slice (σ:=σ3) (g:=(lay s h1).2.n) (off:=0) (len:=len) (c:=k) (cap:=cap) (pl:=⟨pl.b,pl.base+off,pl.n⟩) (l2 _ _ (yB _ _ _)) fJ fu hn;exact this
  |_=>cases hm
def Wd.own{σ:Nat->Option Pl}{h:WA}{o:Wp}{pl:Pl}(hr:Wd P B σ h w)(hb:pl.b<w.heap.size)(hB:B<=pl.b)(ho:BY P (yu σ h.n pl) pl o w)
  (pj:∀ g p,σ g=some p->p.b=pl.b->False):Wd P B (yu σ h.n pl) (h.push o) w:=by
 have hle:=YV hr pl;have ab:∀ g p,yu σ h.n pl g=some p->g=h.n/\p=pl\/g≠h.n/\σ g=some p:=fun g p hg=>by
  unfold yu at hg;split at hg
  ·exact .inl ⟨by assumption,(Qm hg).symm⟩
  ·exact .inr ⟨by assumption,hg⟩
 refine⟨fun g hg=> ?_,fun g p hg=> ?_,fun g o' hg=> ?_,fun g o1 g' o2 p p' h1 h2 ah h3 h4 aR=> ?_,hr.le⟩
 ·obtain⟨p,h1,h2⟩:=hr.globals g hg;exact⟨p,hle _ _ h1,h2⟩
 ·rcases ab g p hg with⟨rfl,rfl⟩|⟨_,h1⟩
  ·exact⟨Q9 _,hb⟩
  ·exact⟨Nat.lt_succ_of_lt (hr.lt g p h1).1,(hr.lt g p h1).2⟩
 ·rw[zM]at hg;split at hg
  ·rename_i e;subst e;cases hg;exact⟨pl,yB _ _ _,ho,fun _=>hB⟩
  ·obtain⟨p,h1,h2,h3⟩:=hr.live g o' hg;exact⟨p,hle _ _ h1,h2.keep hle rfl,h3⟩
 ·rw[zM]at h1 h2;rcases ab g p h3 with⟨e,rfl⟩|⟨e,i9⟩<;>rcases ab g' p' h4 with⟨e',rfl⟩|⟨e',g9⟩
  ·exact absurd (e.trans e'.symm) ah
  ·exact(pj _ _ g9 aR.symm).elim
  ·exact(pj _ _ i9 aR).elim
  ·rw[QC e]at h1;rw[QC e']at h2;exact hr.apart g o1 g' o2 p p' h1 h2 ah i9 g9 aR
structure Over(P:Program)(B W:Nat)(σ:Nat->Option Pl)(h:WA)(σ':Nat->Option Pl)(h0:WA)(w:World)(τ:Nat->Option Pl)(H:WA)(s:List Nat):Prop where
 rel:Wd P B τ H w
 old:∀ g,g<h.n->τ g=σ g
 n:h.n<=H.n
 new:∀ g pl,h.n<=g->τ g=some pl->∃ k∈s,σ' k=some pl
 rows:∀ k∈s,∃ cells lo,h0.get k=some (.row cells true lo)
def zR7{W:Nat}{σ σ':Nat->Option Pl}{h h0:WA}(hB:B<=W)(hW:∀ g pl,σ g=some pl->pl.b<W)(hs:Wd P W σ' h0 w):∀ (T:TL) (vs bL:List Value) (s s':List Nat),mo h0 T vs s=some s'->WQ σ' vs bL->
  ∀ τ H,Over P B W σ h σ' h0 w τ H s->∃ τ',Over P B W σ h σ' h0 w τ' (Zj T H).2 s'/\Le τ τ'/\WQ τ' (Zj T H).1 bL:=by
 intro T;induction T with
 |nil=>
  intro vs bL s s' hm hl τ H ho;cases vs with
  |cons x xs=>cases hm
  |nil=>obtain rfl:=zJU hl;cases hm;exact⟨τ,ho,.refl _,WQ.nil _⟩
 |cl v r ih=>
  intro vs bL s s' hm hl τ H ho;cases vs with
  |nil=>cases hm
  |cons x xs=>
   simp only[mo]at hm;cases um:zJM v x with
   |false=>simp[um]at hm
   |true=>
   simp only[um,cond_true]at hm;obtain⟨rfl,aO⟩:=zKB um;obtain⟨y,ys,rfl,h2,h3⟩:=zAR hl;obtain⟨τ',k1,k2,k3⟩:=ih xs ys s s' hm h3 τ H ho;obtain rfl:=h2.closed_eq aO;exact⟨τ',k1,k2,.cons (VK _ aO) k3⟩
 |ag sub r nI mg=>
  intro vs bL s s' hm hl τ H ho;cases vs with
  |nil=>cases hm
  |cons x xs=>
  cases x with
  |agg cs=>
   simp only[mo]at hm;split at hm;case h_2=>cases hm
   rename_i s1 iQ;obtain⟨y,ys,rfl,h2,h3⟩:=zAR hl;cases h2 with
   | @agg _ kV ha ra=>
   have b9:WQ σ' cs.toList kV.toList:=⟨by simpa using ha,fun i x y hx hy=>ra i x y (by simpa using hx) (by simpa using hy)⟩;obtain⟨τ1,k1,k2,k3⟩:=nI _ _ s s1 iQ b9 τ H ho;obtain⟨τ2,l1,l2,l3⟩:=mg xs ys s1 s' hm h3 τ1 _ k1;refine⟨τ2,l1,k2.trans l2,.cons ?_ l3⟩;have:=VW (k3.mono l2);simpa using this
  |_=>cases hm
 |sl c n sub r nI mg=>
  intro vs bL s s' hm hl τ H ho;cases vs with
  |nil=>cases hm
  |cons x xs=>
  cases x with
  |slice a len k=>
   cases a with
   |none=>cases hm
   |some a=>
   simp only[mo]at hm;cases f9:(Nat.beq k c&&Nat.beq len n&&Nat.beq a.off 0&&a.spot.isNone)with
   |false=>simp[f9]at hm
   |true=>
   simp only[f9,cond_true]at hm;simp only[QI]at f9;obtain⟨⟨⟨m1,m2⟩,m3⟩,m4⟩:=f9;obtain rfl:=QN m1;obtain rfl:=QN m2;have gN:=QN m3;split at hm;case h_2=>cases hm
   rename_i cells lo hg;cases hq:(Nat.beq lo 0&&Nat.beq cells.length (len*k))with
   |false=>simp[hq]at hm
   |true=>
   simp only[hq,cond_true]at hm;rw[QI]at hq;have hlen:=QN hq.2;split at hm;case h_2=>cases hm
   rename_i s1 iQ;cases xD:s1.contains a.block with
   |true=>rw[xD]at hm;cases hm
   |false=>
   rw[xD]at hm;simp only[QU]at hm;obtain⟨y,ys,rfl,h2,h3⟩:=zAR hl;obtain⟨pl,p1,p2,p3⟩:=hs.live _ _ hg;have Ls:W<=pl.b:=p3 rfl;obtain⟨bU,elem,fr,q1,q2,q3,q4,q5⟩:=zVC p2;obtain⟨τ1,k1,k2,k3⟩:=nI _ _ s s1 iQ q4 τ H ho;have fj:BY P (yu τ1 (Zj sub H).2.n pl) pl (.row (Zj sub H).1 true 0) w:=
    zTD (m:=cells.length) q1 q2 q3 (k3.mono (YV k1.rel _)) q5
   have pj:∀ g p,τ1 g=some p->p.b=pl.b->False:=fun g p hp hb=>by
    by_cases kL:g<h.n
    ·rw[k1.old g kL]at hp;have:=hW _ _ hp;omega
    ·obtain⟨kk,hk,uq⟩:=k1.new g p ω hp;obtain⟨eZ,Hl,ir⟩:=k1.rows kk hk;have ah:kk≠a.block:=fun e=>by
      subst e;have:s1.contains a.block=true:=by simpa using hk
      rw[this]at xD;cases xD
     have:=hs.apart _ _ _ _ _ _ ir hg ah uq p1 hb;exact this.1 ⟨rfl,rfl⟩
   have cZ:=k1.rel.own (o:= .row (Zj sub H).1 true 0) (hs.lt _ _ p1).2 (QM hB Ls) fj pj;obtain⟨τ2,l1,l2,l3⟩:=mg xs ys (a.block::s1) s' hm h3 (yu τ1 (Zj sub H).2.n pl) ((Zj sub H).2.push (.row (Zj sub H).1 true 0))
    ⟨cZ,fun g kL=>by
      have:=k1.n;unfold yu;rw[QC ω];exact k1.old g kL,
     Nat.le_succ_of_le k1.n,fun g p kL hp=>by
      unfold yu at hp;split at hp
      ·cases hp;exact⟨a.block,by simp,p1⟩
      ·obtain⟨kk,hk,uq⟩:=k1.new g p kL hp;exact⟨kk,by simp[hk],uq⟩,
     fun kk hk=>by
      rcases Qt.1 hk with rfl|hk
      ·exact⟨_,_,hg⟩
      ·exact k1.rows kk hk⟩
   refine⟨τ2,l1,(k2.trans (YV k1.rel _)).trans l2,.cons ?_ l3⟩;have il:τ2 (Zj sub H).2.n=some pl:=l2 _ _ (yB _ _ _);cases h2 with
   | @slice g off _ _ cap b7 hp fJ fu hn=>
    simp only at gN;subst gN;simp only at p1;rw[hp]at p1;cases p1;exact WI.slice (σ:=τ2) (g:=(Zj sub H).2.n) (off:=0) il fJ fu hn
   |szero a x c=>exact .szero _ _ _
  |_=>cases hm
def zNV:Value->List Value
 | .tuple vs=>vs.toList
 |v=>[v]
def zDH(h:WA)(T:TL)(v:Value):Bool:=
 (match v with| .tuple vs=> !Nat.beq vs.size 1|_=>true)&&(mo h T (zNV v) []).isSome
def zRA{h:WA}{T:TL}{v:Value}(hk:zDH h T v=true):one (zNV v)=v:=by
 unfold zDH at hk;cases v with
 |tuple vs=>
  simp only[QI,Ge]at hk;obtain⟨l⟩:=vs;match l,hk.1 with
  |[],_=>rfl
  |[x],h=>exact absurd h (by simp)
  |x::y::l,_=>rfl
 |_=>rfl
def zQC{σ:Nat->Option Pl}{l l':List Value}(h:WQ σ l l'):WI σ (one l) (one l'):=by
 match l,l',h with
 |[],[],_=>exact .tuple rfl fun i x y hx=>by simp at hx
 |[x],[y],h=>exact h.2 0 _ _ rfl rfl
 |x::y::l,x'::y'::l',h=>
  exact .tuple (by simpa using h.1) fun i a b ha hb=>h.2 i a b (by simpa using ha) (by simpa using hb)
 |[],_::_,h=>exact absurd h.1 (by simp)
 |_::_,[],h=>exact absurd h.1 (by simp)
 |[_],_::_::_,h=>exact absurd h.1 (by simp)
 |_::_::_,[_],h=>exact absurd h.1 (by simp)
def zMt(h:WA)(args:List Value):List (TL×TL)->Option TL
 |[]=>none
 |p::l=>bif mt h p.1 args then some p.2 else zMt h args l
def zGK{h:WA}{args:List Value}{T:TL}:∀ {l:List (TL×TL)},zMt h args l=some T->∃ p∈l,mt h p.1 args=true/\p.2=T
 |[],hx=>by cases hx
 |p::l,hx=>by
  unfold zMt at hx;cases hm:mt h p.1 args with
  |true=>rw[hm]at hx;exact⟨p,by simp,hm,Qm hx⟩
  |false=>
   rw[hm]at hx;obtain⟨q,a,b⟩:=zGK (l:=l) hx;exact⟨q,by simp[a],b⟩
def B4(lv:List (Nat×List Value))(l:List (TL×TL)):List Value->WA->Option (Value×WA):=
 fun args h=>bif YM h lv then(match zMt h args l with
  |some T=>some (one (Zj T h).1,(Zj T h).2)
  |none=>none)else none
def zHX{lv:List (Nat×List Value)}{l:List (TL×TL)}{args:List Value}{h h':WA}{v:Value}(hx:B4 lv l args h=some (v,h')):
  YM h lv=true/\∃ p∈l,mt h p.1 args=true/\v=one (Zj p.2 h).1/\h'=(Zj p.2 h).2:=by
 unfold B4 at hx;cases hl:YM h lv with
 |false=>simp[hl]at hx
 |true=>
 simp only[hl,cond_true]at hx;split at hx;case h_2=>cases hx
 rename_i T hT;obtain⟨p,h1,h2,rfl⟩:=zGK hT;cases hx;exact⟨rfl,p,h1,h2,rfl,rfl⟩
def zOa{lv:List (Nat×List Value)}{l:List (TL×TL)}(args:List Value)(h:WA)(v:Value)(h':WA)(hx:B4 lv l args h=some (v,h')):Wl h.n h h':=by
 obtain⟨_,p,_,_,_,rfl⟩:=zHX hx;exact Yt _ _
def zDV(n:Nat)(lv:List (Nat×List Value))(T:TL):List Value×WA:=lay T (Z3 n lv)
def zLU{σ:Nat->Option Pl}{h:WA}(hg:P.globals.size<=w.heap.size)(hr:Wd P B σ h w)(l:List (Nat×List Value))(hl:∀ x∈l,x.1<P.globals.size/\yk x.2=true)
  (hh:YM h l=true):BP P w.heap.size (s0 P w) (Z3 P.globals.size l) w:=by
 refine⟨zTG hg hr l hl hh,fun g o hx=> ?_,fun g hn=> ?_⟩
 ·obtain⟨c,a,rfl⟩:=ZS _ l g o hx;exact⟨_,_,rfl⟩
 ·cases hq:(Z3 P.globals.size l).get g with
  |none=>rfl
  |some o=>
   obtain⟨c,a,rfl⟩:=ZS _ l g o hq;rw[zD0]at hn;have:=(hl _ a).1;simp only at this;omega
def zLj{tab:Ws}(cS:P.follows .mixedOrders=true)(cA:tab.Ok P){f n:Nat}{lv:List (Nat×List Value)}{l:List (TL×TL)}(hl:∀ x∈lv,x.1<P.globals.size/\yk x.2=true)
  (hx:∀ p∈l,∃ v h',(BE P tab n).call f (zDV P.globals.size lv p.1).1 (zDV P.globals.size lv p.1).2=some (v,h')/\zDH h' p.2 v=true):zCW P f (B4 lv l):=by
 intro e g args h v' h' hk;have fz:(if g=f then B4 lv l args h else none)=some (v',h'):=hk;clear hk;split at fz;case isFalse=>cases fz
 rename_i tZ;subst tZ;obtain⟨jN,p,hp,mh,rfl,rfl⟩:=zHX fz;obtain⟨v1,h1,aM,aS⟩:=hx p hp;obtain⟨s1,s2⟩:=(sound cS cA n).2 g _ _ _ _ aM;have HH:(zDV P.globals.size lv p.1).1=(lay p.1 (Z3 P.globals.size lv)).1:=rfl;refine⟨fun as w=>s1 as w,fun B σ w hr as jB kind cF=> ?_⟩;have CH:P.globals.size<=w.heap.size:=by
  by_cases h0:P.globals.size=0
  ·omega
  ·obtain⟨pl,a,b,_⟩:=hr.globals (P.globals.size-1) ω;have:=(hr.lt _ _ a).2;omega
 obtain⟨σ2,c2,_,c4⟩:=zTv hr p.1 args as.toList mh jB _ _ (zLU CH hr lv hl jN);obtain⟨σ',w',cv,ev,d2,d3⟩:=s2 w.heap.size σ2 w c2.rel as c4 kind cF;have bel:=ev.below c2.rel;have keep:∀ b,b<w.heap.size->w'.heap[b]?=w.heap[b]?:=bel.block;have Lt:Wd P B σ h w':=by
  refine⟨hr.globals,fun g pl hg=>⟨(hr.lt g pl hg).1,QG (hr.lt g pl hg).2 bel.size⟩,fun g o hg=> ?_,hr.apart,QM hr.le bel.size⟩;obtain⟨pl,a1,a2,a3⟩:=hr.live g o hg;exact⟨pl,a1,a2.keep (.refl _) (keep _ (hr.lt _ _ a1).2),a3⟩
 have Lu:Over P B w.heap.size σ h σ' h1 w' σ h []:=
  ⟨Lt,fun _ _=>rfl,QF _,fun g pl kL hp=>by have:=(hr.lt g pl hp).1;omega,fun k hk=>by cases hk⟩
 have ur:∃ bL,WQ σ' (zNV v1) bL/\one bL=cv:=by
  have aT:=zRA aS;cases v1 with
  |tuple vs=>
   cases d2 with
   | @tuple _ gI ha ra=>
   refine⟨gI.toList,⟨by simpa [zNV]using ha,fun i x y hx hy=>ra i x y (by simpa [zNV]using hx) (by simpa using hy)⟩,?_⟩;unfold zDH at aS;simp only[QI,Ge]at aS;rw[ha]at aS;obtain⟨l⟩:=gI;match l,aS.1 with
   |[],_=>rfl
   |[x],h=>exact absurd h (by simp)
   |x::y::l,_=>rfl
  |_=>exact⟨[cv],.cons d2 (.nil _),rfl⟩
 obtain⟨bL,jE,aT⟩:=ur;have CO:∃ s',mo h1 p.2 (zNV v1) []=some s':=by
  unfold zDH at aS;rw[QI]at aS;exact Option.isSome_iff_exists.1 aS.2
 obtain⟨s',CO⟩:=CO;obtain⟨τ,o1,o2,o3⟩:=zR7 (B:=B) (σ:=σ) (h:=h) hr.le (fun g pl hp=>(hr.lt g pl hp).2) ev.rel p.2 _ bL [] s' CO jE σ h Lu;have iI:=Yt p.2 h;refine⟨τ,w',cv,⟨o2,o1.rel,ev.os,ev.tape,ev.output,ev.size,fun b hb _=>keep b hb,fun b ⟨g,o,pl,x1,x2,x3,x4⟩=> ?_,o1.n,o1.old⟩,?_,d3⟩
 ·by_cases kL:g<h.n
  ·right;rw[o1.old g kL]at x3;refine⟨g,o,pl,?_,x2,x3,x4⟩;exact zBD p.2 h g kL▸x1
  ·left;obtain⟨k,hk,uq⟩:=o1.new g pl ω x3;obtain⟨cells,lo,Lw⟩:=o1.rows k hk;obtain⟨b7,y1,_,y3⟩:=ev.rel.live _ _ Lw;rw[uq]at y1;cases y1;have:=y3 rfl;omega
 ·rw[<-aT];exact zQC o3
end
section
variable {P:Program}
noncomputable def SD(P:Program)(tab:Ws)(n:Nat)(f:FuncId)(lv:List (Nat×List Value))(p:TL×TL):Option Value:=
 (zK7 P tab n).call f (zDV P.globals.size lv p.1).1 (zDV P.globals.size lv p.1).2 (fun v h=>yU (zDH h p.2 v) (some (.bool true)) none)
def zUm{tab:Ws}{n:Nat}{f:FuncId}{lv:List (Nat×List Value)}{p:TL×TL}(hx:SD P tab n f lv p=some (.bool true)):
  ∃ v h',(BE P tab n).call f (zDV P.globals.size lv p.1).1 (zDV P.globals.size lv p.1).2=some (v,h')/\zDH h' p.2 v=true:=by
 unfold SD at hx;rw[(zMb P tab n).call]at hx;cases hc:(BE P tab n).call f (zDV P.globals.size lv p.1).1 (zDV P.globals.size lv p.1).2 with
 |none=>rw[hc]at hx;cases hx
 |some q=>
  rw[hc]at hx;obtain⟨v,h'⟩:=q;refine⟨v,h',rfl,?_⟩;have hx:yU (zDH h' p.2 v) (some (Value.bool true)) none=some (.bool true):=hx;rw[yS]at hx;cases hk:zDH h' p.2 v with
  |true=>rfl
  |false=>rw[hk]at hx;cases hx
def Ws.know(tab:Ws)(f:FuncId)(s:List Value->WA->Option (Value×WA)):Ws:=⟨tab.code,fun g=>bif Nat.beq g f then some s else tab.stub g⟩
def Ws.Ok.know{tab:Ws}(ht:tab.Ok P)(cS:P.follows .mixedOrders=true){f n:Nat}{lv:List (Nat×List Value)}{l:List (TL×TL)}(hl:(lv.all fun x=>Nat.ble (x.1+1) P.globals.size&&yk x.2)=true)
  (hx:∀ p∈l,SD P tab n f lv p=some (.bool true)):(tab.know f (B4 lv l)).Ok P:=by
 have jB:∀ x∈lv,x.1<P.globals.size/\yk x.2=true:=fun x hx=>by
  have h1:=QX.1 hl x hx;rw[QI]at h1;exact⟨QP h1.1,h1.2⟩
 refine⟨ht.code,fun g s hs=> ?_,fun g s hs=> ?_⟩
 ·have mi:(bif Nat.beq g f then some (B4 lv l)else tab.stub g)=some s:=hs;clear hs;cases hb:Nat.beq g f with
  |true=>
   rw[hb]at mi;obtain rfl:=QN hb;obtain rfl:=Qm mi;exact zLj cS ht jB fun p hp=>zUm (hx p hp)
  |false=>rw[hb]at mi;exact ht.stub g s mi
 ·have mi:(bif Nat.beq g f then some (B4 lv l)else tab.stub g)=some s:=hs;clear hs;cases hb:Nat.beq g f with
  |true=>
   rw[hb]at mi;obtain rfl:=Qm mi;exact zOa
  |false=>rw[hb]at mi;exact ht.grow g s mi
end
end Go.Am
