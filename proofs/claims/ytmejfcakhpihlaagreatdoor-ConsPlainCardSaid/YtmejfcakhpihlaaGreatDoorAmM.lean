/- A part of the machine and of its soundness; proves no statement. -/
import Derived.Test.YtmejfcakhpihlaaGreatDoorAmE
set_option linter.unusedVariables false
set_option linter.unusedSimpArgs false
namespace Go.Am
open Go.RowKit
inductive TL where
 |nil
 |cl (v:Value) (rest:TL)
 |sl (c n:Nat) (sub rest:TL)
 |ag (sub rest:TL)
def zHZ:Value->Value->Bool
 | .int k a,.int k' b=>decide (k=k')&&a == b
 | .bool a,.bool b=>a == b
 | .string s,.string t=>s.data.toList == t.data.toList
 | .slice none 0 0,.slice none 0 0=>true
 | .pointer none,.pointer none=>true
 | .map none,.map none=>true
 | .nilFunc,.nilFunc=>true
 | .nilIface,.nilIface=>true
 |_,_=>false
theorem zId{a b:Value}(h:zHZ a b=true):b=a/\yT a=true:=by
 unfold zHZ at h;split at h
 ·simp only[QF,QV,G3]at h;rw[h.1,h.2];exact⟨rfl,rfl⟩
 ·simp only[G3]at h;rw[h];exact⟨rfl,rfl⟩
 ·rename_i s t;simp only[G3]at h;obtain⟨⟨l⟩⟩:=s;obtain⟨⟨m⟩⟩:=t;simp only at h;subst h;exact⟨rfl,rfl⟩
 ·exact⟨rfl,rfl⟩
 ·exact⟨rfl,rfl⟩
 ·exact⟨rfl,rfl⟩
 ·exact⟨rfl,rfl⟩
 ·exact⟨rfl,rfl⟩
 ·cases h
def mt(h:U2):TL->List Value->Bool
 | .nil,[]=>true
 | .cl v r,x::xs=>zHZ v x&&mt h r xs
 | .sl c n s r,.slice (some a) len k::xs=>
  (Nat.beq k c&&Nat.beq len n&&(match(bif Nat.beq n 0 then some []else(yF h a.block).bind fun cells=>cut cells a.off (n*c))with
   |some vs=>mt h s vs
   |none=>false))&&mt h r xs
 | .ag s r,.agg cs::xs=>mt h s cs.toList&&mt h r xs
 |_,_=>false
def U2.skip(h:U2):U2:={h with n:=h.n+1}
def lay:TL->U2->List Value×U2
 | .nil,h=>([],h)
 | .cl v r,h=>(v::(lay r h).1,(lay r h).2)
 | .sl c n s r,h=>(.slice (some ⟨(lay s h).2.n,0,none⟩) n c::(lay r (bif Nat.beq n 0 then(lay s h).2.skip else(lay s h).2.push (.row (lay s h).1 false 0))).1,
   (lay r (bif Nat.beq n 0 then(lay s h).2.skip else(lay s h).2.push (.row (lay s h).1 false 0))).2)
 | .ag s r,h=>(.agg (lay s h).1.toArray::(lay r (lay s h).2).1,(lay r (lay s h).2).2)
def mo(h:U2):TL->List Value->List Nat->Option (List Nat)
 | .nil,[],s=>some s
 | .cl v r,x::xs,s=>bif zHZ v x then mo h r xs s else none
 | .sl c n sub r,.slice (some a) len k::xs,s=>
  bif Nat.beq k c&&Nat.beq len n&&Nat.beq a.off 0&&a.spot.isNone then(match h.get a.block with
   |some (.row cells true lo)=>bif Nat.beq lo 0&&Nat.beq cells.length (n*c)then(match mo h sub cells s with
     |some s1=>bif s1.contains a.block then none else mo h r xs (a.block::s1)
     |none=>none)else none
   |_=>none)else none
 | .ag sub r,.agg cs::xs,s=>(match mo h sub cs.toList s with
   |some s1=>mo h r xs s1
   |none=>none)
 |_,_,_=>none
def ZY:TL->U2->List Value×U2
 | .nil,h=>([],h)
 | .cl v r,h=>(v::(ZY r h).1,(ZY r h).2)
 | .sl c n s r,h=>(.slice (some ⟨(ZY s h).2.n,0,none⟩) n c::(ZY r ((ZY s h).2.push (.row (ZY s h).1 true 0))).1,(ZY r ((ZY s h).2.push (.row (ZY s h).1 true 0))).2)
 | .ag s r,h=>(.agg (ZY s h).1.toArray::(ZY r (ZY s h).2).1,(ZY r (ZY s h).2).2)
theorem Ya:∀ (T:TL) (h:U2),WY h.n h (ZY T h).2
 | .nil,h=>WY.refl _ _
 | .cl v r,h=>Ya r h
 | .sl c n s r,h=>((Ya s h).on (Z5 _ rfl)).on (Ya r _)
 | .ag s r,h=>(Ya s h).on (Ya r _)
theorem zBz:∀ (T:TL) (h:U2),h.n<=(ZY T h).2.n
 | .nil,h=>QE _
 | .cl v r,h=>zBz r h
 | .sl c n s r,h=>QO (QO (zBz s h) (GV _)) (zBz r ((ZY s h).2.push (.row (ZY s h).1 true 0)))
 | .ag s r,h=>QO (zBz s h) (zBz r _)
theorem zAY:∀ (T:TL) (h:U2) (g:Nat),g<h.n->(ZY T h).2.get g=h.get g
 | .nil,h,g,hg=>rfl
 | .cl v r,h,g,hg=>zAY r h g hg
 | .sl c n s r,h,g,hg=>by
  have h1:=zBz s h;show(ZY r ((ZY s h).2.push _)).2.get g=_;rw[zAY r _ g (Nat.lt_succ_of_lt (QG hg h1)),zN,QC (by omega),zAY s h g hg]
 | .ag s r,h,g,hg=>by
  show(ZY r (ZY s h).2).2.get g=_;rw[zAY r _ g (QG hg (zBz s h)),zAY s h g hg]
section
variable {P:Program}{w:World}{B:Nat}
theorem zVX{σ:Nat->Option Pl}{pl:Pl}{cells:List Value}{own:Bool}{lo:Nat}(h:BD P σ pl (.row cells own lo) w):
  ∃ c elem fr,w.heap[pl.b]?=some (.cells c elem fr)/\c.size=pl.n/\pl.base+cells.length<=pl.n/\WG σ cells ((c.toList.drop pl.base).take cells.length)/\(own=true->fr=(0,0)):=by
 obtain⟨c,elem,fr,h1,h2,h3,h4,h5⟩:=h;refine⟨c,elem,fr,h1,h2,h3,⟨by simp;omega,fun i x y hx hy=> ?_⟩,h5⟩;obtain⟨y',a,b⟩:=h4 i x hx;have hi:i<cells.length:=(QQ.1 hx).1;rw[GD,QI hi,GQ]at hy;have:c[pl.base+i]?=some y:=by simpa using hy
 rw[a]at this;cases this;exact b
theorem zS3{σ:Nat->Option Pl}{pl:Pl}{cells:List Value}{own:Bool}{lo m:Nat}{c:Array Value}{elem:TypeId}{fr:Nat×Nat}(h1:w.heap[pl.b]?=some (.cells c elem fr))(h2:c.size=pl.n)(h3:pl.base+m<=pl.n)
  (h4:WG σ cells ((c.toList.drop pl.base).take m)) (h5:own=true->fr=(0,0)):BD P σ pl (.row cells own lo) w:=by
 have hlen:cells.length=m:=by rw[h4.1];simp;omega
 refine⟨c,elem,fr,h1,h2,by omega,fun i x hx=> ?_,h5⟩;obtain⟨y,a,b⟩:=h4.get hx;have hi:i<m:=by rw[<-hlen];exact(QQ.1 hx).1
 rw[GD,QI hi,GQ]at a;exact⟨y,by simpa using a,b⟩
theorem zHq{σ:Nat->Option Pl}{l:List Value}(h:WG σ [] l):l=[]:=Ga.1 h.1.symm
theorem Yu{σ:Nat->Option Pl}{x:Value}{xs l:List Value}(h:WG σ (x::xs) l):∃ y ys,l=y::ys/\U9 σ x y/\WG σ xs ys:=by
 cases l with
 |nil=>exact absurd h.1 (by simp)
 |cons y ys=>exact⟨y,ys,rfl,h.2 0 _ _ rfl rfl,by simpa using h.1,fun i a b ha hb=>h.2 (i+1) a b (by simpa using ha) (by simpa using hb)⟩
theorem zGB{σ:Nat->Option Pl}{h:U2}(hc:W8 P B σ h w):W8 P B σ h.skip w:=
 ⟨⟨hc.rel.globals,fun g pl hg=>⟨Nat.lt_succ_of_lt (hc.rel.lt g pl hg).1,(hc.rel.lt g pl hg).2⟩,hc.rel.live,hc.rel.apart,hc.rel.le⟩,hc.rows,fun g hg=>hc.wf g (Nat.le_of_succ_le hg)⟩
theorem zLU{σ:Nat->Option Pl}{h:U2}(hc:W8 P B σ h w){pl:Pl}(hb:pl.b<w.heap.size):W8 P B (yp σ h.n pl) h.skip w:=by
 have hle:=Z9 hc.rel pl;have hrel:WN P B σ h w:=hc.rel;have key:∀ g o,h.get g=some o->g≠h.n:=fun g o hg e=>by
  subst e;rw[hc.wf _ (QE _)]at hg;cases hg
 refine⟨⟨fun g hg=> ?_,fun g p hg=> ?_,fun g o hg=> ?_,fun g o g' o' p p' hg hg' hne hp hp'=> ?_,hrel.le⟩,hc.rows,(zGB hc).wf⟩
 ·obtain⟨p,h1,h2⟩:=hrel.globals g hg;exact⟨p,hle _ _ h1,h2⟩
 ·unfold yp at hg;split at hg
  ·cases hg;rename_i e;subst e;exact⟨Q7 _,hb⟩
  ·exact⟨Nat.lt_succ_of_lt (hrel.lt g p hg).1,(hrel.lt g p hg).2⟩
 ·obtain⟨p,h1,h2,h3⟩:=hrel.live g o hg;exact⟨p,hle _ _ h1,h2.keep hle rfl,h3⟩
 ·have e1:=key g o hg;have e2:=key g' o' hg';unfold yp at hp hp';rw[QC e1]at hp;rw[QC e2]at hp';exact hrel.apart g o g' o' p p' hg hg' hne hp hp'
theorem zUS{σ:Nat->Option Pl}{h:U2}{B1:Nat}(hr:WN P B σ h w):∀ (T:TL) (avs cvs:List Value),mt h T avs=true->WG σ avs cvs->∀ σ1 h1,W8 P B1 σ1 h1 w->
  ∃ σ2,W8 P B1 σ2 (lay T h1).2 w/\Le σ1 σ2/\WG σ2 (lay T h1).1 cvs:=by
 intro T;induction T with
 |nil=>
  intro avs cvs hm hl σ1 h1 hc;cases avs with
  |cons x xs=>cases hm
  |nil=>obtain rfl:=zHq hl;exact⟨σ1,hc,.refl _,WG.nil _⟩
 |cl v r ih=>
  intro avs cvs hm hl σ1 h1 hc;cases avs with
  |nil=>cases hm
  |cons x xs=>
   simp only[mt,QF]at hm;obtain⟨rfl,hcl⟩:=zId hm.1;obtain⟨y,ys,rfl,h2,h3⟩:=Yu hl;obtain⟨σ2,k1,k2,k3⟩:=ih xs ys hm.2 h3 σ1 h1 hc;obtain rfl:=h2.closed_eq hcl;exact⟨σ2,k1,k2,.cons (VK _ hcl) k3⟩
 |ag s r ihs ihr=>
  intro avs cvs hm hl σ1 h1 hc;cases avs with
  |nil=>cases hm
  |cons x xs=>
  cases x with
  |agg cs=>
   simp only[mt,QF]at hm;obtain⟨y,ys,rfl,h2,h3⟩:=Yu hl;cases h2 with
   | @agg _ cs' ha ra=>
   have hcs:WG σ cs.toList cs'.toList:=⟨by simpa using ha,fun i x y hx hy=>ra i x y (by simpa using hx) (by simpa using hy)⟩;obtain⟨σ2,k1,k2,k3⟩:=ihs _ _ hm.1 hcs σ1 h1 hc;obtain⟨σ3,l1,l2,l3⟩:=ihr xs ys hm.2 h3 σ2 _ k1;refine⟨σ3,l1,k2.trans l2,.cons ?_ l3⟩;have:=VV (k3.mono l2);simpa using this
  |_=>cases hm
 |sl c n s r ihs ihr=>
  intro avs cvs hm hl σ1 h1 hc;cases avs with
  |nil=>cases hm
  |cons x xs=>
  cases x with
  |slice a len k=>
   cases a with
   |none=>cases hm
   |some a=>
   simp only[mt,QF]at hm;obtain⟨⟨⟨m1,m2⟩,m3⟩,m4⟩:=hm;obtain rfl:=QJ m1;obtain rfl:=QJ m2;obtain⟨y,ys,rfl,h2,h3⟩:=Yu hl;by_cases h0:len=0
   ·subst h0;simp only[Ge,cond_true]at m3;obtain⟨σ2,k1,k2,k3⟩:=ihs [] [] m3 (WG.nil _) σ1 h1 hc;cases h2 with
    | @slice g off _ _ cap pl hp hcc hlc hn=>
     obtain⟨σ3,l1,l2,l3⟩:=ihr xs ys m4 h3 _ _ (zLU k1 (pl:=⟨pl.b,pl.base+off,pl.n⟩) (hr.lt _ _ hp).2);refine⟨σ3,l1,(k2.trans (Z9 k1.rel _)).trans l2,.cons ?_ l3⟩;have:=U9.slice (σ:=σ3) (g:=(lay s h1).2.n) (off:=0) (len:=0) (c:=k) (cap:=cap) (pl:=⟨pl.b,pl.base+off,pl.n⟩) (l2 _ _ (zx _ _ _)) hcc hlc hn;exact this
    |szero a x c=>
     obtain⟨σ3,l1,l2,l3⟩:=ihr xs ys m4 h3 _ _ (zGB k1);exact⟨σ3,l1,k2.trans l2,.cons (.szero _ _ _) l3⟩
   ·have hb:Nat.beq len 0=false:=by
     cases hq:Nat.beq len 0 with
     |false=>rfl
     |true=>exact absurd (QJ hq) h0
    simp only[hb,QR]at m3;cases h2 with
    |szero a x c=>exact absurd rfl h0
    | @slice g off _ _ cap pl hp hcc hlc hn=>
    split at m3;case h_2=>cases m3
    rename_i vs hv;obtain⟨cells,hv1,hv2⟩:=Option.bind_eq_some_iff.1 hv;unfold yF at hv1;split at hv1;case h_2=>cases hv1
    rename_i cells' own lo hg;cases hv1;unfold cut at hv2;cases hble:Nat.ble (off+len*k) cells.length with
    |false=>simp[hble]at hv2
    |true=>
    simp only[hble,cond_true,QA]at hv2;subst hv2;have hbl:=QN hble;obtain⟨pl',p1,p2,_⟩:=hr.live _ _ hg;rw[hp]at p1;cases p1;obtain⟨carr,elem,fr,q1,q2,q3,q4,q5⟩:=zVX p2;have hsub:WG σ ((cells.drop off).take (len*k)) ((carr.toList.drop (pl.base+off)).take (len*k)):=by
     have:=(q4.drop off).take (len*k);rw[List.drop_take,List.take_take,JE,Gj (by omega)]at this;exact this
    obtain⟨σ2,k1,k2,k3⟩:=ihs _ _ m3 hsub σ1 h1 hc;have hor:BD P σ2 ⟨pl.b,pl.base+off,pl.n⟩ (.row (lay s h1).1 false 0) w:=
     zS3 (pl:=⟨pl.b,pl.base+off,pl.n⟩) (m:=len*k) q1 q2 (by simp only;omega) k3 (fun x=>by cases x)
    obtain⟨r1,_,r3,r4⟩:=zEM k1.rel k1.no k1.rows (cells:=(lay s h1).1) (pl:=⟨pl.b,pl.base+off,pl.n⟩) (hr.lt _ _ hp).2 hor;obtain⟨σ3,l1,l2,l3⟩:=ihr xs ys m4 h3 _ _ ⟨r1,r3,(Zg _ _).wf k1.wf⟩;have hE:lay (.sl k len s r) h1=(.slice (some ⟨(lay s h1).2.n,0,none⟩) len k::(lay r ((lay s h1).2.push (.row (lay s h1).1 false 0))).1,(lay r ((lay s h1).2.push (.row (lay s h1).1 false 0))).2):=by
     simp only[lay,hb,QR]
    rw[hE];refine⟨σ3,l1,(k2.trans r4).trans l2,.cons ?_ l3⟩;have:=U9.slice (σ:=σ3) (g:=(lay s h1).2.n) (off:=0) (len:=len) (c:=k) (cap:=cap) (pl:=⟨pl.b,pl.base+off,pl.n⟩) (l2 _ _ (zx _ _ _)) hcc hlc hn;exact this
  |_=>cases hm
theorem WN.own{σ:Nat->Option Pl}{h:U2}{o:Wd}{pl:Pl}(hr:WN P B σ h w)(hb:pl.b<w.heap.size)(hB:B<=pl.b)(ho:BD P (yp σ h.n pl) pl o w)
  (hap:∀ g p,σ g=some p->p.b=pl.b->False):WN P B (yp σ h.n pl) (h.push o) w:=by
 have hle:=Z9 hr pl;have hsame:∀ g p,yp σ h.n pl g=some p->g=h.n/\p=pl\/g≠h.n/\σ g=some p:=fun g p hg=>by
  unfold yp at hg;split at hg
  ·exact .inl ⟨by assumption,(Q3 hg).symm⟩
  ·exact .inr ⟨by assumption,hg⟩
 refine⟨fun g hg=> ?_,fun g p hg=> ?_,fun g o' hg=> ?_,fun g o1 g' o2 p p' h1 h2 hne h3 h4 hbb=> ?_,hr.le⟩
 ·obtain⟨p,h1,h2⟩:=hr.globals g hg;exact⟨p,hle _ _ h1,h2⟩
 ·rcases hsame g p hg with⟨rfl,rfl⟩|⟨_,h1⟩
  ·exact⟨Q7 _,hb⟩
  ·exact⟨Nat.lt_succ_of_lt (hr.lt g p h1).1,(hr.lt g p h1).2⟩
 ·rw[zN]at hg;split at hg
  ·rename_i e;subst e;cases hg;exact⟨pl,zx _ _ _,ho,fun _=>hB⟩
  ·obtain⟨p,h1,h2,h3⟩:=hr.live g o' hg;exact⟨p,hle _ _ h1,h2.keep hle rfl,h3⟩
 ·rw[zN]at h1 h2;rcases hsame g p h3 with⟨e,rfl⟩|⟨e,h3'⟩<;>rcases hsame g' p' h4 with⟨e',rfl⟩|⟨e',h4'⟩
  ·exact absurd (e.trans e'.symm) hne
  ·exact(hap _ _ h4' hbb.symm).elim
  ·exact(hap _ _ h3' hbb).elim
  ·rw[QC e]at h1;rw[QC e']at h2;exact hr.apart g o1 g' o2 p p' h1 h2 hne h3' h4' hbb
structure Over(P:Program)(B W:Nat)(σ:Nat->Option Pl)(h:U2)(σ':Nat->Option Pl)(h0:U2)(w:World)(τ:Nat->Option Pl)(H:U2)(s:List Nat):Prop where
 rel:WN P B τ H w
 old:∀ g,g<h.n->τ g=σ g
 n:h.n<=H.n
 new:∀ g pl,h.n<=g->τ g=some pl->∃ k∈s,σ' k=some pl
 rows:∀ k∈s,∃ cells lo,h0.get k=some (.row cells true lo)
theorem zQz{W:Nat}{σ σ':Nat->Option Pl}{h h0:U2}(hB:B<=W)(hW:∀ g pl,σ g=some pl->pl.b<W)(hs:WN P W σ' h0 w):∀ (T:TL) (vs cvs:List Value) (s s':List Nat),mo h0 T vs s=some s'->WG σ' vs cvs->
  ∀ τ H,Over P B W σ h σ' h0 w τ H s->∃ τ',Over P B W σ h σ' h0 w τ' (ZY T H).2 s'/\Le τ τ'/\WG τ' (ZY T H).1 cvs:=by
 intro T;induction T with
 |nil=>
  intro vs cvs s s' hm hl τ H ho;cases vs with
  |cons x xs=>cases hm
  |nil=>obtain rfl:=zHq hl;cases hm;exact⟨τ,ho,.refl _,WG.nil _⟩
 |cl v r ih=>
  intro vs cvs s s' hm hl τ H ho;cases vs with
  |nil=>cases hm
  |cons x xs=>
   simp only[mo]at hm;cases hsc:zHZ v x with
   |false=>simp[hsc]at hm
   |true=>
   simp only[hsc,cond_true]at hm;obtain⟨rfl,hcl⟩:=zId hsc;obtain⟨y,ys,rfl,h2,h3⟩:=Yu hl;obtain⟨τ',k1,k2,k3⟩:=ih xs ys s s' hm h3 τ H ho;obtain rfl:=h2.closed_eq hcl;exact⟨τ',k1,k2,.cons (VK _ hcl) k3⟩
 |ag sub r ihs ihr=>
  intro vs cvs s s' hm hl τ H ho;cases vs with
  |nil=>cases hm
  |cons x xs=>
  cases x with
  |agg cs=>
   simp only[mo]at hm;split at hm;case h_2=>cases hm
   rename_i s1 hs1;obtain⟨y,ys,rfl,h2,h3⟩:=Yu hl;cases h2 with
   | @agg _ cs' ha ra=>
   have hcs:WG σ' cs.toList cs'.toList:=⟨by simpa using ha,fun i x y hx hy=>ra i x y (by simpa using hx) (by simpa using hy)⟩;obtain⟨τ1,k1,k2,k3⟩:=ihs _ _ s s1 hs1 hcs τ H ho;obtain⟨τ2,l1,l2,l3⟩:=ihr xs ys s1 s' hm h3 τ1 _ k1;refine⟨τ2,l1,k2.trans l2,.cons ?_ l3⟩;have:=VV (k3.mono l2);simpa using this
  |_=>cases hm
 |sl c n sub r ihs ihr=>
  intro vs cvs s s' hm hl τ H ho;cases vs with
  |nil=>cases hm
  |cons x xs=>
  cases x with
  |slice a len k=>
   cases a with
   |none=>cases hm
   |some a=>
   simp only[mo]at hm;cases hcd:(Nat.beq k c&&Nat.beq len n&&Nat.beq a.off 0&&a.spot.isNone)with
   |false=>simp[hcd]at hm
   |true=>
   simp only[hcd,cond_true]at hm;simp only[QF]at hcd;obtain⟨⟨⟨m1,m2⟩,m3⟩,m4⟩:=hcd;obtain rfl:=QJ m1;obtain rfl:=QJ m2;have hoff:=QJ m3;split at hm;case h_2=>cases hm
   rename_i cells lo hg;cases hq:(Nat.beq lo 0&&Nat.beq cells.length (len*k))with
   |false=>simp[hq]at hm
   |true=>
   simp only[hq,cond_true]at hm;rw[QF]at hq;have hlen:=QJ hq.2;split at hm;case h_2=>cases hm
   rename_i s1 hs1;cases hct:s1.contains a.block with
   |true=>rw[hct]at hm;cases hm
   |false=>
   rw[hct]at hm;simp only[QR]at hm;obtain⟨y,ys,rfl,h2,h3⟩:=Yu hl;obtain⟨pl,p1,p2,p3⟩:=hs.live _ _ hg;have hWp:W<=pl.b:=p3 rfl;obtain⟨carr,elem,fr,q1,q2,q3,q4,q5⟩:=zVX p2;obtain⟨τ1,k1,k2,k3⟩:=ihs _ _ s s1 hs1 q4 τ H ho;have hor:BD P (yp τ1 (ZY sub H).2.n pl) pl (.row (ZY sub H).1 true 0) w:=
    zS3 (m:=cells.length) q1 q2 q3 (k3.mono (Z9 k1.rel _)) q5
   have hap:∀ g p,τ1 g=some p->p.b=pl.b->False:=fun g p hp hb=>by
    by_cases hgn:g<h.n
    ·rw[k1.old g hgn]at hp;have:=hW _ _ hp;omega
    ·obtain⟨kk,hk,hkp⟩:=k1.new g p (by omega) hp;obtain⟨cells2,lo2,hg2⟩:=k1.rows kk hk;have hne:kk≠a.block:=fun e=>by
      subst e;have:s1.contains a.block=true:=by simpa using hk
      rw[this]at hct;cases hct
     have:=hs.apart _ _ _ _ _ _ hg2 hg hne hkp p1 hb;exact this.1 ⟨rfl,rfl⟩
   have hrel:=k1.rel.own (o:= .row (ZY sub H).1 true 0) (hs.lt _ _ p1).2 (QO hB hWp) hor hap;obtain⟨τ2,l1,l2,l3⟩:=ihr xs ys (a.block::s1) s' hm h3 (yp τ1 (ZY sub H).2.n pl) ((ZY sub H).2.push (.row (ZY sub H).1 true 0))
    ⟨hrel,fun g hgn=>by
      have:=k1.n;unfold yp;rw[QC (by omega)];exact k1.old g hgn,
     Nat.le_succ_of_le k1.n,fun g p hgn hp=>by
      unfold yp at hp;split at hp
      ·cases hp;exact⟨a.block,by simp,p1⟩
      ·obtain⟨kk,hk,hkp⟩:=k1.new g p hgn hp;exact⟨kk,by simp[hk],hkp⟩,
     fun kk hk=>by
      rcases GL.1 hk with rfl|hk
      ·exact⟨_,_,hg⟩
      ·exact k1.rows kk hk⟩
   refine⟨τ2,l1,(k2.trans (Z9 k1.rel _)).trans l2,.cons ?_ l3⟩;have hgm:τ2 (ZY sub H).2.n=some pl:=l2 _ _ (zx _ _ _);cases h2 with
   | @slice g off _ _ cap pl2 hp hcc hlc hn=>
    simp only at hoff;subst hoff;simp only at p1;rw[hp]at p1;cases p1;exact U9.slice (σ:=τ2) (g:=(ZY sub H).2.n) (off:=0) hgm hcc hlc hn
   |szero a x c=>exact .szero _ _ _
  |_=>cases hm
def zL0:Value->List Value
 | .tuple vs=>vs.toList
 |v=>[v]
def zCW(h:U2)(T:TL)(v:Value):Bool:=
 (match v with| .tuple vs=> !Nat.beq vs.size 1|_=>true)&&(mo h T (zL0 v) []).isSome
theorem zNf{h:U2}{T:TL}{v:Value}(hk:zCW h T v=true):one (zL0 v)=v:=by
 unfold zCW at hk;cases v with
 |tuple vs=>
  simp only[QF,GZ]at hk;obtain⟨l⟩:=vs;match l,hk.1 with
  |[],_=>rfl
  |[x],h=>exact absurd h (by simp)
  |x::y::l,_=>rfl
 |_=>rfl
theorem zOg{σ:Nat->Option Pl}{l l':List Value}(h:WG σ l l'):U9 σ (one l) (one l'):=by
 match l,l',h with
 |[],[],_=>exact .tuple rfl fun i x y hx=>by simp at hx
 |[x],[y],h=>exact h.2 0 _ _ rfl rfl
 |x::y::l,x'::y'::l',h=>
  exact .tuple (by simpa using h.1) fun i a b ha hb=>h.2 i a b (by simpa using ha) (by simpa using hb)
 |[],_::_,h=>exact absurd h.1 (by simp)
 |_::_,[],h=>exact absurd h.1 (by simp)
 |[_],_::_::_,h=>exact absurd h.1 (by simp)
 |_::_::_,[_],h=>exact absurd h.1 (by simp)
def zK3(h:U2)(args:List Value):List (TL×TL)->Option TL
 |[]=>none
 |p::l=>bif mt h p.1 args then some p.2 else zK3 h args l
theorem zEX{h:U2}{args:List Value}{T:TL}:∀ {l:List (TL×TL)},zK3 h args l=some T->∃ p∈l,mt h p.1 args=true/\p.2=T
 |[],hx=>by cases hx
 |p::l,hx=>by
  unfold zK3 at hx;cases hm:mt h p.1 args with
  |true=>rw[hm]at hx;exact⟨p,by simp,hm,Q3 hx⟩
  |false=>
   rw[hm]at hx;obtain⟨q,a,b⟩:=zEX (l:=l) hx;exact⟨q,by simp[a],b⟩
def Yk(lv:List (Nat×List Value))(l:List (TL×TL)):List Value->U2->Option (Value×U2):=
 fun args h=>bif zAV h lv then(match zK3 h args l with
  |some T=>some (one (ZY T h).1,(ZY T h).2)
  |none=>none)else none
theorem zGM{lv:List (Nat×List Value)}{l:List (TL×TL)}{args:List Value}{h h':U2}{v:Value}(hx:Yk lv l args h=some (v,h')):
  zAV h lv=true/\∃ p∈l,mt h p.1 args=true/\v=one (ZY p.2 h).1/\h'=(ZY p.2 h).2:=by
 unfold Yk at hx;cases hl:zAV h lv with
 |false=>simp[hl]at hx
 |true=>
 simp only[hl,cond_true]at hx;split at hx;case h_2=>cases hx
 rename_i T hT;obtain⟨p,h1,h2,rfl⟩:=zEX hT;cases hx;exact⟨rfl,p,h1,h2,rfl,rfl⟩
theorem zMW{lv:List (Nat×List Value)}{l:List (TL×TL)}(args:List Value)(h:U2)(v:Value)(h':U2)(hx:Yk lv l args h=some (v,h')):WY h.n h h':=by
 obtain⟨_,p,_,_,_,rfl⟩:=zGM hx;exact Ya _ _
def zC0(n:Nat)(lv:List (Nat×List Value))(T:TL):List Value×U2:=lay T (Z6 n lv)
theorem zJF{σ:Nat->Option Pl}{h:U2}(hg:P.globals.size<=w.heap.size)(hr:WN P B σ h w)(l:List (Nat×List Value))(hl:∀ x∈l,x.1<P.globals.size/\yb x.2=true)
  (hh:zAV h l=true):W8 P w.heap.size (s0 P w) (Z6 P.globals.size l) w:=by
 refine⟨zSn hg hr l hl hh,fun g o hx=> ?_,fun g hn=> ?_⟩
 ·obtain⟨c,a,rfl⟩:=ZJ _ l g o hx;exact⟨_,_,rfl⟩
 ·cases hq:(Z6 P.globals.size l).get g with
  |none=>rfl
  |some o=>
   obtain⟨c,a,rfl⟩:=ZJ _ l g o hq;rw[zCs]at hn;have:=(hl _ a).1;simp only at this;omega
theorem zJe{tab:Wi}(hmix:P.follows .mixedOrders=true)(htab:tab.Ok P){f n:Nat}{lv:List (Nat×List Value)}{l:List (TL×TL)}(hl:∀ x∈lv,x.1<P.globals.size/\yb x.2=true)
  (hx:∀ p∈l,∃ v h',(Wy P tab n).call f (zC0 P.globals.size lv p.1).1 (zC0 P.globals.size lv p.1).2=some (v,h')/\zCW h' p.2 v=true):zBb P f (Yk lv l):=by
 intro e g args h v' h' hk;have hkk:(if g=f then Yk lv l args h else none)=some (v',h'):=hk;clear hk;split at hkk;case isFalse=>cases hkk
 rename_i hgf;subst hgf;obtain⟨hlaid,p,hp,hmt,rfl,rfl⟩:=zGM hkk;obtain⟨v1,h1,hrun,hok⟩:=hx p hp;obtain⟨s1,s2⟩:=(sound hmix htab n).2 g _ _ _ _ hrun;have hlay0:(zC0 P.globals.size lv p.1).1=(lay p.1 (Z6 P.globals.size lv)).1:=rfl;refine⟨fun as w=>s1 as w,fun B σ w hr as hl' kind hk'=> ?_⟩;have hgs:P.globals.size<=w.heap.size:=by
  by_cases h0:P.globals.size=0
  ·omega
  ·obtain⟨pl,a,b,_⟩:=hr.globals (P.globals.size-1) (by omega);have:=(hr.lt _ _ a).2;omega
 obtain⟨σ2,c2,_,c4⟩:=zUS hr p.1 args as.toList hmt hl' _ _ (zJF hgs hr lv hl hlaid);obtain⟨σ',w',cv,ev,d2,d3⟩:=s2 w.heap.size σ2 w c2.rel as c4 kind hk';have bel:=ev.below c2.rel;have keep:∀ b,b<w.heap.size->w'.heap[b]?=w.heap[b]?:=bel.block;have hr':WN P B σ h w':=by
  refine⟨hr.globals,fun g pl hg=>⟨(hr.lt g pl hg).1,QG (hr.lt g pl hg).2 bel.size⟩,fun g o hg=> ?_,hr.apart,QO hr.le bel.size⟩;obtain⟨pl,a1,a2,a3⟩:=hr.live g o hg;exact⟨pl,a1,a2.keep (.refl _) (keep _ (hr.lt _ _ a1).2),a3⟩
 have hov:Over P B w.heap.size σ h σ' h1 w' σ h []:=
  ⟨hr',fun _ _=>rfl,QE _,fun g pl hgn hp=>by have:=(hr.lt g pl hp).1;omega,fun k hk=>by cases hk⟩
 have hvals:∃ cvs,WG σ' (zL0 v1) cvs/\one cvs=cv:=by
  have hone:=zNf hok;cases v1 with
  |tuple vs=>
   cases d2 with
   | @tuple _ vs' ha ra=>
   refine⟨vs'.toList,⟨by simpa [zL0]using ha,fun i x y hx hy=>ra i x y (by simpa [zL0]using hx) (by simpa using hy)⟩,?_⟩;unfold zCW at hok;simp only[QF,GZ]at hok;rw[ha]at hok;obtain⟨l⟩:=vs';match l,hok.1 with
   |[],_=>rfl
   |[x],h=>exact absurd h (by simp)
   |x::y::l,_=>rfl
  |_=>exact⟨[cv],.cons d2 (.nil _),rfl⟩
 obtain⟨cvs,hcv,hone⟩:=hvals;have hmo:∃ s',mo h1 p.2 (zL0 v1) []=some s':=by
  unfold zCW at hok;rw[QF]at hok;exact Option.isSome_iff_exists.1 hok.2
 obtain⟨s',hmo⟩:=hmo;obtain⟨τ,o1,o2,o3⟩:=zQz (B:=B) (σ:=σ) (h:=h) hr.le (fun g pl hp=>(hr.lt g pl hp).2) ev.rel p.2 _ cvs [] s' hmo hcv σ h hov;have hgr:=Ya p.2 h;refine⟨τ,w',cv,⟨o2,o1.rel,ev.os,ev.tape,ev.output,ev.size,fun b hb _=>keep b hb,fun b ⟨g,o,pl,x1,x2,x3,x4⟩=> ?_,o1.n,o1.old⟩,?_,d3⟩
 ·by_cases hgn:g<h.n
  ·right;rw[o1.old g hgn]at x3;refine⟨g,o,pl,?_,x2,x3,x4⟩;exact zAY p.2 h g hgn▸x1
  ·left;obtain⟨k,hk,hkp⟩:=o1.new g pl (by omega) x3;obtain⟨cells,lo,hgk⟩:=o1.rows k hk;obtain⟨pl2,y1,_,y3⟩:=ev.rel.live _ _ hgk;rw[hkp]at y1;cases y1;have:=y3 rfl;omega
 ·rw[<-hone];exact zOg o3
end
section
variable {P:Program}
noncomputable def BY(P:Program)(tab:Wi)(n:Nat)(f:FuncId)(lv:List (Nat×List Value))(p:TL×TL):Option Value:=
 (zJH P tab n).call f (zC0 P.globals.size lv p.1).1 (zC0 P.globals.size lv p.1).2 (fun v h=>yR (zCW h p.2 v) (some (.bool true)) none)
theorem zT6{tab:Wi}{n:Nat}{f:FuncId}{lv:List (Nat×List Value)}{p:TL×TL}(hx:BY P tab n f lv p=some (.bool true)):
  ∃ v h',(Wy P tab n).call f (zC0 P.globals.size lv p.1).1 (zC0 P.globals.size lv p.1).2=some (v,h')/\zCW h' p.2 v=true:=by
 unfold BY at hx;rw[(zKJ P tab n).call]at hx;cases hc:(Wy P tab n).call f (zC0 P.globals.size lv p.1).1 (zC0 P.globals.size lv p.1).2 with
 |none=>rw[hc]at hx;cases hx
 |some q=>
  rw[hc]at hx;obtain⟨v,h'⟩:=q;refine⟨v,h',rfl,?_⟩;have hx:yR (zCW h' p.2 v) (some (Value.bool true)) none=some (.bool true):=hx;rw[yP]at hx;cases hk:zCW h' p.2 v with
  |true=>rfl
  |false=>rw[hk]at hx;cases hx
def Wi.know(tab:Wi)(f:FuncId)(s:List Value->U2->Option (Value×U2)):Wi:=⟨tab.code,fun g=>bif Nat.beq g f then some s else tab.stub g⟩
theorem Wi.Ok.know{tab:Wi}(ht:tab.Ok P)(hmix:P.follows .mixedOrders=true){f n:Nat}{lv:List (Nat×List Value)}{l:List (TL×TL)}(hl:(lv.all fun x=>Nat.ble (x.1+1) P.globals.size&&yb x.2)=true)
  (hx:∀ p∈l,BY P tab n f lv p=some (.bool true)):(tab.know f (Yk lv l)).Ok P:=by
 have hl':∀ x∈lv,x.1<P.globals.size/\yb x.2=true:=fun x hx=>by
  have h1:=QX.1 hl x hx;rw[QF]at h1;exact⟨QN h1.1,h1.2⟩
 refine⟨ht.code,fun g s hs=> ?_,fun g s hs=> ?_⟩
 ·have hss:(bif Nat.beq g f then some (Yk lv l)else tab.stub g)=some s:=hs;clear hs;cases hb:Nat.beq g f with
  |true=>
   rw[hb]at hss;obtain rfl:=QJ hb;obtain rfl:=Q3 hss;exact zJe hmix ht hl' fun p hp=>zT6 (hx p hp)
  |false=>rw[hb]at hss;exact ht.stub g s hss
 ·have hss:(bif Nat.beq g f then some (Yk lv l)else tab.stub g)=some s:=hs;clear hs;cases hb:Nat.beq g f with
  |true=>
   rw[hb]at hss;obtain rfl:=Q3 hss;exact zMW
  |false=>rw[hb]at hss;exact ht.grow g s hss
end
end Go.Am
