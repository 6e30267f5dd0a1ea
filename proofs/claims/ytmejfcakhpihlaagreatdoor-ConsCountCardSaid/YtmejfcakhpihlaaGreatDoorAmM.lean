/- A part of the abstract machine for the model's programs and of the proof that what it yields the model's call yields (definitions, operations, runs, regions that draw their order); no statement of the seat is proved in this text. -/
import Derived.Test.YtmejfcakhpihlaaGreatDoorAmD
import Derived.Test.YtmejfcakhpihlaaGreatDoorAmE
set_option linter.unusedVariables false
set_option linter.unusedSimpArgs false
namespace Go.Am
open Go.RowKit
inductive TL where
 |nil
 |cl (v:Value) (rest:TL)
 |sl (c n:Nat) (sub rest:TL)
 |ag (sub rest:TL)
def zIW:Value->Value->Bool
 | .int k a,.int k' b=>decide (k=k')&&a == b
 | .bool a,.bool b=>a == b
 | .string s,.string t=>s.data.toList == t.data.toList
 | .slice none 0 0,.slice none 0 0=>true
 | .pointer none,.pointer none=>true
 | .map none,.map none=>true
 | .nilFunc,.nilFunc=>true
 | .nilIface,.nilIface=>true
 |_,_=>false
theorem zIF {a b:Value}(h:zIW a b=true):b=a/\yO a=true:=by
 unfold zIW at h;split at h
 ·simp only[QF,QX,G1]at h;rw[h.1,h.2];exact⟨rfl,rfl⟩
 ·simp only[G1]at h;rw[h];exact⟨rfl,rfl⟩
 ·rename_i s t;simp only[G1]at h;obtain⟨⟨l⟩⟩:=s;obtain⟨⟨m⟩⟩:=t;simp only at h;subst h;exact⟨rfl,rfl⟩
 ·exact⟨rfl,rfl⟩
 ·exact⟨rfl,rfl⟩
 ·exact⟨rfl,rfl⟩
 ·exact⟨rfl,rfl⟩
 ·exact⟨rfl,rfl⟩
 ·cases h
def mt (h:Uz):TL->List Value->Bool
 | .nil,[]=>true
 | .cl v r,x::xs=>zIW v x&&mt h r xs
 | .sl c n s r,.slice (some a) len k::xs=>
  (Nat.beq k c&&Nat.beq len n&&(match (bif Nat.beq n 0 then some [] else (z8 h a.block).bind fun cells=>cut cells a.off (n * c))with
   |some vs=>mt h s vs
   |none=>false))&&mt h r xs
 | .ag s r,.agg cs::xs=>mt h s cs.toList&&mt h r xs
 |_,_=>false
def Uz.skip (h:Uz):Uz:={h with n:=h.n+1}
def lay:TL->Uz->List Value×Uz
 | .nil,h=>([],h)
 | .cl v r,h=>(v::(lay r h).1,(lay r h).2)
 | .sl c n s r,h=>(.slice (some ⟨(lay s h).2.n,0,none⟩) n c::(lay r (bif Nat.beq n 0 then (lay s h).2.skip else (lay s h).2.push (.row (lay s h).1 false 0))).1,
   (lay r (bif Nat.beq n 0 then (lay s h).2.skip else (lay s h).2.push (.row (lay s h).1 false 0))).2)
 | .ag s r,h=>(.agg (lay s h).1.toArray::(lay r (lay s h).2).1,(lay r (lay s h).2).2)
def mo (h:Uz):TL->List Value->List Nat->Option (List Nat)
 | .nil,[],s=>some s
 | .cl v r,x::xs,s=>bif zIW v x then mo h r xs s else none
 | .sl c n sub r,.slice (some a) len k::xs,s=>
  bif Nat.beq k c&&Nat.beq len n&&Nat.beq a.off 0&&a.spot.isNone then (match h.get a.block with
   |some (.row cells true lo)=>bif Nat.beq lo 0&&Nat.beq cells.length (n * c) then (match mo h sub cells s with
     |some s1=>bif s1.contains a.block then none else mo h r xs (a.block::s1)
     |none=>none) else none
   |_=>none) else none
 | .ag sub r,.agg cs::xs,s=>(match mo h sub cs.toList s with
   |some s1=>mo h r xs s1
   |none=>none)
 |_,_,_=>none
def ZW:TL->Uz->List Value×Uz
 | .nil,h=>([],h)
 | .cl v r,h=>(v::(ZW r h).1,(ZW r h).2)
 | .sl c n s r,h=>(.slice (some ⟨(ZW s h).2.n,0,none⟩) n c::(ZW r ((ZW s h).2.push (.row (ZW s h).1 true 0))).1,(ZW r ((ZW s h).2.push (.row (ZW s h).1 true 0))).2)
 | .ag s r,h=>(.agg (ZW s h).1.toArray::(ZW r (ZW s h).2).1,(ZW r (ZW s h).2).2)
theorem YQ:∀ (T:TL) (h:Uz),WT h.n h (ZW T h).2
 | .nil,h=>WT.refl _ _
 | .cl v r,h=>YQ r h
 | .sl c n s r,h=>((YQ s h).on (Z0 _ rfl)).on (YQ r _)
 | .ag s r,h=>(YQ s h).on (YQ r _)
theorem zB1:∀ (T:TL) (h:Uz),h.n<=(ZW T h).2.n
 | .nil,h=>QE _
 | .cl v r,h=>zB1 r h
 | .sl c n s r,h=>QO (QO (zB1 s h) (GU _)) (zB1 r ((ZW s h).2.push (.row (ZW s h).1 true 0)))
 | .ag s r,h=>QO (zB1 s h) (zB1 r _)
theorem zAe:∀ (T:TL) (h:Uz) (g:Nat),g<h.n->(ZW T h).2.get g=h.get g
 | .nil,h,g,hg=>rfl
 | .cl v r,h,g,hg=>zAe r h g hg
 | .sl c n s r,h,g,hg=>by
  have h1:=zB1 s h;show (ZW r ((ZW s h).2.push _)).2.get g=_;rw[zAe r _ g (Nat.lt_succ_of_lt (QG hg h1)),zN,QB (by omega),zAe s h g hg]
 | .ag s r,h,g,hg=>by
  show (ZW r (ZW s h).2).2.get g=_;rw[zAe r _ g (QG hg (zB1 s h)),zAe s h g hg]
section
variable {P:Program}{w:World}{B:Nat}
theorem zU8 {σ:Nat->Option Pl}{pl:Pl}{cells:List Value}{own:Bool}{lo:Nat}(h:W9 P σ pl (.row cells own lo) w):
  ∃ c elem fr,w.heap[pl.b]?=some (.cells c elem fr)/\c.size=pl.n/\pl.base+cells.length<=pl.n/\WF σ cells ((c.toList.drop pl.base).take cells.length)/\(own=true->fr=(0,0)):=by
 obtain⟨c,elem,fr,h1,h2,h3,h4,h5⟩:=h;refine⟨c,elem,fr,h1,h2,h3,⟨by simp;omega,fun i x y hx hy=> ?_⟩,h5⟩;obtain⟨y',a,b⟩:=h4 i x hx;have hi:i<cells.length:=(QQ.1 hx).1;rw[Q9,QJ hi,GO]at hy;have:c[pl.base+i]?=some y:=by simpa using hy
 rw[a]at this;cases this;exact b
theorem zSl {σ:Nat->Option Pl}{pl:Pl}{cells:List Value}{own:Bool}{lo m:Nat}{c:Array Value}{elem:TypeId}{fr:Nat×Nat}(h1:w.heap[pl.b]?=some (.cells c elem fr))(h2:c.size=pl.n)(h3:pl.base+m<=pl.n)
  (h4:WF σ cells ((c.toList.drop pl.base).take m)) (h5:own=true->fr=(0,0)):W9 P σ pl (.row cells own lo) w:=by
 have hlen:cells.length=m:=by rw[h4.1];simp;omega
 refine⟨c,elem,fr,h1,h2,by omega,fun i x hx=> ?_,h5⟩;obtain⟨y,a,b⟩:=h4.get hx;have hi:i<m:=by rw[<-hlen];exact(QQ.1 hx).1
 rw[Q9,QJ hi,GO]at a;exact⟨y,by simpa using a,b⟩
theorem zIi {σ:Nat->Option Pl}{l:List Value}(h:WF σ [] l):l=[]:=GW.1 h.1.symm
theorem Yr {σ:Nat->Option Pl}{x:Value}{xs l:List Value}(h:WF σ (x::xs) l):∃ y ys,l=y::ys/\U6 σ x y/\WF σ xs ys:=by
 cases l with
 |nil=>exact absurd h.1 (by simp)
 |cons y ys=>exact⟨y,ys,rfl,h.2 0 _ _ rfl rfl,by simpa using h.1,fun i a b ha hb=>h.2 (i+1) a b (by simpa using ha) (by simpa using hb)⟩
theorem zGB {σ:Nat->Option Pl}{h:Uz}(hc:W0 P B σ h w):W0 P B σ h.skip w:=
 ⟨⟨hc.rel.globals,fun g pl hg=>⟨Nat.lt_succ_of_lt (hc.rel.lt g pl hg).1,(hc.rel.lt g pl hg).2⟩,hc.rel.live,hc.rel.apart,hc.rel.le⟩,hc.rows,fun g hg=>hc.wf g (Nat.le_of_succ_le hg)⟩
theorem zMT {σ:Nat->Option Pl}{h:Uz}(hc:W0 P B σ h w){pl:Pl}(hb:pl.b<w.heap.size):W0 P B (yl σ h.n pl) h.skip w:=by
 have hle:=Z4 hc.rel pl;have hrel:WK P B σ h w:=hc.rel;have key:∀ g o,h.get g=some o->g≠h.n:=fun g o hg e=>by
  subst e;rw[hc.wf _ (QE _)]at hg;cases hg
 refine⟨⟨fun g hg=> ?_,fun g p hg=> ?_,fun g o hg=> ?_,fun g o g' o' p p' hg hg' hne hp hp'=> ?_,hrel.le⟩,hc.rows,(zGB hc).wf⟩
 ·obtain⟨p,h1,h2⟩:=hrel.globals g hg;exact⟨p,hle _ _ h1,h2⟩
 ·unfold yl at hg;split at hg
  ·cases hg;rename_i e;subst e;exact⟨GD _,hb⟩
  ·exact⟨Nat.lt_succ_of_lt (hrel.lt g p hg).1,(hrel.lt g p hg).2⟩
 ·obtain⟨p,h1,h2,h3⟩:=hrel.live g o hg;exact⟨p,hle _ _ h1,h2.keep hle rfl,h3⟩
 ·have e1:=key g o hg;have e2:=key g' o' hg';unfold yl at hp hp';rw[QB e1]at hp;rw[QB e2]at hp';exact hrel.apart g o g' o' p p' hg hg' hne hp hp'
theorem zUa {σ:Nat->Option Pl}{h:Uz}{B1:Nat}(hr:WK P B σ h w):∀ (T:TL) (avs cvs:List Value),mt h T avs=true->WF σ avs cvs->∀ σ1 h1,W0 P B1 σ1 h1 w->
  ∃ σ2,W0 P B1 σ2 (lay T h1).2 w/\Le σ1 σ2/\WF σ2 (lay T h1).1 cvs:=by
 intro T;induction T with
 |nil=>
  intro avs cvs hm hl σ1 h1 hc;cases avs with
  |cons x xs=>cases hm
  |nil=>obtain rfl:=zIi hl;exact⟨σ1,hc,.refl _,WF.nil _⟩
 |cl v r ih=>
  intro avs cvs hm hl σ1 h1 hc;cases avs with
  |nil=>cases hm
  |cons x xs=>
   simp only[mt,QF]at hm;obtain⟨rfl,hcl⟩:=zIF hm.1;obtain⟨y,ys,rfl,h2,h3⟩:=Yr hl;obtain⟨σ2,k1,k2,k3⟩:=ih xs ys hm.2 h3 σ1 h1 hc;obtain rfl:=h2.closed_eq hcl;exact⟨σ2,k1,k2,.cons (VK _ hcl) k3⟩
 |ag s r ihs ihr=>
  intro avs cvs hm hl σ1 h1 hc;cases avs with
  |nil=>cases hm
  |cons x xs=>
  cases x with
  |agg cs=>
   simp only[mt,QF]at hm;obtain⟨y,ys,rfl,h2,h3⟩:=Yr hl;cases h2 with
   | @agg _ cs' ha ra=>
   have hcs:WF σ cs.toList cs'.toList:=⟨by simpa using ha,fun i x y hx hy=>ra i x y (by simpa using hx) (by simpa using hy)⟩;obtain⟨σ2,k1,k2,k3⟩:=ihs _ _ hm.1 hcs σ1 h1 hc;obtain⟨σ3,l1,l2,l3⟩:=ihr xs ys hm.2 h3 σ2 _ k1;refine⟨σ3,l1,k2.trans l2,.cons ?_ l3⟩;have:=VV (k3.mono l2);simpa using this
  |_=>cases hm
 |sl c n s r ihs ihr=>
  intro avs cvs hm hl σ1 h1 hc;cases avs with
  |nil=>cases hm
  |cons x xs=>
  cases x with
  |slice a len k=>
   cases a with
   |none=>cases hm
   |some a=>
   simp only[mt,QF]at hm;obtain⟨⟨⟨m1,m2⟩,m3⟩,m4⟩:=hm;obtain rfl:=QI m1;obtain rfl:=QI m2;obtain⟨y,ys,rfl,h2,h3⟩:=Yr hl;by_cases h0:len=0
   ·subst h0;simp only[Gd,cond_true]at m3;obtain⟨σ2,k1,k2,k3⟩:=ihs [] [] m3 (WF.nil _) σ1 h1 hc;cases h2 with
    | @slice g off _ _ cap pl hp hcc hlc hn=>
     obtain⟨σ3,l1,l2,l3⟩:=ihr xs ys m4 h3 _ _ (zMT k1 (pl:=⟨pl.b,pl.base+off,pl.n⟩) (hr.lt _ _ hp).2);refine⟨σ3,l1,(k2.trans (Z4 k1.rel _)).trans l2,.cons ?_ l3⟩;have:=U6.slice (σ:=σ3) (g:=(lay s h1).2.n) (off:=0) (len:=0) (c:=k) (cap:=cap) (pl:=⟨pl.b,pl.base+off,pl.n⟩) (l2 _ _ (zt _ _ _)) hcc hlc hn;exact this
    |szero a x c=>
     obtain⟨σ3,l1,l2,l3⟩:=ihr xs ys m4 h3 _ _ (zGB k1);exact⟨σ3,l1,k2.trans l2,.cons (.szero _ _ _) l3⟩
   ·have hb:Nat.beq len 0=false:=by
     cases hq:Nat.beq len 0 with
     |false=>rfl
     |true=>exact absurd (QI hq) h0
    simp only[hb,QR]at m3;cases h2 with
    |szero a x c=>exact absurd rfl h0
    | @slice g off _ _ cap pl hp hcc hlc hn=>
    split at m3;case h_2=>cases m3
    rename_i vs hv;obtain⟨cells,hv1,hv2⟩:=Option.bind_eq_some_iff.1 hv;unfold z8 at hv1;split at hv1;case h_2=>cases hv1
    rename_i cells' own lo hg;cases hv1;unfold cut at hv2;cases hble:Nat.ble (off+len * k) cells.length with
    |false=>simp[hble]at hv2
    |true=>
    simp only[hble,cond_true,QA]at hv2;subst hv2;have hbl:=QN hble;obtain⟨pl',p1,p2,_⟩:=hr.live _ _ hg;rw[hp]at p1;cases p1;obtain⟨carr,elem,fr,q1,q2,q3,q4,q5⟩:=zU8 p2;have hsub:WF σ ((cells.drop off).take (len * k)) ((carr.toList.drop (pl.base+off)).take (len * k)):=by
     have:=(q4.drop off).take (len * k);rw[List.drop_take,List.take_take,JD,Gn (by omega)]at this;exact this
    obtain⟨σ2,k1,k2,k3⟩:=ihs _ _ m3 hsub σ1 h1 hc;have hor:W9 P σ2 ⟨pl.b,pl.base+off,pl.n⟩ (.row (lay s h1).1 false 0) w:=
     zSl (pl:=⟨pl.b,pl.base+off,pl.n⟩) (m:=len * k) q1 q2 (by simp only;omega) k3 (fun x=>by cases x)
    obtain⟨r1,_,r3,r4⟩:=zD2 k1.rel k1.no k1.rows (cells:=(lay s h1).1) (pl:=⟨pl.b,pl.base+off,pl.n⟩) (hr.lt _ _ hp).2 hor;obtain⟨σ3,l1,l2,l3⟩:=ihr xs ys m4 h3 _ _ ⟨r1,r3,(Zf _ _).wf k1.wf⟩;have hE:lay (.sl k len s r) h1=(.slice (some ⟨(lay s h1).2.n,0,none⟩) len k::(lay r ((lay s h1).2.push (.row (lay s h1).1 false 0))).1,(lay r ((lay s h1).2.push (.row (lay s h1).1 false 0))).2):=by
     simp only[lay,hb,QR]
    rw[hE];refine⟨σ3,l1,(k2.trans r4).trans l2,.cons ?_ l3⟩;have:=U6.slice (σ:=σ3) (g:=(lay s h1).2.n) (off:=0) (len:=len) (c:=k) (cap:=cap) (pl:=⟨pl.b,pl.base+off,pl.n⟩) (l2 _ _ (zt _ _ _)) hcc hlc hn;exact this
  |_=>cases hm
theorem WK.own {σ:Nat->Option Pl}{h:Uz}{o:Wa}{pl:Pl}(hr:WK P B σ h w)(hb:pl.b<w.heap.size)(hB:B<=pl.b)(ho:W9 P (yl σ h.n pl) pl o w)
  (hap:∀ g p,σ g=some p->p.b=pl.b->False):WK P B (yl σ h.n pl) (h.push o) w:=by
 have hle:=Z4 hr pl;have hsame:∀ g p,yl σ h.n pl g=some p->g=h.n/\p=pl\/g≠h.n/\σ g=some p:=fun g p hg=>by
  unfold yl at hg;split at hg
  ·exact .inl ⟨by assumption,(Qy hg).symm⟩
  ·exact .inr ⟨by assumption,hg⟩
 refine⟨fun g hg=> ?_,fun g p hg=> ?_,fun g o' hg=> ?_,fun g o1 g' o2 p p' h1 h2 hne h3 h4 hbb=> ?_,hr.le⟩
 ·obtain⟨p,h1,h2⟩:=hr.globals g hg;exact⟨p,hle _ _ h1,h2⟩
 ·rcases hsame g p hg with ⟨rfl,rfl⟩|⟨_,h1⟩
  ·exact⟨GD _,hb⟩
  ·exact⟨Nat.lt_succ_of_lt (hr.lt g p h1).1,(hr.lt g p h1).2⟩
 ·rw[zN]at hg;split at hg
  ·rename_i e;subst e;cases hg;exact⟨pl,zt _ _ _,ho,fun _=>hB⟩
  ·obtain⟨p,h1,h2,h3⟩:=hr.live g o' hg;exact⟨p,hle _ _ h1,h2.keep hle rfl,h3⟩
 ·rw[zN]at h1 h2;rcases hsame g p h3 with ⟨e,rfl⟩|⟨e,h3'⟩<;>rcases hsame g' p' h4 with ⟨e',rfl⟩|⟨e',h4'⟩
  ·exact absurd (e.trans e'.symm) hne
  ·exact(hap _ _ h4' hbb.symm).elim
  ·exact(hap _ _ h3' hbb).elim
  ·rw[QB e]at h1;rw[QB e']at h2;exact hr.apart g o1 g' o2 p p' h1 h2 hne h3' h4' hbb
structure Over (P:Program)(B W:Nat)(σ:Nat->Option Pl)(h:Uz)(σ':Nat->Option Pl)(h0:Uz)(w:World)(τ:Nat->Option Pl)(H:Uz)(s:List Nat):Prop where
 rel:WK P B τ H w
 old:∀ g,g<h.n->τ g=σ g
 n:h.n<=H.n
 new:∀ g pl,h.n<=g->τ g=some pl->∃ k∈s,σ' k=some pl
 rows:∀ k∈s,∃ cells lo,h0.get k=some (.row cells true lo)
theorem zPo {W:Nat}{σ σ':Nat->Option Pl}{h h0:Uz}(hB:B<=W)(hW:∀ g pl,σ g=some pl->pl.b<W)(hs:WK P W σ' h0 w):∀ (T:TL) (vs cvs:List Value) (s s':List Nat),mo h0 T vs s=some s'->WF σ' vs cvs->
  ∀ τ H,Over P B W σ h σ' h0 w τ H s->∃ τ',Over P B W σ h σ' h0 w τ' (ZW T H).2 s'/\Le τ τ'/\WF τ' (ZW T H).1 cvs:=by
 intro T;induction T with
 |nil=>
  intro vs cvs s s' hm hl τ H ho;cases vs with
  |cons x xs=>cases hm
  |nil=>obtain rfl:=zIi hl;cases hm;exact⟨τ,ho,.refl _,WF.nil _⟩
 |cl v r ih=>
  intro vs cvs s s' hm hl τ H ho;cases vs with
  |nil=>cases hm
  |cons x xs=>
   simp only[mo]at hm;cases hsc:zIW v x with
   |false=>simp[hsc]at hm
   |true=>
   simp only[hsc,cond_true]at hm;obtain⟨rfl,hcl⟩:=zIF hsc;obtain⟨y,ys,rfl,h2,h3⟩:=Yr hl;obtain⟨τ',k1,k2,k3⟩:=ih xs ys s s' hm h3 τ H ho;obtain rfl:=h2.closed_eq hcl;exact⟨τ',k1,k2,.cons (VK _ hcl) k3⟩
 |ag sub r ihs ihr=>
  intro vs cvs s s' hm hl τ H ho;cases vs with
  |nil=>cases hm
  |cons x xs=>
  cases x with
  |agg cs=>
   simp only[mo]at hm;split at hm;case h_2=>cases hm
   rename_i s1 hs1;obtain⟨y,ys,rfl,h2,h3⟩:=Yr hl;cases h2 with
   | @agg _ cs' ha ra=>
   have hcs:WF σ' cs.toList cs'.toList:=⟨by simpa using ha,fun i x y hx hy=>ra i x y (by simpa using hx) (by simpa using hy)⟩;obtain⟨τ1,k1,k2,k3⟩:=ihs _ _ s s1 hs1 hcs τ H ho;obtain⟨τ2,l1,l2,l3⟩:=ihr xs ys s1 s' hm h3 τ1 _ k1;refine⟨τ2,l1,k2.trans l2,.cons ?_ l3⟩;have:=VV (k3.mono l2);simpa using this
  |_=>cases hm
 |sl c n sub r ihs ihr=>
  intro vs cvs s s' hm hl τ H ho;cases vs with
  |nil=>cases hm
  |cons x xs=>
  cases x with
  |slice a len k=>
   cases a with
   |none=>cases hm
   |some a=>
   simp only[mo]at hm;cases hcd:(Nat.beq k c&&Nat.beq len n&&Nat.beq a.off 0&&a.spot.isNone)with
   |false=>simp[hcd]at hm
   |true=>
   simp only[hcd,cond_true]at hm;simp only[QF]at hcd;obtain⟨⟨⟨m1,m2⟩,m3⟩,m4⟩:=hcd;obtain rfl:=QI m1;obtain rfl:=QI m2;have hoff:=QI m3;split at hm;case h_2=>cases hm
   rename_i cells lo hg;cases hq:(Nat.beq lo 0&&Nat.beq cells.length (len * k))with
   |false=>simp[hq]at hm
   |true=>
   simp only[hq,cond_true]at hm;rw[QF]at hq;have hlen:=QI hq.2;split at hm;case h_2=>cases hm
   rename_i s1 hs1;cases hct:s1.contains a.block with
   |true=>rw[hct]at hm;cases hm
   |false=>
   rw[hct]at hm;simp only[QR]at hm;obtain⟨y,ys,rfl,h2,h3⟩:=Yr hl;obtain⟨pl,p1,p2,p3⟩:=hs.live _ _ hg;have hWp:W<=pl.b:=p3 rfl;obtain⟨carr,elem,fr,q1,q2,q3,q4,q5⟩:=zU8 p2;obtain⟨τ1,k1,k2,k3⟩:=ihs _ _ s s1 hs1 q4 τ H ho;have hor:W9 P (yl τ1 (ZW sub H).2.n pl) pl (.row (ZW sub H).1 true 0) w:=
    zSl (m:=cells.length) q1 q2 q3 (k3.mono (Z4 k1.rel _)) q5
   have hap:∀ g p,τ1 g=some p->p.b=pl.b->False:=fun g p hp hb=>by
    by_cases hgn:g<h.n
    ·rw[k1.old g hgn]at hp;have:=hW _ _ hp;omega
    ·obtain⟨kk,hk,hkp⟩:=k1.new g p (by omega) hp;obtain⟨cells2,lo2,hg2⟩:=k1.rows kk hk;have hne:kk≠a.block:=fun e=>by
      subst e;have:s1.contains a.block=true:=by simpa using hk
      rw[this]at hct;cases hct
     have:=hs.apart _ _ _ _ _ _ hg2 hg hne hkp p1 hb;exact this.1 ⟨rfl,rfl⟩
   have hrel:=k1.rel.own (o:= .row (ZW sub H).1 true 0) (hs.lt _ _ p1).2 (QO hB hWp) hor hap;obtain⟨τ2,l1,l2,l3⟩:=ihr xs ys (a.block::s1) s' hm h3 (yl τ1 (ZW sub H).2.n pl) ((ZW sub H).2.push (.row (ZW sub H).1 true 0))
    ⟨hrel,fun g hgn=>by
      have:=k1.n;unfold yl;rw[QB (by omega)];exact k1.old g hgn,
     Nat.le_succ_of_le k1.n,fun g p hgn hp=>by
      unfold yl at hp;split at hp
      ·cases hp;exact⟨a.block,by simp,p1⟩
      ·obtain⟨kk,hk,hkp⟩:=k1.new g p hgn hp;exact⟨kk,by simp[hk],hkp⟩,
     fun kk hk=>by
      rcases GL.1 hk with rfl|hk
      ·exact⟨_,_,hg⟩
      ·exact k1.rows kk hk⟩
   refine⟨τ2,l1,(k2.trans (Z4 k1.rel _)).trans l2,.cons ?_ l3⟩;have hgm:τ2 (ZW sub H).2.n=some pl:=l2 _ _ (zt _ _ _);cases h2 with
   | @slice g off _ _ cap pl2 hp hcc hlc hn=>
    simp only at hoff;subst hoff;simp only at p1;rw[hp]at p1;cases p1;exact U6.slice (σ:=τ2) (g:=(ZW sub H).2.n) (off:=0) hgm hcc hlc hn
   |szero a x c=>exact .szero _ _ _
  |_=>cases hm
def zMm:Value->List Value
 | .tuple vs=>vs.toList
 |v=>[v]
def zCB (h:Uz)(T:TL)(v:Value):Bool:=
 (match v with| .tuple vs=> !Nat.beq vs.size 1|_=>true)&&(mo h T (zMm v) []).isSome
theorem zNl {h:Uz}{T:TL}{v:Value}(hk:zCB h T v=true):one (zMm v)=v:=by
 unfold zCB at hk;cases v with
 |tuple vs=>
  simp only[QF,Gb]at hk;obtain⟨l⟩:=vs;match l,hk.1 with
  |[],_=>rfl
  |[x],h=>exact absurd h (by simp)
  |x::y::l,_=>rfl
 |_=>rfl
theorem zNa {σ:Nat->Option Pl}{l l':List Value}(h:WF σ l l'):U6 σ (one l) (one l'):=by
 match l,l',h with
 |[],[],_=>exact .tuple rfl fun i x y hx=>by simp at hx
 |[x],[y],h=>exact h.2 0 _ _ rfl rfl
 |x::y::l,x'::y'::l',h=>
  exact .tuple (by simpa using h.1) fun i a b ha hb=>h.2 i a b (by simpa using ha) (by simpa using hb)
 |[],_::_,h=>exact absurd h.1 (by simp)
 |_::_,[],h=>exact absurd h.1 (by simp)
 |[_],_::_::_,h=>exact absurd h.1 (by simp)
 |_::_::_,[_],h=>exact absurd h.1 (by simp)
def zJ9 (h:Uz)(args:List Value):List (TL×TL)->Option TL
 |[]=>none
 |p::l=>bif mt h p.1 args then some p.2 else zJ9 h args l
theorem zEG {h:Uz}{args:List Value}{T:TL}:∀ {l:List (TL×TL)},zJ9 h args l=some T->∃ p∈l,mt h p.1 args=true/\p.2=T
 |[],hx=>by cases hx
 |p::l,hx=>by
  unfold zJ9 at hx;cases hm:mt h p.1 args with
  |true=>rw[hm]at hx;exact⟨p,by simp,hm,Qy hx⟩
  |false=>
   rw[hm]at hx;obtain⟨q,a,b⟩:=zEG (l:=l) hx;exact⟨q,by simp[a],b⟩
def Yf (lv:List (Nat×List Value))(l:List (TL×TL)):List Value->Uz->Option (Value×Uz):=
 fun args h=>bif zAM h lv then (match zJ9 h args l with
  |some T=>some (one (ZW T h).1,(ZW T h).2)
  |none=>none) else none
theorem zFJ {lv:List (Nat×List Value)}{l:List (TL×TL)}{args:List Value}{h h':Uz}{v:Value}(hx:Yf lv l args h=some (v,h')):
  zAM h lv=true/\∃ p∈l,mt h p.1 args=true/\v=one (ZW p.2 h).1/\h'=(ZW p.2 h).2:=by
 unfold Yf at hx;cases hl:zAM h lv with
 |false=>simp[hl]at hx
 |true=>
 simp only[hl,cond_true]at hx;split at hx;case h_2=>cases hx
 rename_i T hT;obtain⟨p,h1,h2,rfl⟩:=zEG hT;cases hx;exact⟨rfl,p,h1,h2,rfl,rfl⟩
theorem zMj {lv:List (Nat×List Value)}{l:List (TL×TL)}(args:List Value)(h:Uz)(v:Value)(h':Uz)(hx:Yf lv l args h=some (v,h')):WT h.n h h':=by
 obtain⟨_,p,_,_,_,rfl⟩:=zFJ hx;exact YQ _ _
def zCq (n:Nat)(lv:List (Nat×List Value))(T:TL):List Value×Uz:=lay T (Zy n lv)
theorem zI0 {σ:Nat->Option Pl}{h:Uz}(hg:P.globals.size<=w.heap.size)(hr:WK P B σ h w)(l:List (Nat×List Value))(hl:∀ x∈l,x.1<P.globals.size/\yW x.2=true)
  (hh:zAM h l=true):W0 P w.heap.size (s0 P w) (Zy P.globals.size l) w:=by
 refine⟨zSk hg hr l hl hh,fun g o hx=> ?_,fun g hn=> ?_⟩
 ·obtain⟨c,a,rfl⟩:=ZG _ l g o hx;exact⟨_,_,rfl⟩
 ·cases hq:(Zy P.globals.size l).get g with
  |none=>rfl
  |some o=>
   obtain⟨c,a,rfl⟩:=ZG _ l g o hq;rw[zCL]at hn;have:=(hl _ a).1;simp only at this;omega
theorem zJt {tab:Wd}(hmix:P.follows .mixedOrders=true)(htab:tab.Ok P){f n:Nat}{lv:List (Nat×List Value)}{l:List (TL×TL)}(hl:∀ x∈lv,x.1<P.globals.size/\yW x.2=true)
  (hx:∀ p∈l,∃ v h',(Ws P tab n).call f (zCq P.globals.size lv p.1).1 (zCq P.globals.size lv p.1).2=some (v,h')/\zCB h' p.2 v=true):zBQ P f (Yf lv l):=by
 intro e g args h v' h' hk;have hkk:(if g=f then Yf lv l args h else none)=some (v',h'):=hk;clear hk;split at hkk;case isFalse=>cases hkk
 rename_i hgf;subst hgf;obtain⟨hlaid,p,hp,hmt,rfl,rfl⟩:=zFJ hkk;obtain⟨v1,h1,hrun,hok⟩:=hx p hp;obtain⟨s1,s2⟩:=(sound hmix htab n).2 g _ _ _ _ hrun;have hlay0:(zCq P.globals.size lv p.1).1=(lay p.1 (Zy P.globals.size lv)).1:=rfl;refine⟨fun as w=>s1 as w,fun B σ w hr as hl' kind hk'=> ?_⟩;have hgs:P.globals.size<=w.heap.size:=by
  by_cases h0:P.globals.size=0
  ·omega
  ·obtain⟨pl,a,b,_⟩:=hr.globals (P.globals.size - 1) (by omega);have:=(hr.lt _ _ a).2;omega
 obtain⟨σ2,c2,_,c4⟩:=zUa hr p.1 args as.toList hmt hl' _ _ (zI0 hgs hr lv hl hlaid);obtain⟨σ',w',cv,ev,d2,d3⟩:=s2 w.heap.size σ2 w c2.rel as c4 kind hk';have bel:=ev.below c2.rel;have keep:∀ b,b<w.heap.size->w'.heap[b]?=w.heap[b]?:=bel.block;have hr':WK P B σ h w':=by
  refine⟨hr.globals,fun g pl hg=>⟨(hr.lt g pl hg).1,QG (hr.lt g pl hg).2 bel.size⟩,fun g o hg=> ?_,hr.apart,QO hr.le bel.size⟩;obtain⟨pl,a1,a2,a3⟩:=hr.live g o hg;exact⟨pl,a1,a2.keep (.refl _) (keep _ (hr.lt _ _ a1).2),a3⟩
 have hov:Over P B w.heap.size σ h σ' h1 w' σ h []:=
  ⟨hr',fun _ _=>rfl,QE _,fun g pl hgn hp=>by have:=(hr.lt g pl hp).1;omega,fun k hk=>by cases hk⟩
 have hvals:∃ cvs,WF σ' (zMm v1) cvs/\one cvs=cv:=by
  have hone:=zNl hok;cases v1 with
  |tuple vs=>
   cases d2 with
   | @tuple _ vs' ha ra=>
   refine⟨vs'.toList,⟨by simpa [zMm]using ha,fun i x y hx hy=>ra i x y (by simpa [zMm]using hx) (by simpa using hy)⟩,?_⟩;unfold zCB at hok;simp only[QF,Gb]at hok;rw[ha]at hok;obtain⟨l⟩:=vs';match l,hok.1 with
   |[],_=>rfl
   |[x],h=>exact absurd h (by simp)
   |x::y::l,_=>rfl
  |_=>exact⟨[cv],.cons d2 (.nil _),rfl⟩
 obtain⟨cvs,hcv,hone⟩:=hvals;have hmo:∃ s',mo h1 p.2 (zMm v1) []=some s':=by
  unfold zCB at hok;rw[QF]at hok;exact Option.isSome_iff_exists.1 hok.2
 obtain⟨s',hmo⟩:=hmo;obtain⟨τ,o1,o2,o3⟩:=zPo (B:=B) (σ:=σ) (h:=h) hr.le (fun g pl hp=>(hr.lt g pl hp).2) ev.rel p.2 _ cvs [] s' hmo hcv σ h hov;have hgr:=YQ p.2 h;refine⟨τ,w',cv,⟨o2,o1.rel,ev.os,ev.tape,ev.output,ev.size,fun b hb _=>keep b hb,fun b ⟨g,o,pl,x1,x2,x3,x4⟩=> ?_,o1.n,o1.old⟩,?_,d3⟩
 ·by_cases hgn:g<h.n
  ·right;rw[o1.old g hgn]at x3;refine⟨g,o,pl,?_,x2,x3,x4⟩;exact zAe p.2 h g hgn▸x1
  ·left;obtain⟨k,hk,hkp⟩:=o1.new g pl (by omega) x3;obtain⟨cells,lo,hgk⟩:=o1.rows k hk;obtain⟨pl2,y1,_,y3⟩:=ev.rel.live _ _ hgk;rw[hkp]at y1;cases y1;have:=y3 rfl;omega
 ·rw[<-hone];exact zNa o3
end
section
variable {P:Program}
noncomputable def BU (P:Program)(tab:Wd)(n:Nat)(f:FuncId)(lv:List (Nat×List Value))(p:TL×TL):Option Value:=
 (zIl P tab n).call f (zCq P.globals.size lv p.1).1 (zCq P.globals.size lv p.1).2 (fun v h=>yM (zCB h p.2 v) (some (.bool true)) none)
theorem zS4 {tab:Wd}{n:Nat}{f:FuncId}{lv:List (Nat×List Value)}{p:TL×TL}(hx:BU P tab n f lv p=some (.bool true)):
  ∃ v h',(Ws P tab n).call f (zCq P.globals.size lv p.1).1 (zCq P.globals.size lv p.1).2=some (v,h')/\zCB h' p.2 v=true:=by
 unfold BU at hx;rw[(zJ7 P tab n).call]at hx;cases hc:(Ws P tab n).call f (zCq P.globals.size lv p.1).1 (zCq P.globals.size lv p.1).2 with
 |none=>rw[hc]at hx;cases hx
 |some q=>
  rw[hc]at hx;obtain⟨v,h'⟩:=q;refine⟨v,h',rfl,?_⟩;have hx:yM (zCB h' p.2 v) (some (Value.bool true)) none=some (.bool true):=hx;rw[yK]at hx;cases hk:zCB h' p.2 v with
  |true=>rfl
  |false=>rw[hk]at hx;cases hx
def Wd.know (tab:Wd)(f:FuncId)(s:List Value->Uz->Option (Value×Uz)):Wd:=⟨tab.code,fun g=>bif Nat.beq g f then some s else tab.stub g⟩
theorem Wd.Ok.know {tab:Wd}(ht:tab.Ok P)(hmix:P.follows .mixedOrders=true){f n:Nat}{lv:List (Nat×List Value)}{l:List (TL×TL)}(hl:(lv.all fun x=>Nat.ble (x.1+1) P.globals.size&&yW x.2)=true)
  (hx:∀ p∈l,BU P tab n f lv p=some (.bool true)):(tab.know f (Yf lv l)).Ok P:=by
 have hl':∀ x∈lv,x.1<P.globals.size/\yW x.2=true:=fun x hx=>by
  have h1:=QV.1 hl x hx;rw[QF]at h1;exact⟨QN h1.1,h1.2⟩
 refine⟨ht.code,fun g s hs=> ?_,fun g s hs=> ?_⟩
 ·have hss:(bif Nat.beq g f then some (Yf lv l) else tab.stub g)=some s:=hs;clear hs;cases hb:Nat.beq g f with
  |true=>
   rw[hb]at hss;obtain rfl:=QI hb;obtain rfl:=Qy hss;exact zJt hmix ht hl' fun p hp=>zS4 (hx p hp)
  |false=>rw[hb]at hss;exact ht.stub g s hss
 ·have hss:(bif Nat.beq g f then some (Yf lv l) else tab.stub g)=some s:=hs;clear hs;cases hb:Nat.beq g f with
  |true=>
   rw[hb]at hss;obtain rfl:=Qy hss;exact zMj
  |false=>rw[hb]at hss;exact ht.grow g s hss
end
end Go.Am
