/- Walks of functions, plain laws; proves no statement. -/
import Derived.Test.YtmilpkdhbdgjfaaGreatDoorJh
set_option linter.all false
set_option maxHeartbeats 2000000
set_option maxRecDepth 100000
namespace Go.Proofs.YtmilpkdhbdgjfaaGreatDoor
open Go.Am
section
variable {P:Program}{tab:Wv}{t:WI Value}{ds:List Deferred}{rd:Option Nat}{h:WF}{Q:WR->WF->Prop}{l:List WG}{d:Nat}{ty:TypeId}{x:Operand}{v r:Value}
theorem WO.as{ok:Bool}(hr:zDV P ty ok v=some r)(k:WO P tab l ⟨t.set d r,ds,rd⟩ h Q)(hx:WQ t x v:=by exact zP):WO P tab (⟨some d,none,.assert ty ok x⟩::l) ⟨t,ds,rd⟩ h Q:=
 WO.op _ _ rfl (by unfold WQ at *;simp only[WN,hx,hr,QH]) k
theorem UK(hr:zDj P ty v=some r)(k:WO P tab l ⟨t.set d r,ds,rd⟩ h Q)(hx:WQ t x v:=by exact zP):WO P tab (⟨some d,none,.typeOf ty x⟩::l) ⟨t,ds,rd⟩ h Q:=
 WO.op _ _ rfl (by unfold WQ at *;simp only[WN,hx,hr,QH]) k
theorem U9{f:FuncId}{name:String}{u:Value}(hm:Ya P ty name=some f)(k:WC P tab f [u] h fun v h'=>WO P tab l ⟨t.set d v,ds,rd⟩ h' Q)(hx:WQ t x (.iface ty u):=by exact zP):WO P tab (⟨some d,none,.invoke x name []⟩::l) ⟨t,ds,rd⟩ h Q:=
 WO.invoke hx hm rfl k
theorem Ut{G rt:Nat}{b:Bool}(hb:YT P G rt ty=some b)(k:WO P tab l ⟨t.set d (.bool b),ds,rd⟩ h Q)(hx:WQ t x (zGX G rt ty):=by exact zP):WO P tab (⟨some d,none,.invoke x "Comparable" []⟩::l) ⟨t,ds,rd⟩ h Q:=
 XF hx hb k
end
abbrev tyE:Nat:=26
abbrev zLK:Value:= .iface tyE (I 120)
theorem zIL(h:WF)(f b:Int):WC Tryz.prog tb 258 [.agg #[I f,I b,I 120]] h fun r h'=>r=zLK/\WK h h':=by
 refine en ?_;refine VG ?_;intro p h1 e1 o1;replace o1:WH h h1 p [I f,I b,I 120]:=o1;refine go ?_;refine VR ?_;refine gr ?_;exact⟨rfl,e1⟩
theorem zPm(h:WF)(f b:Int):WC Tryz.prog tb 112 [B7 f b,zLK,.bool true] h fun r h'=>r=.bool true/\WK h h':=by
 refine en ?_;refine VE (fun i=>2-i) (fun i t h'=>WK h h'/\((i=0/\zC t 0=B7 f b)\/(i=1/\zC t 0=zLK))) 0 ?_ ?_
 ·exact⟨WK.refl _,.inl ⟨rfl,WM⟩⟩
 rintro i t h1 hsame ⟨e1,⟨rfl,s0⟩|⟨rfl,s0⟩⟩
 ·unfold B7 at s0;refine go ?_;refine Vl (v:= .bool false) (by kernel_rfl) ?_;refine go ?_;refine WO.as (r:= .tuple #[.nilIface,.bool false]) (by kernel_rfl) ?_;refine go ?_;refine WO.as (r:= .tuple #[.iface tyF (.agg #[I f,I b,I 120]),.bool true]) (by kernel_rfl) ?_;refine go ?_;refine U9 (f:=258) (by kernel_rfl) ?_;refine WC.mono (zIL h1 f b) ?_;rintro _ h2 ⟨rfl,e2⟩;refine go ?_;simp only[G1,Qs];refine go ?_;exact zA 1 (by omega) ⟨e1.trans e2,.inr ⟨rfl,WM⟩⟩
 ·refine go ?_;refine Vl (v:= .bool true) (by kernel_rfl) ?_;refine gr ?_;exact⟨rfl,e1⟩
theorem zQF(h:WF)(f b:Int):WC Tryz.prog tb 74 [B7 f b,zLK] h fun r h'=>r=.bool true/\WK h h':=by
 unfold B7;refine en ?_;simp only[G1,Qs];refine go ?_;simp only[G1,Qs];refine go ?_;refine UK (v:=zLK) rfl ?_;refine go ?_;refine Ut (b:=true) (by kernel_rfl) ?_;refine go ?_;have hk:=zPm h f b;unfold B7 at hk;refine VA hk ?_;rintro _ h2 ⟨rfl,e2⟩;refine gr ?_;exact⟨rfl,e2⟩
theorem zOF(h:WF):WC Tryz.prog tb 74 [.nilIface,zLK] h fun r h'=>r=.bool false/\h=h':=by
 refine en ?_;simp only[G1,Qs];refine go ?_;refine Vl (v:= .bool false) (by kernel_rfl) ?_;refine gr ?_;exact⟨rfl,rfl⟩
noncomputable def zAA(T:List WJ)(F:List Wj):Int:=open Classical in if yl T F≠0 then yl T F else if WfP T F then 0 else 120
theorem zLX(h:WF)(vt vf:Value)(T:List WJ)(F:List Wj)(E:B4 h vt vf T F):
  WC Tryz.prog tb 32 [.agg #[vt,vf]] h fun r h'=>r=I (zAA T F)/\WK h h':=by
 unfold zAA;have hF:=E.sm.funcs;refine en ?_;refine VG ?_;intro p1 h1 e1 o1;replace o1:WH h h1 p1 [vt,vf]:=o1;have E1:=E.ext e1;refine go ?_;refine VA (zKQ h1 vt vf T F E1.tt E1.hm E1.sm E1.st E1.sf) ?_;rintro _ h2 ⟨rfl,e2⟩;have o2:=o1.ext e2;have E2:=E1.ext e2;have sf2:=E2.sf;by_cases hp:yl T F=0;case neg=>
  rw[QG hp];refine gr ?_;exact⟨rfl,e1.trans e2⟩
 rw[QC (fun e=>e hp),hp];refine go ?_;refine VE (fun i=>F.length-i) (fun i t h'=>WK h2 h'/\zC t 14=I i/\i<=F.length/\Wu (∀ f:Int,0<=f->f<(i:Int)->zJT T F f)) 0 ?_ ?_
 ·exact⟨WK.refl _,WM,QU _,⟨fun f f0 f1=>by omega⟩⟩
 rintro i t h3 hsame ⟨e3,s14,hi,hI⟩;have o3:=o2.ext e3;have e03:=e1.trans (e2.trans e3);refine go ?_;refine VD (fun hb=> ?_) (fun hb=> ?_)<;>simp only[DB]at hb
 ·have hi':i<F.length:=by omega
  refine go ?_;refine VA (zFm h3 vt vf T F i (E2.ext e3) hp ⟨by omega,by omega⟩) ?_;rintro q h4 ⟨⟨rfl,hq⟩|⟨⟨b,rfl⟩,hq⟩,e4⟩
  ·refine go ?_;refine VR ?_;refine go ?_;refine VA (zOF h4) ?_;rintro _ _ ⟨rfl,rfl⟩;refine go ?_;refine zA (i+1) (by omega) ⟨e3.trans e4,BF,by omega,⟨fun f f0 f1=> ?_⟩⟩;by_cases hfi:f=i
   ·subst hfi;exact hq
   ·exact hI.out f f0 (by omega)
  ·refine go ?_;refine VR ?_;refine go ?_;refine VA (zQF h4 i b) ?_;rintro _ h5 ⟨rfl,e5⟩;refine gr ?_;refine⟨?_,e03.trans (e4.trans e5)⟩;rw[QC (fun w=>hq (w i (by omega) (by omega)))];rfl
 ·have hii:i=F.length:=by omega
  refine gr ?_;refine⟨?_,e03⟩;rw[QG (show WfP T F from fun f f0 f1=>hI.out f f0 (by omega))];rfl
theorem zAf{T:List WJ}{F:List Wj}(h:zAA T F=0):yl T F=0/\WfP T F:=by
 unfold zAA at h;split at h
 ·rename_i hp;exact absurd h hp
 ·rename_i hp;split at h
  ·rename_i hw;exact⟨Classical.not_not.1 hp,hw⟩
  ·cases h
end Go.Proofs.YtmilpkdhbdgjfaaGreatDoor
set_option maxRecDepth 100000
namespace Go.Proofs.YtmilpkdhbdgjfaaGreatDoor
open Go.Am
structure Wi where
 kind:Int
 n:Int
 block:Int
 pos:Int
deriving Inhabited,DecidableEq
structure MEv where
 kind:Int
 n:Int
deriving Inhabited,DecidableEq
def W6(_:WF)(cs:List Value)(x:Wi):Prop:=cs=[.int .u8 x.kind,I x.n,I x.block,I x.pos]
def REv(_:WF)(cs:List Value)(x:MEv):Prop:=cs=[.int .u8 x.kind,I x.n]
abbrev W9(h:WF)(v:Value)(l:List Wi):Prop:=Ww 4 W6 h v l
abbrev SlE(h:WF)(v:Value)(l:List MEv):Prop:=Ww 2 REv h v l
theorem W9.ext{h h':WF}{v:Value}{l:List Wi}(s:W9 h v l)(e:WK h h'):W9 h' v l:=Ww.ext (h:=h) (h':=h') (fun cs a (r:W6 h cs a)=>(r:W6 h' cs a)) s e
theorem SlE.ext{h h':WF}{v:Value}{l:List MEv}(s:SlE h v l)(e:WK h h'):SlE h' v l:=Ww.ext (h:=h) (h':=h') (fun cs a (r:REv h cs a)=>(r:REv h' cs a)) s e
theorem zIO(x y:Wi):YY [.int .u8 x.kind,I x.n,I x.block,I x.pos] [.int .u8 y.kind,I y.n,I y.block,I y.pos]=decide (x=y):=by
 by_cases h:x=y
 ·subst h;simp[YY,zCx,I]
 ·rw[QW h];cases hb:YY [.int .u8 x.kind,I x.n,I x.block,I x.pos] [.int .u8 y.kind,I y.n,I y.block,I y.pos]with
  |false=>rfl
  |true=>
   exfalso;simp[YY,zCx,I]at hb;exact h (by cases x;cases y;simp_all)
end Go.Proofs.YtmilpkdhbdgjfaaGreatDoor
set_option maxRecDepth 100000
namespace Go.Proofs.YtmilpkdhbdgjfaaGreatDoor
open Go.Am
structure Bj where
 site:Int
 ty:Int
 depth:Int
 alive:Bool
 cells:List Wi
deriving Inhabited,DecidableEq
structure BQ where
 fn:Int
 block:Int
 pos:Int
 regs:List Wi
 into:Int
deriving Inhabited,DecidableEq
def RMb(h:WF)(cs:List Value)(x:Bj):Prop:=∃ v,cs=[I x.site,I x.ty,I x.depth,.bool x.alive,v]/\W9 h v x.cells/\(x.cells.length:Int)<=9223372036854775807
def RMf(h:WF)(cs:List Value)(x:BQ):Prop:=∃ v,cs=[I x.fn,I x.block,I x.pos,v,I x.into]/\W9 h v x.regs/\(x.regs.length:Int)<=9223372036854775807
theorem RMb.ext{h h' cs x}(r:RMb h cs x)(e:WK h h'):RMb h' cs x:=let⟨v,a,b,c⟩:=r;⟨v,a,W9.ext b e,c⟩
theorem RMf.ext{h h' cs x}(r:RMf h cs x)(e:WK h h'):RMf h' cs x:=let⟨v,a,b,c⟩:=r;⟨v,a,W9.ext b e,c⟩
abbrev BC(h:WF)(v:Value)(l:List Bj):Prop:=Ww 5 RMb h v l
abbrev BW(h:WF)(v:Value)(l:List BQ):Prop:=Ww 5 RMf h v l
theorem BC.ext{h h' v l}(s:BC h v l)(e:WK h h'):BC h' v l:=Ww.ext (fun _ _ r=>RMb.ext r e) s e
theorem BW.ext{h h' v l}(s:BW h v l)(e:WK h h'):BW h' v l:=Ww.ext (fun _ _ r=>RMf.ext r e) s e
end Go.Proofs.YtmilpkdhbdgjfaaGreatDoor
set_option maxRecDepth 100000
namespace Go.Proofs.YtmilpkdhbdgjfaaGreatDoor
open Go.Am
theorem zAP{h:WF}{v:Value}{l:List Wi}(s:W9 h v l):∃ a n k,v=.slice a n k:=by
 obtain⟨_,c,_⟩:=s;exact Wt.shape c
end Go.Proofs.YtmilpkdhbdgjfaaGreatDoor
set_option maxRecDepth 100000
namespace Go.Proofs.YtmilpkdhbdgjfaaGreatDoor
open Go.Am
structure Wa where
 mem:List Bj
 frs:List BQ
 inn:List Int
 used:Int
 evs:List MEv
 steps:Int
 heaps:Int
 state:Int
 trap:Int
 exit:Int
deriving DecidableEq
def RMm(h:WF)(cs:List Value)(x:Wa):Prop:=∃ vm vf vi ve,cs=[vm,vf,vi,I x.used,ve,I x.steps,I x.heaps,.int .u8 x.state,I x.trap,I x.exit]/\BC h vm x.mem/\BW h vf x.frs/\Wd h vi x.inn/\SlE h ve x.evs/\
 (x.mem.length:Int)<=9223372036854775807/\(x.frs.length:Int)<=9223372036854775807/\(x.inn.length:Int)<=9223372036854775807/\(x.evs.length:Int)<=9223372036854775807
theorem RMm.ext{h h' cs x}(r:RMm h cs x)(e:WK h h'):RMm h' cs x:=let⟨vm,vf,vi,ve,a,m,f,i,v,q⟩:=r;⟨vm,vf,vi,ve,a,BC.ext m e,BW.ext f e,Wd.ext i e,SlE.ext v e,q⟩
end Go.Proofs.YtmilpkdhbdgjfaaGreatDoor
set_option maxRecDepth 100000
namespace Go.Proofs.YtmilpkdhbdgjfaaGreatDoor
open Go.Am
end Go.Proofs.YtmilpkdhbdgjfaaGreatDoor
set_option maxRecDepth 100000
namespace Go.Proofs.YtmilpkdhbdgjfaaGreatDoor
open Go.Am
end Go.Proofs.YtmilpkdhbdgjfaaGreatDoor
set_option maxRecDepth 100000
namespace Go.Proofs.YtmilpkdhbdgjfaaGreatDoor
open Go.Am
structure RawB where
 site:Int
 ty:Int
 depth:Int
 alive:Bool
 v:Value
deriving Inhabited
structure Br where
 fn:Int
 block:Int
 pos:Int
 v:Value
 into:Int
deriving Inhabited
def RRb(_:WF)(cs:List Value)(x:RawB):Prop:=cs=[I x.site,I x.ty,I x.depth,.bool x.alive,x.v]/\zH [x.v]=true
def B6(_:WF)(cs:List Value)(x:Br):Prop:=cs=[I x.fn,I x.block,I x.pos,x.v,I x.into]/\zH [x.v]=true
theorem Y7{α:Type}[Inhabited α]{l:List α}{i:Nat}{a:α}(h:l[i]?=some a):l.getD i default=a:=by rw[QL,h];rfl
theorem zJt{α β:Type}[Inhabited α][Inhabited β]{c:Nat}{A:WF->List Value->α->Prop}{B:WF->List Value->β->Prop}{h:WF}{v:Value}{l:List α}(s:Ww c A h v l){rel:β->α->Prop}(hr:∀ cs a,A h cs a->∃ x,B h cs x/\rel x a):
  ∃ xs,Ww c B h v xs/\xs.length=l.length/\∀ i,i<l.length->rel (xs.getD i default) (l.getD i default):=by
 obtain⟨cells,s1,s2⟩:=s;obtain⟨xs,x1,x2⟩:=zJ2 (p:=fun i x=>B h ((cells.drop (i*c)).take c) x/\rel x (l.getD i default)) l.length fun i hi=>by
  obtain⟨x,a,b⟩:=hr _ _ (s2 i l[i] (QB hi));exact⟨x,a,by rw[Y7 (QB hi)];exact b⟩
 refine⟨xs,⟨cells,by rw[x1];exact s1,fun i x hx=>(x2 i x hx).1⟩,x1,fun i hi=> ?_⟩;have hx:xs[i]?=some xs[i]:=QB (by omega);rw[Y7 hx];exact(x2 i _ hx).2
theorem zc{α:Type}{c:Nat}{R:WF->List Value->α->Prop}{h:WF}{v:Value}{T:List α}(s:Ww c R h v T):∃ a n k,v=.slice a n k:=let⟨_,a,_⟩:=s;a.shape
theorem zCU{α:Type}{c n k:Nat}{R:WF->List Value->α->Prop}{h:WF}{T:List α}(s:Ww c R h (.slice none n k) T):T=[]:=by
 obtain⟨cells,s1,_⟩:=s;rcases s1.2 with⟨h0,_⟩|⟨g,off,row,hv,_⟩
 ·exact GS.1 h0
 ·cases hv
theorem zId{α:Type}[Inhabited α]{l:List α}{i:Nat}(h:i<l.length):l.take (i+1)=l.take i++[l.getD i default]:=by
 rw[GE,QB h,Y7 (QB h)];rfl
theorem zDT{h0 h:WF}{p:Value}{cs:List Value}(o:WH h0 h p cs):∀ g,p=.pointer (some ⟨g,0,none⟩)->h0.n<=g/\g<h.n:=by
 obtain⟨g,a,b,rfl,_⟩:=o;intro g' e;cases e;exact⟨a,b⟩
theorem zHq{α:Type}{c b:Nat}{R:WF->List Value->α->Prop}{h:WF}{v:Value}{xs:List α}(o:WZ c R b h v xs){g n k:Nat}(e:v=.slice (some ⟨g,0,none⟩) n k):b<=g/\g<h.n:=by
 rcases o with⟨e2,_⟩|⟨g1,_,_,g2,g3,e2,_⟩
 ·rw[e2]at e;cases e
 ·rw[e2]at e;cases e;exact⟨g2,g3⟩
theorem UT{h cs a}(r:RMb h cs a):∃ x,RRb h cs x/\(x.site=a.site/\x.ty=a.ty/\x.depth=a.depth/\x.alive=a.alive/\W9 h x.v a.cells):=by
 obtain⟨v,rfl,s,hl⟩:=r;obtain⟨p,n,k,rfl⟩:=zAP s;exact⟨⟨a.site,a.ty,a.depth,a.alive,.slice p n k⟩,⟨rfl,rfl⟩,rfl,rfl,rfl,rfl,s⟩
theorem UU{h cs a}(r:RMf h cs a):∃ x,B6 h cs x/\(x.fn=a.fn/\x.block=a.block/\x.pos=a.pos/\x.into=a.into/\W9 h x.v a.regs):=by
 obtain⟨v,rfl,s,hl⟩:=r;obtain⟨p,n,k,rfl⟩:=zAP s;exact⟨⟨a.fn,a.block,a.pos,.slice p n k,a.into⟩,⟨rfl,rfl⟩,rfl,rfl,rfl,rfl,s⟩
theorem W6.one{h cs a}(r:W6 h cs a):zH cs=true:=by rw[show cs=_ from r];rfl
theorem REv.one{h cs a}(r:REv h cs a):zH cs=true:=by rw[show cs=_ from r];rfl
theorem zGe{a b:List Value}(h1:zH a=true)(h2:zH b=true):zH (a++b)=true:=by
 unfold zH at *;rw[Gu,h1,h2];rfl
theorem RRb.one{h cs a}(r:RRb h cs a):zH cs=true:=by rw[show cs=[I a.site,I a.ty,I a.depth,.bool a.alive]++[a.v]from r.1];exact zGe rfl r.2
theorem B6.one{h cs a}(r:B6 h cs a):zH cs=true:=by rw[show cs=[I a.fn,I a.block,I a.pos]++([a.v]++[I a.into])from r.1];exact zGe rfl (zGe r.2 rfl)
theorem zLk(h:WF)(v:Value)(l:List Wi)(s:W9 h v l)(hl:l.length<=100000):WC Tryz.prog tb 65 [v] h fun r h'=>WZ 4 W6 h.n h' r l/\WK h h':=by
 refine en ?_;obtain⟨a,n,k,rfl⟩:=zc s;cases a with
 |none=>
  have hn:l=[]:=zCU s;subst hn;refine go ?_;refine VD (fun hb=> ?_) (fun hb=> ?_)
  ·refine gr ?_;exact⟨WZ.nil,WK.refl _⟩
  ·exact absurd hb (by simp)
 |some a=>
  refine go ?_;refine VD (fun hb=> ?_) (fun hb=> ?_)
  ·exact absurd hb (by simp)
  ·refine go ?_;refine V5 W6 ?_;intro v1 h1 e1 o1;refine go ?_;refine Vo o1 (W9.ext s e1) (by decide) (fun cs a r hx _ _=>r) (fun cs a r=>r.one) e1 (QE _) e1.n hl ?_;intro v2 h2 e2 o2;refine gr ?_;exact⟨o2,e2⟩
theorem zLW(h:WF)(v:Value)(l:List MEv)(s:SlE h v l)(hl:l.length<=100000):WC Tryz.prog tb 63 [v] h fun r h'=>WZ 2 REv h.n h' r l/\WK h h':=by
 refine en ?_;obtain⟨a,n,k,rfl⟩:=zc s;cases a with
 |none=>
  have hn:l=[]:=zCU s;subst hn;refine go ?_;refine VD (fun hb=> ?_) (fun hb=> ?_)
  ·refine gr ?_;exact⟨WZ.nil,WK.refl _⟩
  ·exact absurd hb (by simp)
 |some a=>
  refine go ?_;refine VD (fun hb=> ?_) (fun hb=> ?_)
  ·exact absurd hb (by simp)
  ·refine go ?_;refine V5 REv ?_;intro v1 h1 e1 o1;refine go ?_;refine Vo o1 (SlE.ext s e1) (by decide) (fun cs a r hx _ _=>r) (fun cs a r=>r.one) e1 (QE _) e1.n hl ?_;intro v2 h2 e2 o2;refine gr ?_;exact⟨o2,e2⟩
theorem zK3(h:WF)(v:Value)(l:List Br)(s:Ww 5 B6 h v l)(hl:l.length<=100000):WC Tryz.prog tb 64 [v] h fun r h'=>WZ 5 B6 h.n h' r l/\WK h h':=by
 refine en ?_;obtain⟨a,n,k,rfl⟩:=zc s;cases a with
 |none=>
  have hn:l=[]:=zCU s;subst hn;refine go ?_;refine VD (fun hb=> ?_) (fun hb=> ?_)
  ·refine gr ?_;exact⟨WZ.nil,WK.refl _⟩
  ·exact absurd hb (by simp)
 |some a=>
  refine go ?_;refine VD (fun hb=> ?_) (fun hb=> ?_)
  ·exact absurd hb (by simp)
  ·refine go ?_;refine V5 B6 ?_;intro v1 h1 e1 o1;refine go ?_;refine Vo o1 (Ww.ext (h:=h) (h':=h1) (fun cs a (r:B6 h cs a)=>(r:B6 h1 cs a)) s e1) (by decide) (fun cs a r hx _ _=>r) (fun cs a r=>r.one) e1 (QE _) e1.n hl ?_;intro v2 h2 e2 o2;refine gr ?_;exact⟨o2,e2⟩
theorem zLJ(h:WF)(v:Value)(l:List RawB)(s:Ww 5 RRb h v l)(hl:l.length<=100000):WC Tryz.prog tb 100 [v] h fun r h'=>WZ 5 RRb h.n h' r l/\WK h h':=by
 refine en ?_;obtain⟨a,n,k,rfl⟩:=zc s;cases a with
 |none=>
  have hn:l=[]:=zCU s;subst hn;refine go ?_;refine VD (fun hb=> ?_) (fun hb=> ?_)
  ·refine gr ?_;exact⟨WZ.nil,WK.refl _⟩
  ·exact absurd hb (by simp)
 |some a=>
  refine go ?_;refine VD (fun hb=> ?_) (fun hb=> ?_)
  ·exact absurd hb (by simp)
  ·refine go ?_;refine V5 RRb ?_;intro v1 h1 e1 o1;refine go ?_;refine Vo o1 (Ww.ext (h:=h) (h':=h1) (fun cs a (r:RRb h cs a)=>(r:RRb h1 cs a)) s e1) (by decide) (fun cs a r hx _ _=>r) (fun cs a r=>r.one) e1 (QE _) e1.n hl ?_;intro v2 h2 e2 o2;refine gr ?_;exact⟨o2,e2⟩
theorem zFH(h:WF)(v:Value)(l:List Int)(s:Wd h v l)(hl:l.length<=100000):WC Tryz.prog tb 34 [v] h fun r h'=>Wb h h' r l/\WK h h':=by
 refine en ?_;obtain⟨a,n,k,rfl⟩:=Wt.shape s;cases a with
 |none=>
  have hn:l=[]:=by
   rcases s.2 with⟨h0,_⟩|⟨g,off,row,hv,_⟩
   ·exact GS.1 h0
   ·cases hv
  subst hn;refine go ?_;refine VD (fun hb=> ?_) (fun hb=> ?_)
  ·refine gr ?_;exact⟨.inl ⟨rfl,rfl⟩,WK.refl _⟩
  ·exact absurd hb (by simp)
 |some a=>
  refine go ?_;refine VD (fun hb=> ?_) (fun hb=> ?_)
  ·exact absurd hb (by simp)
  ·refine go ?_;refine WO.bl [] ?_;intro v1 h1 e1 o1;refine go ?_;refine Vb (.inr o1) (Wd.ext s e1) e1 (by simp only[Gh];omega) ?_;intro v2 h2 e2 o2;refine gr ?_;exact⟨o2,e2⟩
end Go.Proofs.YtmilpkdhbdgjfaaGreatDoor
set_option maxRecDepth 100000
namespace Go.Proofs.YtmilpkdhbdgjfaaGreatDoor
open Go.Am
def zy(l:List Bj):Nat:=(l.map fun b=>b.cells.length).sum
theorem zAy{l:List Bj}{i:Nat}(h:i<l.length):zy (l.take (i+1))=zy (l.take i)+(l.getD i default).cells.length:=by
 rw[zId h];simp[zy]
theorem zKr{l:List Bj}{i:Nat}:zy (l.take i)<=zy l:=by
 have h:=GG i l;have:zy l=zy (l.take i)+zy (l.drop i):=by
  conv=>lhs;rw[<-h]
  simp only[zy,GU,List.sum_append]
 omega
theorem zCv{l:List Bj}(h:∀ i,i<l.length->(l.getD i default).cells.length<=1000):∀ i,i<=l.length->zy (l.take i)<=1000*i
 |0,_=>by simp[zy]
 |i+1,hi=>by
  have:=zCv h i (by omega);have:=h i (by omega);rw[zAy (by omega)];omega
def BS(q:Nat)(row:List Value)(w:Value)(l:List Wi)(S:Nat):Prop:=
 ∃ off,off+l.length*4<=S/\S<=row.length/\w=.slice (some ⟨q,off,none⟩) l.length (if l.length=0 then 0 else 4)/\∀ i a,l[i]?=some a->(row.drop (off+i*4)).take 4=[.int .u8 a.kind,I a.n,I a.block,I a.pos]
theorem BS.sl{q:Nat}{row:List Value}{w:Value}{l:List Wi}{S:Nat}(r:BS q row w l S){hx:WF}(hq:hx.get q=some (.row row true 0))(hn:q<hx.n):W9 hx w l:=by
 obtain⟨off,r1,r2,rfl,r4⟩:=r;by_cases h0:l.length=0
 ·have:l=[]:=GH h0;subst this;exact⟨[],⟨rfl,.inl ⟨rfl,.inr ⟨_,_,rfl⟩⟩⟩,fun i a h=>by simp at h⟩
 rw[QC h0];refine⟨(row.drop off).take (l.length*4),⟨by rw[Ql,Gk];omega,.inr ⟨q,off,row,rfl,ZO hq,yt (by omega),hn⟩⟩,fun i a h=> ?_⟩;have hi:=(QM.1 h).1;show _=_;rw[<-r4 i a h,List.drop_take,G3,Gb,GD (by omega)]
theorem BS.put{q:Nat}{row cs:List Value}{w:Value}{l:List Wi}{S o:Nat}(r:BS q row w l S)(ho:S<=o)(hl:o+cs.length<=row.length):BS q (zO row o cs) w l S:=by
 obtain⟨off,r1,r2,rfl,r4⟩:=r;refine⟨off,r1,by rw[Yk hl];exact r2,rfl,fun i a h=> ?_⟩;have hi:=(QM.1 h).1;rw[<-r4 i a h];refine Gx fun m=> ?_;rw[YG,YG];split
 ·rw[zAl hl,QG (by omega)]
 ·rfl
theorem XN{q:Nat}{row cs:List Value}{l:List Wi}{o:Nat}(hl:o+cs.length<=row.length)(hc:cs.length=l.length*4)(h:∀ i a,l[i]?=some a->(cs.drop (i*4)).take 4=[.int .u8 a.kind,I a.n,I a.block,I a.pos]):BS q (zO row o cs) (.slice (some ⟨q,o,none⟩) l.length (if l.length=0 then 0 else 4)) l (o+l.length*4):=by
 refine⟨o,QE _,by rw[Yk hl];omega,rfl,fun i a hi=> ?_⟩;have hi':=(QM.1 hi).1;rw[<-h i a hi];refine Gx fun m=> ?_;rw[YG,YG];split
 ·rw[zAl hl,QC (by omega),QG (by omega)];congr 1;omega
 ·rfl
theorem BS.mono{q:Nat}{row:List Value}{w:Value}{l:List Wi}{S S':Nat}(r:BS q row w l S)(h:S<=S')(h2:S'<=row.length):BS q row w l S':=by
 obtain⟨off,r1,r2,r3,r4⟩:=r;exact⟨off,by omega,h2,r3,r4⟩
theorem zBD{α:Type}{c:Nat}{R:WF->List Value->α->Prop}{h h':WF}{v:Value}{xs:List α}(s:Ww c R h v xs)(hR:∀ cs a,R h cs a->R h' cs a)(hg:∀ g,g<h.n->h'.get g=h.get g)(hn:h.n<=h'.n):Ww c R h' v xs:=by
 obtain⟨cells,⟨a,b⟩,s2⟩:=s;refine⟨cells,⟨a,b.imp id ?_⟩,fun i x h=>hR _ _ (s2 i x h)⟩;rintro⟨g,off,row,e1,e2,e3,e4⟩;exact⟨g,off,row,e1,by unfold zv at e2 |-;rw[hg g e4];exact e2,e3,QK e4 hn⟩
theorem yb{α:Type}[Inhabited α]{l:List α}{i j:Nat}{a:α}(h:i<l.length):(l.set i a).getD j default=if j=i then a else l.getD j default:=by
 rw[QL,QL];by_cases e:j=i
 ·subst e;rw[QG rfl,List.getElem?_set_self h];rfl
 ·rw[QC e,List.getElem?_set_ne (fun x=>e x.symm)]
def zQq(x:RawB)(b:Bj):Prop:=x.site=b.site/\x.ty=b.ty/\x.depth=b.depth/\x.alive=b.alive
theorem zD0(h:WF)(v:Value)(L:List Bj)(s:BC h v L)(hm:h.mark<=h.n)(hL:L.length<=100)(hp:∀ i,i<L.length->(L.getD i default).cells.length<=1000):
  WC Tryz.prog tb 62 [v] h fun r h'=>WZ 5 RMb h.n h' r L/\WK h h':=by
 obtain⟨xs,sx,lx,rx⟩:=zJt (rel:=fun x a=>zQq x a/\W9 h x.v a.cells/\(a.cells.length:Int)<=9223372036854775807) (B:=RRb) s (fun cs a r=>by
  obtain⟨x,r1,a1,a2,a3,a4,a5⟩:=UT r;obtain⟨_,_,_,hl⟩:=r;exact⟨x,r1,⟨a1,a2,a3,a4⟩,a5,hl⟩)
 replace rx:=Wu.mk rx;have most:=Wu.mk (zCv hp);have hNL:=most.out L.length (QE _);rw[Gc]at hNL;replace hp:=Wu.mk hp;have extR:∀ {h':WF},WK h h'->Ww 5 RRb h' v xs:=fun {h'} e=>Ww.ext (h:=h) (h':=h') (fun cs a (r:RRb h cs a)=>(r:RRb h' cs a)) sx e;refine en ?_;refine VE (fun i=>L.length-i) (fun i t h1=>WK h h1/\zC t 12=I i/\i<=L.length/\zC t 3=I (zy (L.take i))) 0 ?_ ?_
 ·exact⟨WK.refl _,WM,QU _,WM⟩
 ·rintro i t h1 hsame ⟨e1,s12,hi,s3⟩;have sx1:=extR e1;refine go ?_;refine VD (fun hc=> ?_) (fun hc=> ?_)<;>simp only[DB]at hc
  ·have hi':i<xs.length:=by omega
   obtain⟨cs,⟨rfl,hone⟩,pc,hs⟩:=zg sx1 hi';have pc:=(pc _ (WK.refl _)).1;obtain⟨rr,rv,rl⟩:=rx.out i (by omega);have hsucc:=zAy (l:=L) (i:=i) (by omega);have hcl:=hp.out i (by omega);have hmi:=most.out i (by omega);generalize xs.getD i default=x at *;generalize L.getD i default=b at *;obtain⟨x1,x2,x3,x4,xv⟩:=x;obtain⟨aa,an,ak,rfl⟩:∃ a n k,xv=.slice a n k:=zAP rv;have rv1:=W9.ext rv e1;refine go ?_;refine VJ ?_;intro p h2 e2 o2;refine go ?_;refine VF o2 e2 ?_;intro h3 e3 o3 u3;have rv3:=W9.ext rv1 e3;refine go ?_;refine zA (i+1) (by omega) ⟨e1.trans e3,BF,by omega,?_⟩;rw[hsucc,Int.natCast_add];exact WM
  ·have hii:i=L.length:=by omega
   subst hii;rw[Gc]at s3;refine go ?_;have hm1:h1.mark<=h.n:=by rw[e1.mark];exact hm
   refine VC 1 rfl rfl ?_;refine Wc ?_;refine VA (zLJ _ v xs (zBD sx1 (fun cs a r=>r) (fun _ _=>rfl) (GO _)) (by omega)) ?_;rintro v6 X1 ⟨o6,eX⟩;refine nE eX ?_;refine Wc ?_;refine Xd (n:=zy L) (by have:=e1.n;omega) (by omega) ?_;intro X2 n2 g2;refine Wc ?_;have en:=eX.n;have en:h1.n+1<=X1.n:=en;have eg:∀ g,g<h1.n->X1.get g=h1.get g:=fun g hg=>eX.get g (Nat.lt_succ_of_lt hg);have ew:Wf h1->Wf X1:=fun w=>eX.wf fun g hg=>w g (Nat.le_of_succ_le hg);have o6:WZ 5 RRb (h1.n+1) (zq h1 (inC X2)) v6 xs:=WZ.upd o6 (fun k hk1 hk2=>(g2 k).trans (QC (by omega))) (Nat.le_of_eq n2.symm);have eA:WK h (zq h1 (inC X2)):=⟨by have:=e1.n;show h.n<=X2.n;omega,fun g hg=>((g2 g).trans (QC (by have:=e1.n;omega))).trans ((eg g (by have:=e1.n;omega)).trans (e1.get g hg)),fun w g hg=>by
    have hg:X2.n<=g:=hg;exact(g2 g).trans ((QC (by omega)).trans (ew (e1.wf w) g (by omega))),e1.mark,e1.wr⟩
   have gA:(zq h1 (inC X2)).get h1.n=some (.row (zS [.int .u8 0,I 0,I 0,I 0] (zy L)) true 0):=(g2 h1.n).trans (QG rfl);have nA:h1.n+1<=(zq h1 (inC X2)).n:=by show h1.n+1<=X2.n;omega
   have h1n:=e1.n;generalize zq h1 (inC X2)=hA at *;clear g2 n2 eX eg ew en sx1;generalize hQ:h1.n=q at *;obtain⟨oa,on,ok,rfl⟩:=zc o6.sl;have s6:=o6.sl;have rlen:(zS [.int .u8 0,I 0,I 0,I 0] (zy L)).length=zy L*4:=zn _ _;generalize zS [.int .u8 0,I 0,I 0,I 0] (zy L)=row0 at *;refine go ?_;refine VE (fun i=>L.length-i) (fun i t h2=>∃ row ys,WK h h2/\zC t 28=I i/\i<=L.length/\q+1<=h2.n/\WZ 5 RRb (q+1) h2 (.slice oa on ok) ys/\ys.length=L.length/\h2.get q=some (.row row true 0)/\row.length=zy L*4/\zC t 7=.slice (some ⟨q,zy (L.take i)*4,none⟩) (zy L-zy (L.take i)) 4/\
    Wu (∀ j,j<L.length->zQq (ys.getD j default) (L.getD j default))/\Wu (∀ j,i<=j->j<L.length->ys.getD j default=xs.getD j default)/\Wu (∀ j,j<i->BS q row (ys.getD j default).v (L.getD j default).cells (zy (L.take i)*4))) 0 ?_ ?_
   ·refine⟨row0,xs,eA,WM,QU _,nA,o6,lx,gA,rlen,?_,⟨fun j hj=>(rx.out j hj).1⟩,⟨fun j _ _=>rfl⟩,⟨fun j hj=>absurd hj (Qw _)⟩⟩;exact WM
   rintro i t2 h2 hsame2 ⟨row,ys,e2,s28,hi2,nq,oy,ly,gq,rl,s7,hrel,hold,hnew⟩;have sy:=oy.sl;refine go ?_;refine VD (fun hc2=> ?_) (fun hc2=> ?_)<;>simp only[DB]at hc2
   ·have hi':i<ys.length:=by omega
    have hiL:i<L.length:=by omega
    obtain⟨cs,⟨rfl,hone⟩,pc,hs⟩:=zg sy hi';have pc:=(pc _ (WK.refl _)).1;have hyi:ys.getD i default=xs.getD i default:=hold.out i (QE _) hiL;obtain⟨_,rv,rl'⟩:=rx.out i hiL;have rr:=hrel.out i hiL;rw[<-hyi]at rv;have hsucc:=zAy hiL;have hle:=zKr (l:=L) (i:=i+1);have rv2:=W9.ext rv e2;have hshape:∃ a n k,(ys.getD i default).v=.slice a n k:=zAP rv2;generalize hy:ys.getD i default=y at *;generalize hb:L.getD i default=b at *;obtain⟨y1,y2,y3,y4,yv⟩:=y;obtain⟨ya,yn,yk,hyv⟩:=hshape;have hyv:yv=.slice ya yn yk:=hyv;subst hyv;obtain⟨yc,sc,sr⟩:=id rv2;have hone2:zH yc=true:=zGP (by decide) sc.1 fun m hm'=>(sr m _ (QB hm')).one;have hycl:yc.length=b.cells.length*4:=sc.1;refine go ?_;refine Xe (off:=zy (L.take i)*4) (n:=zy L-zy (L.take i)) (k:=b.cells.length) gq sc (by decide) (by omega) (by omega) hone2 ?_;intro h3 n3 k3 g3 w3 m3 r3;have n3:h3.n=h2.n:=n3;have oy3:WZ 5 RRb (q+1) h3 (.slice oa on ok) ys:=WZ.upd oy (fun k hk1 hk2=>k3 k (by omega)) (Nat.le_of_eq n3.symm);have e3:WK h h3:=⟨by have:=e2.n;omega,fun g hg=>(k3 g (by omega)).trans (e2.get g hg),fun w=>w3 (e2.wf w),m3.trans e2.mark,fun hm'=>(r3 (by rw[e2.mark];omega)).trans (e2.wr hm')⟩;refine go ?_;refine VC 0 rfl rfl ?_;have oX:WZ 5 RRb (q+1) (zB 0 h3) (.slice oa on ok) ys:=WZ.upd oy3 (fun _ _ _=>rfl) (QE _);have sX:=WZ.sl oX;have sX:Ww 5 RRb (inC (zB 0 h3)) (.slice oa on ok) ys:=zBD sX (fun cs a r=>r) (fun _ _=>rfl) (QE _);refine Wc ?_;refine UV (zID (c:=4) (g:=q) (off:=zy (L.take i)*4) (len:=zy L-zy (L.take i)) (n:=b.cells.length) (by omega)) ?_;refine nQ ?_;refine Wc ?_;refine Vi (zA7 (c:=4) (g:=q) (off:=zy (L.take i)*4) (len:=zy L-zy (L.take i)) (n:=b.cells.length) (by omega)) ?_;refine nQ ?_;refine Wc ?_;refine UR (i:=i) (off:=4) (cs:=[.slice (some ⟨q,zy (L.take i)*4,none⟩) b.cells.length (if b.cells.length=0 then 0 else 4)]) (ho:=by simp) ⟨y1,y2,y3,y4,.slice (some ⟨q,zy (L.take i)*4,none⟩) b.cells.length (if b.cells.length=0 then 0 else 4)⟩ oX (by have:=e3.mark;show h3.mark<=_;omega) hi' (fun old hx hr ho=>by
     rw[hy]at hr;obtain⟨rfl,_⟩:=hr;exact⟨rfl,rfl⟩) ?_
    intro X' nX kX oX' wX cl';refine Wc ?_;have nX:X'.n=h3.n:=nX;have hno:∀ g,g<=q->∀ n k',Value.slice oa on ok≠ .slice (some ⟨g,0,none⟩) n k':=fun g hg n k' e=>by have:=(zHq oy e).1;omega
    have eF:WK h (zq h3 (inC X')):=⟨by have:=e3.n;show h.n<=X'.n;omega,fun g hg=>(kX g (by show g<h3.n;have:=e3.n;omega) (hno g (by omega))).trans (e3.get g hg),fun w=>wX (fun g hg=>e3.wf w g hg),e3.mark,e3.wr⟩;have oF:WZ 5 RRb (q+1) (zq h3 (inC X')) (.slice oa on ok) (ys.set i ⟨y1,y2,y3,y4,.slice (some ⟨q,zy (L.take i)*4,none⟩) b.cells.length (if b.cells.length=0 then 0 else 4)⟩):=WZ.upd oX' (fun _ _ _=>rfl) (QE _);have gF:(zq h3 (inC X')).get q=some (.row (zO row (zy (L.take i)*4) yc) true 0):=(kX q (by show q<h3.n;omega) (hno q (QE _))).trans g3;have nF:q+1<=(zq h3 (inC X')).n:=by show q+1<=X'.n;omega
    have hset:=fun j=>yb (a:=(⟨y1,y2,y3,y4,.slice (some ⟨q,zy (L.take i)*4,none⟩) b.cells.length (if b.cells.length=0 then 0 else 4)⟩:RawB)) (j:=j) hi';have hput:zy (L.take i)*4+yc.length<=row.length:=by omega
    generalize zq h3 (inC X')=hF at *;refine zA (i+1) (by omega) ⟨_,_,eF,BF,by omega,nF,oF,by rw[GL];exact ly,gF,by rw[Yk hput];exact rl,?_,⟨fun j hj=> ?_⟩,⟨fun j hj hj2=> ?_⟩,⟨fun j hj=> ?_⟩⟩
    ·rw[hsucc,Gf,<-Nat.sub_sub];exact WM
    ·rw[hset];by_cases e:j=i
     ·subst e;rw[QG rfl,hb];exact rr
     ·rw[QC e];exact hrel.out j hj
    ·rw[hset,QC (by omega)];exact hold.out j (by omega) hj2
    ·rw[hset,hsucc];by_cases e:j=i
     ·subst e;rw[QG rfl,hb,Gf];exact XN hput hycl sr
     ·rw[QC e];exact((hnew.out j (by omega)).put (QE _) hput).mono (by omega) (by rw[Yk hput];omega)
   ·have hii:i=L.length:=by omega
    subst hii;refine gr ?_;refine⟨?_,e2⟩;rcases oy with⟨e4,e5⟩|⟨g,cells,D,d1,d2,d3,d4,d5,d6,d7,d8⟩
    ·subst e5;have:L=[]:=GH ly.symm;subst this;exact .inl ⟨e4,rfl⟩
    ·refine .inr ⟨g,cells,fun k=>k=q,by omega,d2,by rw[<-ly];exact d3,d4,by rw[<-ly];exact d5,by omega,fun k hk=>by subst hk;omega,fun j a ha hx hk hn=> ?_⟩;have hj:=(QM.1 ha).1;have hR:=(d8 j _ (QB (show j<ys.length by omega))).self;have hR2:=hrel.out j hj;have hN:=hnew.out j hj;rw[Y7 (QB (show j<ys.length by omega)),Y7 ha]at hR2 hN;obtain⟨r1,r2,r3,r4⟩:=hR2;refine⟨_,by rw[hR.1,r1,r2,r3,r4],hN.sl (hk q _ rfl gq) (by omega),?_⟩;have:=(rx.out j hj).2.2;rwa [Y7 ha]at this
end Go.Proofs.YtmilpkdhbdgjfaaGreatDoor
set_option maxRecDepth 100000
namespace Go.Proofs.YtmilpkdhbdgjfaaGreatDoor
open Go.Am
structure SmallM(a:Wa):Prop where
 mem:a.mem.length<=100
 cells:∀ i,i<a.mem.length->(a.mem.getD i default).cells.length<=1000
 frs:a.frs.length<=100
 regs:∀ i,i<a.frs.length->(a.frs.getD i default).regs.length<=1000
 inn:a.inn.length<=1000
 evs:a.evs.length<=1000
theorem zM8{hb h h':WF}{p q:Value}{cs:List Value}(o:WH hb h q cs)(u:Ws p h h')(hp:∀ g,p=.pointer (some ⟨g,0,none⟩)->g<hb.n):WH hb h' q cs:=by
 obtain⟨g,g1,g2,g3,g4⟩:=o;exact⟨g,g1,QK g2 u.1,g3,(u.2 g g2 (fun e=>by have:=hp g e;omega)).trans g4⟩
theorem zOI{c n:Nat}{h h':WF}{v:Value}{cells:List Value}(s:Wt c h v n cells)(hg:∀ g,g<h.n->h'.get g=h.get g)(hn:h.n<=h'.n):Wt c h' v n cells:=by
 obtain⟨a,b⟩:=s;refine⟨a,b.imp id ?_⟩;rintro⟨g,off,row,e1,e2,e3,e4⟩;exact⟨g,off,row,e1,by unfold zv at e2 |-;rw[hg g e4];exact e2,e3,QK e4 hn⟩
theorem zJo{h h':WF}{v:Value}{l:List Wi}(s:W9 h v l)(hg:∀ g,g<h.n->h'.get g=h.get g)(hn:h.n<=h'.n):W9 h' v l:=zBD s (fun _ _ r=>r) hg hn
theorem zOg{h h':WF}{v:Value}{l:List MEv}(s:SlE h v l)(hg:∀ g,g<h.n->h'.get g=h.get g)(hn:h.n<=h'.n):SlE h' v l:=zBD s (fun _ _ r=>r) hg hn
theorem zMW{h h':WF}{v:Value}{l:List Bj}(s:BC h v l)(hg:∀ g,g<h.n->h'.get g=h.get g)(hn:h.n<=h'.n):BC h' v l:=zBD s (fun _ _ ⟨v,a,b,c⟩=>⟨v,a,zJo b hg hn,c⟩) hg hn
theorem zHj{hb h h':WF}{p:Value}{cs:List Value}(o:WH hb h p cs)(hg:∀ g,p=.pointer (some ⟨g,0,none⟩)->g<h.n->h'.get g=h.get g)(hn:h.n<=h'.n):WH hb h' p cs:=by
 obtain⟨g,a,b,c,d⟩:=o;exact⟨g,a,QK b hn,c,(hg g c b).trans d⟩
theorem zHJ{hb h h':WF}{v:Value}{l:List Int}(o:Wb hb h v l)(hg:∀ g,hb.n<=g->g<h.n->h'.get g=h.get g)(hn:h.n<=h'.n):Wb hb h' v l:=by
 rcases o with o|⟨g,a,b,c,d⟩
 ·exact .inl o
 ·exact .inr ⟨g,a,QK b hn,c,(hg g a b).trans d⟩
theorem zFD{α β:Type}[Inhabited α][Inhabited β]{c:Nat}{A:WF->List Value->α->Prop}{B:WF->List Value->β->Prop}{h:WF}{v:Value}{l:List α}{xs:List β}(s:Ww c B h v xs){rel:β->α->Prop}(hl:xs.length=l.length)(hrel:∀ i,i<l.length->rel (xs.getD i default) (l.getD i default))(hr:∀ cs x a,B h cs x->rel x a->A h cs a):Ww c A h v l:=by
 obtain⟨cells,s1,s2⟩:=s;refine⟨cells,by rw[<-hl];exact s1,fun i a ha=> ?_⟩;have hi:=(QM.1 ha).1;have hx:xs[i]?=some xs[i]:=QB (by omega);have:=hrel i hi;rw[Y7 ha,Y7 hx]at this;exact hr _ _ _ (s2 i _ hx) this
def zGO(x:Br)(f:BQ):Prop:=x.fn=f.fn/\x.block=f.block/\x.pos=f.pos/\x.into=f.into
structure OwnMach(b:Nat)(h:WF)(cs:List Value)(a:Wa):Prop where
 own:∃ vm vf vi ve xs b1 b2,cs=[vm,vf,vi,I a.used,ve,I a.steps,I a.heaps,.int .u8 a.state,I a.trap,I a.exit]/\WZ 5 B6 b1 h vf xs/\xs.length=a.frs.length/\b<=b1/\b1<=b2/\b2<=h.n/\(∀ g n k,vf=.slice (some ⟨g,0,none⟩) n k->g<b2)/\
  (∀ i,i<xs.length->WZ 4 W6 b2 h (xs.getD i default).v (a.frs.getD i default).regs)/\(∃ hb:WF,b<=hb.n/\Wb hb h vi a.inn)/\(∀ g n k,vi=.slice (some ⟨g,0,none⟩) n k->g<b1)/\∀ j k,j<k->k<xs.length->Wp (xs.getD j default).v (xs.getD k default).v
theorem ZP{α:Type}{c b:Nat}{R:WF->List Value->α->Prop}{h:WF}{v:Value}{xs:List α}(o:WZ c R b h v xs):∀ g,blk v=some g->b<=g/\g<h.n:=fun g hg=>by
 rcases o with⟨rfl,_⟩|⟨g,_,_,g1,g2,rfl,_⟩
 ·cases hg
 ·cases hg;exact⟨g1,g2⟩
theorem zCw(h:WF)(ca:List Value)(a:Wa)(ra:RMm h ca a)(sm:SmallM a)(hm:h.mark<=h.n):WC Tryz.prog tb 30 [.agg ca.toArray] h fun r h'=>(∃ cs,r=.agg cs.toArray/\RMm h' cs a/\OwnMach h.n h' cs a)/\WK h h':=by
 obtain⟨am,af,ai,ae,rfl,kam,kaf,kai,kae,lam,laf,lai,lae⟩:=ra;obtain⟨sm1,sm2,sm3,sm4,sm5,sm6⟩:=sm;replace sm4:=Wu.mk sm4;obtain⟨xs,sx,lx,rx⟩:=zJt (rel:=fun x f=>zGO x f/\W9 h x.v f.regs/\(f.regs.length:Int)<=9223372036854775807) (B:=B6) kaf (fun cs a r=>by
  obtain⟨x,r1,a1,a2,a3,a4,a5⟩:=UU r;obtain⟨_,_,_,hl⟩:=r;exact⟨x,r1,⟨a1,a2,a3,a4⟩,a5,hl⟩)
 replace rx:=Wu.mk rx;refine en ?_;refine VG ?_;intro p h1 e1 o1;have hp:=zDT o1;replace o1:WH h h1 p [am,af,ai,I a.used,ae,I a.steps,I a.heaps,.int .u8 a.state,I a.trap,I a.exit]:=o1;refine go ?_;refine VJ ?_;intro q h2 e2 o2;have hq2:=zDT o2;have o1:=o1.ext e2;have e12:=e1.trans e2;refine go ?_;refine VC 0 rfl rfl ?_;have oX:WH h (inC (zB 0 h2)) p [am,af,ai,I a.used,ae,I a.steps,I a.heaps,.int .u8 a.state,I a.trap,I a.exit]:=o1;have g0:∀ g,g<h.n->(inC (zB 0 h2)).get g=h.get g:=fun g hg=>e12.get g hg;have n0:h.n<=(inC (zB 0 h2)).n:=e12.n;have w0:Wf h->Wf (inC (zB 0 h2)):=fun w=>e12.wf w;have hpb:∀ g,p=.pointer (some ⟨g,0,none⟩)->g<(inC (zB 0 h2)).n:=fun g e=>by have:=(hp g e).2;have:=e2.n;show g<h2.n;omega
 have hqb:∀ g,q=.pointer (some ⟨g,0,none⟩)->g<(inC (zB 0 h2)).n:=fun g e=>(hq2 g e).2;have oq:WH h (inC (zB 0 h2)) q [.slice none 0 0,.slice none 0 0,.slice none 0 0,I 0,.slice none 0 0,I 0,I 0,.int .u8 0,I 0,I 0]:=o2.since e1;have hN:(inC (zB 0 h2)).n=h2.n:=rfl;refine Wc ?_;refine VA (zD0 _ am a.mem (zMW kam g0 n0) (QE _) sm1 sm2) ?_;rintro vm X1 ⟨om,e01⟩;refine nE e01 ?_;have oX:=oX.ext e01;have oq:=oq.ext e01;replace oX:WH h (inC X1) p _:=oX;have g1:∀ g,g<h.n->(inC X1).get g=h.get g:=fun g hg=>(e01.get g (QK hg n0)).trans (g0 g hg);have n1:h.n<=(inC X1).n:=QN n0 e01.n;refine Wc ?_;refine zBy o1 (QE _) ?_;refine Wc ?_;refine VA (zFH _ ai a.inn (zOI kai g1 n1) (by omega)) ?_;rintro vi X2 ⟨oi,e12'⟩;refine nE e12' ?_;have oX:=oX.ext e12';replace oX:WH h (inC X2) p _:=oX;have g2:∀ g,g<h.n->(inC X2).get g=h.get g:=fun g hg=>(e12'.get g (QK hg n1)).trans (g1 g hg);have n2:h.n<=(inC X2).n:=QN n1 e12'.n;refine Wc ?_;refine zBy o1 (QE _) ?_;refine Wc ?_;refine VA (zLW _ ae a.evs (zOg kae g2 n2) (by omega)) ?_;rintro ve X3 ⟨oe,e23⟩;refine nE e23 ?_;have oX:=oX.ext e23;replace oX:WH h (inC X3) p _:=oX;have g3:∀ g,g<h.n->(inC X3).get g=h.get g:=fun g hg=>(e23.get g (QK hg n2)).trans (g2 g hg);have n3:h.n<=(inC X3).n:=QN n2 e23.n;refine Wc ?_;refine zBy o1 (QE _) ?_;refine Wc ?_;refine VA (zK3 _ af xs (zBD sx (fun _ _ r=>r) g3 n3) (by omega)) ?_;rintro vf X4 ⟨of,e34⟩;refine nE e34 ?_;have oX:=oX.ext e34;replace oX:WH h (inC X4) p _:=oX;refine Wc ?_;obtain⟨m1,m2,m3,rfl⟩:=zc om.sl;obtain⟨i1,i2,i3,rfl⟩:=Wt.shape oi.sl;obtain⟨v1,v2,v3,rfl⟩:=zc oe.sl;obtain⟨f1,f2,f3,rfl⟩:=zc of.sl;have hmk:h2.mark<=h.n:=by rw[e12.mark];exact hm
 refine V9 (hB:=h) (j:=0) (cs:=[.slice m1 m2 m3]) (hl:=by simp) oX hmk ?_;intro X5 n5 k5 oX w5 cl5;replace oX:WH h (inC X5) p [.slice m1 m2 m3,af,ai,I a.used,ae,I a.steps,I a.heaps,.int .u8 a.state,I a.trap,I a.exit]:=oX;refine Wc ?_;refine V9 (hB:=h) (j:=2) (cs:=[.slice i1 i2 i3]) (hl:=by simp) oX hmk ?_;intro X6 n6 k6 oX w6 cl6;replace oX:WH h (inC X6) p [.slice m1 m2 m3,af,.slice i1 i2 i3,I a.used,ae,I a.steps,I a.heaps,.int .u8 a.state,I a.trap,I a.exit]:=oX;refine Wc ?_;refine V9 (hB:=h) (j:=4) (cs:=[.slice v1 v2 v3]) (hl:=by simp) oX hmk ?_;intro X7 n7 k7 oX w7 cl7;replace oX:WH h (inC X7) p [.slice m1 m2 m3,af,.slice i1 i2 i3,I a.used,.slice v1 v2 v3,I a.steps,I a.heaps,.int .u8 a.state,I a.trap,I a.exit]:=oX;refine Wc ?_;refine V6 (hB:=h) (j:=1) (cs:=[.slice f1 f2 f3]) (hl:=by simp) oX hmk ?_;intro H n8 k8 oX w8 m8 r8;replace oX:WH h H p [.slice m1 m2 m3,.slice f1 f2 f3,.slice i1 i2 i3,I a.used,.slice v1 v2 v3,I a.steps,I a.heaps,.int .u8 a.state,I a.trap,I a.exit]:=oX;have b2:=e2.n;have b1:=e1.n;have hpk:∀ k,h2.n<=k->p≠ .pointer (some ⟨k,0,none⟩):=fun k hk e=>by have:=(hp k e).2;omega
 have hpk0:∀ k,k<h.n->p≠ .pointer (some ⟨k,0,none⟩):=fun k hk e=>by have:=(hp k e).1;omega
 have c1:h2.n<=X1.n:=e01.n;have c2:X1.n<=X2.n:=e12'.n;have c3:X2.n<=X3.n:=e23.n;have c4:X3.n<=X4.n:=e34.n;have nH:H.n=X4.n:=n8.trans (n7.trans (n6.trans n5));have kH:∀ k,p≠ .pointer (some ⟨k,0,none⟩)->H.get k=X4.get k:=fun k hk=>(k8 k hk).trans ((k7 k hk).trans ((k6 k hk).trans (k5 k hk)));have om3:WZ 5 RMb h2.n X3 (.slice m1 m2 m3) a.mem:=WZ.ext (h:=inC X2) (WZ.upd (WZ.ext (h:=inC X1) (h':=X2) (WZ.upd om (fun _ _ _=>rfl) (QE _)) e12') (fun _ _ _=>rfl) (QE _)) e23;have oi3:Wb (inC X1) X3 (.slice i1 i2 i3) a.inn:=Wb.ext (h:=inC X2) oi e23;have eH:WK h H:=⟨by omega,fun g hg=>(kH g (hpk0 g hg)).trans ((e34.get g (QK hg n3)).trans (g3 g hg)),fun w=>w8 (w7 (w6 (w5 (e34.wf (e23.wf (e12'.wf (e01.wf (w0 w)))))))),m8.trans e12.mark,fun hm'=>r8.trans (e12.wr hm')⟩;have KH:∀ k,h2.n<=k->k<X3.n->H.get k=X3.get k:=fun k hk1 hk2=>(kH k (hpk k hk1)).trans (e34.get k hk2);have oF:WZ 5 B6 X3.n H (.slice f1 f2 f3) xs:=WZ.upd of (fun k hk1 hk2=>kH k (hpk k (by have hk1:X3.n<=k:=hk1;omega))) (Nat.le_of_eq nH.symm);have oQ:WH h H q [.slice none 0 0,.slice none 0 0,.slice none 0 0,I 0,.slice none 0 0,I 0,I 0,.int .u8 0,I 0,I 0]:=by
  obtain⟨g,q1,q2,q3,q4⟩:=oq;have hg:=(hq2 g q3);have q2:g<X1.n:=q2;refine⟨g,q1,by omega,q3,(kH g (fun e=>by have:=(hp g e).2;omega)).trans ?_⟩;exact(e34.get g (by show g<X3.n;omega)).trans ((e23.get g (by show g<X2.n;omega)).trans ((e12'.get g q2).trans q4))
 have hgF:∀ g n k,Value.slice f1 f2 f3=.slice (some ⟨g,0,none⟩) n k->X3.n<=g/\g<H.n:=fun g n k e=>zHq oF e;have hX3H:X3.n<=H.n:=by omega
 have hqX:∀ g,q=.pointer (some ⟨g,0,none⟩)->h1.n<=g/\g<h2.n:=hq2;have hmH:H.mark<=h.n:=by rw[m8];exact hmk
 clear k8 k7 k6 k5 n8 n7 n6 n5 w8 w7 w6 w5 of oq e34 e23 e12' e01 g0 g1 g2 g3 n0 n1 n2 n3 w0 o2 om oi hN hqb hpb m8 r8 kH nH c4;have hrelx:Wu (∀ j,j<xs.length->zGO (xs.getD j default) (a.frs.getD j default)):=⟨fun j hj=>(rx.out j (by omega)).1⟩;have sF:=oF.sl;refine go ?_;refine VE (fun i=>xs.length-i) (fun i t ht=>∃ ys,WK h ht/\zC t 24=I i/\i<=xs.length/\H.n<=ht.n/\WH h ht p [.slice m1 m2 m3,.slice f1 f2 f3,.slice i1 i2 i3,I a.used,.slice v1 v2 v3,I a.steps,I a.heaps,.int .u8 a.state,I a.trap,I a.exit]/\WH h ht q [.slice none 0 0,.slice none 0 0,.slice none 0 0,I 0,.slice none 0 0,I 0,I 0,.int .u8 0,I 0,I 0]/\
  Wu (∀ k,h2.n<=k->k<X3.n->ht.get k=X3.get k)/\WZ 5 B6 X3.n ht (.slice f1 f2 f3) ys/\ys.length=xs.length/\Wu (∀ j,j<xs.length->zGO (ys.getD j default) (a.frs.getD j default))/\Wu (∀ j,i<=j->j<xs.length->ys.getD j default=xs.getD j default)/\Wu (∀ j,j<i->WZ 4 W6 H.n ht (ys.getD j default).v (a.frs.getD j default).regs)/\Wu (∀ j k,j<k->k<i->Wp (ys.getD j default).v (ys.getD k default).v)) 0 ?_ ?_
 ·exact⟨xs,eH,WM,QU _,QE _,oX,oQ,⟨KH⟩,oF,rfl,hrelx,⟨fun j _ _=>rfl⟩,⟨fun j hj=>absurd hj (Qw _)⟩,⟨fun j k _ hk=>absurd hk (Qw _)⟩⟩
 rintro i t ht hsame ⟨ys,et,s24,hi,nt,op,oq,hK,oy,ly,hrel,hold,hnew,hoff⟩;have sy:=oy.sl;refine go ?_;refine VD (fun hc=> ?_) (fun hc=> ?_)<;>simp only[DB]at hc
 ·have hi':i<ys.length:=by omega
  obtain⟨cs,⟨rfl,hone⟩,pc,hs⟩:=zg sy hi';have pcX:=pc;have pc:=(pc _ (WK.refl _)).1;have hyi:ys.getD i default=xs.getD i default:=hold.out i (QE _) (by omega);obtain⟨_,rv,rl⟩:=rx.out i (by omega);have rr:=hrel.out i (by omega);have hrl:=sm4.out i (by omega);rw[<-hyi]at rv;have hshape:∃ a n k,(ys.getD i default).v=.slice a n k:=zAP rv;generalize hy:ys.getD i default=y at *;generalize hb:a.frs.getD i default=b at *;obtain⟨y1,y2,y3,yv,y4⟩:=y;obtain⟨ya,yn,yk,hyv⟩:=hshape;have hyv:yv=.slice ya yn yk:=hyv;subst hyv;refine go ?_;refine VJ ?_;intro p4 h4 e4 o4;have op:=op.ext e4;refine go ?_;refine VF (cs:=[I y1,I y2,I y3,.slice ya yn yk,I y4]) o4 e4 ?_;intro h5 e5 o5 u5;have op:=(by assumption:WH h ht p _).ext e5;have oy5:=oy.ext e5;have e05:=et.trans e5;have n5:=e5.n;refine go ?_;refine VC 0 rfl rfl ?_;have opX:WH h (inC (zB 0 h5)) p _:=op;have o5X:WH ht (inC (zB 0 h5)) p4 _:=o5;refine Wc ?_;refine VA (zLk _ (.slice ya yn yk) b.regs (zJo rv (fun g hg=>e05.get g hg) e05.n) (by omega)) ?_;rintro w X6 ⟨ow,e6⟩;refine nE e6 ?_;obtain⟨w1,w2,w3,rfl⟩:=zc ow.sl;have oy6:WZ 5 B6 X3.n X6 (.slice f1 f2 f3) ys:=WZ.ext (h:=inC (zB 0 h5)) (WZ.upd oy5 (fun _ _ _=>rfl) (QE _)) e6;have sy6:Ww 5 B6 (inC X6) (.slice f1 f2 f3) ys:=WZ.sl (h:=inC X6) (WZ.upd oy6 (fun _ _ _=>rfl) (QE _));refine Wc ?_;refine UM (i:=i) (off:=3) (cs:=[.slice w1 w2 w3]) (ho:=by simp) ⟨y1,y2,y3,.slice w1 w2 w3,y4⟩ oy6 (by have:=e05.mark;show h5.mark<=X3.n;omega) hi' (fun old hx hr ho=>by
   rw[hy]at hr;obtain⟨rfl,_⟩:=hr;exact⟨rfl,rfl⟩) ?_
  intro H7 n7 k7 oy7 w7 m7 r7;have n7:H7.n=X6.n:=n7;have n6:h5.n<=X6.n:=e6.n;have k6:∀ g,g<h5.n->X6.get g=h5.get g:=fun g hg=>e6.get g hg;have n45:ht.n<=h5.n:=n5;have hno:∀ g,(g<X3.n\/H.n<=g)->∀ n k',Value.slice f1 f2 f3≠ .slice (some ⟨g,0,none⟩) n k':=fun g hg n k' e=>by have:=hgF g n k' e;omega
  have kk:∀ g,g<h5.n->(g<X3.n\/H.n<=g)->H7.get g=h5.get g:=fun g hg hq=>(k7 g (by omega) (hno g hq)).trans (k6 g hg);have e7:WK h H7:=⟨by have:=e05.n;omega,fun g hg=>(kk g (by have:=e05.n;omega) (.inl (by omega))).trans (e05.get g hg),fun w=>w7 (e6.wf (e05.wf w)),m7.trans e05.mark,fun hm'=>r7.trans (e05.wr hm')⟩;refine go ?_;refine zA (i+1) (by omega) ⟨_,e7,BF,by omega,by omega,zHj op (fun g e hg=>kk g hg (.inl (by have:=(hp g e).2;omega))) (by omega),zHj (oq.ext e5) (fun g e hg=>kk g hg (.inl (by have:=(hqX g e).2;omega))) (by omega),⟨fun k hk1 hk2=> ?_⟩,oy7,by rw[GL];exact ly,⟨fun j hj=> ?_⟩,⟨fun j hj hj2=> ?_⟩,⟨fun j hj=> ?_⟩,⟨fun j k hj hk=> ?_⟩⟩
  ·exact(kk k (by omega) (.inl hk2)).trans ((e5.get k (by omega)).trans (hK.out k hk1 hk2))
  ·rw[yb hi'];by_cases e:j=i
   ·subst e;rw[QG rfl,hb];exact rr
   ·rw[QC e];exact hrel.out j hj
  ·rw[yb hi',QC (by omega)];exact hold.out j (by omega) hj2
  ·rw[yb hi'];by_cases e:j=i
   ·subst e;rw[QG rfl,hb];exact WZ.upd (WZ.base ow (show H.n<=h5.n by omega)) (fun k hk1 hk2=>k7 k hk2 (hno k (.inr hk1))) (Nat.le_of_eq n7.symm)
   ·rw[QC e];exact WZ.upd ((hnew.out j (by omega)).ext e5) (fun k hk1 hk2=>kk k hk2 (.inr hk1)) (by omega)
  ·rw[yb hi',yb hi',QC (by omega)];by_cases e:k=i
   ·subst e;rw[QG rfl];intro g g1 g2;have q1:=ZP (hnew.out j hj) g g1;have q2:=ZP ow g g2;have q3:h5.n<=g:=q2.1;omega
   ·rw[QC e];exact hoff.out j k hj (by omega)
 ·have hii:i=xs.length:=by omega
  subst hii;refine go ?_;refine VF (h0:=h) oq et ?_;intro h8 e8 o8 u8;have n8:=u8.1;have k8:∀ k,h2.n<=k->k<ht.n->h8.get k=ht.get k:=fun k hk1 hk2=>u8.2 k hk2 (fun e=>by have:=(hqX k e).2;omega);have hK8:∀ k,h2.n<=k->k<X3.n->h8.get k=X3.get k:=fun k hk1 hk2=>(k8 k hk1 (by omega)).trans (hK.out k hk1 hk2);have oy8:WZ 5 B6 X3.n h8 (.slice f1 f2 f3) ys:=WZ.upd oy (fun k hk1 hk2=>k8 k (by omega) hk2) n8;have hnew8:∀ j,j<xs.length->WZ 4 W6 H.n h8 (ys.getD j default).v (a.frs.getD j default).regs:=fun j hj=>WZ.upd (hnew.out j hj) (fun k hk1 hk2=>k8 k (by omega) hk2) n8;have oi8:Wb (inC X1) h8 (.slice i1 i2 i3) a.inn:=zHJ oi3 (fun g hg1 hg2=>hK8 g (by have hg1:X1.n<=g:=hg1;omega) hg2) (by omega);have om8:BC h8 (.slice m1 m2 m3) a.mem:=om3.dep (fun k o hk1 hk2 e=>(hK8 k hk1 hk2).trans e) (by omega);have oe8:SlE h8 (.slice v1 v2 v3) a.evs:=WZ.dep oe (fun k o hk1 hk2 e=>(hK8 k (by have hk1:X2.n<=k:=hk1;omega) hk2).trans e) (by omega);have of8:BW h8 (.slice f1 f2 f3) a.frs:=zFD (rel:=fun x f=>zGO x f/\W9 h8 x.v f.regs/\(f.regs.length:Int)<=9223372036854775807) oy8.sl (by omega) (fun j hj=>⟨hrel.out j (by omega),(hnew8 j (by omega)).sl,(rx.out j hj).2.2⟩) (fun cs x f r ⟨⟨q1,q2,q3,q4⟩,q5,q6⟩=>⟨x.v,by rw[r.1,q1,q2,q3,q4],q5,q6⟩);refine gr ?_;refine⟨⟨_,rfl,⟨_,_,_,_,rfl,om8,of8,oi8.sl,oe8,lam,laf,lai,lae⟩,⟨_,_,_,_,ys,X3.n,H.n,rfl,oy8,by omega,by omega,by omega,by omega,fun g n k e=>(hgF g n k e).2,fun j hj=>hnew8 j (by omega),⟨_,?_,oi8⟩,fun g n k e=> ?_,fun j k hj hk=>hoff.out j k hj (by omega)⟩⟩,e8⟩
  ·show h.n<=X1.n;omega
  ·rcases oi3 with⟨e2,_⟩|⟨g2,q1,q2,q3,_⟩
   ·rw[e2]at e;cases e
   ·rw[q3]at e;cases e;exact q2
end Go.Proofs.YtmilpkdhbdgjfaaGreatDoor
set_option maxRecDepth 100000
namespace Go.Proofs.YtmilpkdhbdgjfaaGreatDoor
open Go.Am
def Bo(v:Wi):Bool:=
 if v.kind=1 then decide (v.block=0/\v.pos=0)else if v.kind=2 then decide (v.n=0/\0<=v.block/\0<=v.pos/\(0<v.block\/v.pos=0))else if v.kind=3 then decide (0<=v.n/\v.n<=8/\v.block=0/\v.pos=0)else false
theorem zB7(h:WF)(v:Wi):WC Tryz.prog tb 78 [.agg #[.int .u8 v.kind,I v.n,I v.block,I v.pos]] h fun r h'=>r=I (if Bo v then 0 else 8)/\WK h h':=by
 unfold Bo;refine en ?_;refine VG ?_;intro p h1 e1 o1;replace o1:WH h h1 p [.int .u8 v.kind,I v.n,I v.block,I v.pos]:=o1;by_cases k1:v.kind=1
 ·rw[QG k1];by_cases a1:v.block=0
  ·by_cases a2:v.pos=0
   ·refine gr ?_;exact⟨by simp[a1,a2];rfl,e1⟩
   ·refine gr ?_;exact⟨by simp[a1,a2];rfl,e1⟩
  ·refine gr ?_;exact⟨by simp[a1];rfl,e1⟩
 rw[QC k1];by_cases k2:v.kind=2
 ·rw[QG k2];by_cases a1:v.n=0
  ·by_cases a2:0<=v.block
   ·by_cases a3:0<=v.pos
    ·by_cases a4:0<v.block
     ·refine gr ?_;exact⟨by simp[a1,a2,a3,a4];rfl,e1⟩
     ·by_cases a5:v.pos=0
      ·refine gr ?_;exact⟨by simp[a1,a2,a3,a4,a5];rfl,e1⟩
      ·refine gr ?_;exact⟨by simp[a1,a2,a3,a4,a5];rfl,e1⟩
    ·refine gr ?_;exact⟨by simp[a1,a2,a3];rfl,e1⟩
   ·refine gr ?_;exact⟨by simp[a1,a2];rfl,e1⟩
  ·refine gr ?_;exact⟨by simp[a1];rfl,e1⟩
 rw[QC k2];by_cases k3:v.kind=3
 ·rw[QG k3];by_cases a1:0<=v.n
  ·by_cases a2:v.n<=8
   ·by_cases a3:v.block=0
    ·by_cases a4:v.pos=0
     ·refine gr ?_;exact⟨by simp[a1,a2,a3,a4];rfl,e1⟩
     ·refine gr ?_;exact⟨by simp[a1,a2,a3,a4];rfl,e1⟩
    ·refine gr ?_;exact⟨by simp[a1,a2,a3];rfl,e1⟩
   ·refine gr ?_;exact⟨by simp[a1,a2];rfl,e1⟩
  ·refine gr ?_;exact⟨by simp[a1];rfl,e1⟩
 rw[QC k3];refine gr ?_;exact⟨rfl,e1⟩
theorem zNX(h:WF)(cs:List Value)(v:Wi)(r:W6 h cs v):WC Tryz.prog tb 77 [.agg cs.toArray] h fun q h'=>q=.bool (!Bo v)/\WK h h':=by
 have r:cs=[.int .u8 v.kind,I v.n,I v.block,I v.pos]:=r;subst r;refine en ?_;refine VG ?_;intro p h1 e1 o1;replace o1:WH h h1 p [.int .u8 v.kind,I v.n,I v.block,I v.pos]:=o1;refine go ?_;refine VA (zB7 h1 v) ?_;rintro _ h2 ⟨rfl,e2⟩;cases Bo v with
 |true=>
  refine gr ?_;exact⟨rfl,e1.trans e2⟩
 |false=>
  refine gr ?_;exact⟨rfl,e1.trans e2⟩
theorem zNo(h:WF)(v fv:Value)(l:List Wi)(p:Wi->Bool)(s:W9 h v l)(hl:(l.length:Int)<=9223372036854775807)(hf:∀ x∈l,∀ h1,WK h h1->∀ cs,W6 h1 cs x->WV Tryz.prog tb fv [.agg cs.toArray] h1 fun r h'=>r=.bool (p x)/\WK h1 h'):
  WC Tryz.prog tb 113 [v,fv] h fun r h'=>(∃ n:Int,r=I n/\(decide (0<=n))=l.any p)/\WK h h':=by
 refine en ?_;refine VE (fun i=>l.length-i) (fun i t h1=>WK h h1/\zC t 8=I i/\i<=l.length/\∀ j,j<i->p (l.getD j default)=false) 0 ?_ ?_
 ·exact⟨WK.refl h,WM,QU _,fun j hj=>absurd hj (Qw _)⟩
 rintro i t h1 hsame ⟨e1,s8,hi,hm⟩;have s1:=W9.ext s e1;refine go ?_;refine VD (fun hb=> ?_) (fun hb=> ?_)<;>simp only[DB]at hb
 ·have hi':i<l.length:=by omega
  obtain⟨cs,hcs,pc,hs⟩:=yo s1 hi';have hff:=hf _ (zL hi') h1 e1 cs hcs;have hcs:cs=[.int .u8 (l.getD i default).kind,I (l.getD i default).n,I (l.getD i default).block,I (l.getD i default).pos]:=hcs;subst hcs;refine go ?_;refine VY hff ?_;rintro _ h2 ⟨rfl,e2⟩;refine go ?_;refine VD (fun hb=> ?_) (fun hb=> ?_)
  ·refine gr ?_;refine⟨⟨i,rfl,?_⟩,e1.trans e2⟩;rw[G4.2 ⟨_,zL hi',hb⟩];simp
  ·refine go ?_;refine zA (i+1) (by omega) ⟨e1.trans e2,BF,by omega,fun j hj=> ?_⟩;by_cases e:j=i
   ·subst e;exact hb
   ·exact hm j (by omega)
 ·refine gr ?_;refine⟨⟨-1,rfl,?_⟩,e1⟩;rw[zAV fun x hx=>by obtain⟨j,hj,rfl⟩:=Zs hx;exact hm j (by omega)];rfl
theorem zL5(h:WF)(v fv:Value)(l:List Wi)(p:Wi->Bool)(s:W9 h v l)(hl:(l.length:Int)<=9223372036854775807)(hf:∀ x∈l,∀ h1,WK h h1->∀ cs,W6 h1 cs x->WV Tryz.prog tb fv [.agg cs.toArray] h1 fun r h'=>r=.bool (p x)/\WK h1 h'):
  WC Tryz.prog tb 76 [v,fv] h fun r h'=>r=.bool (l.any p)/\WK h h':=by
 refine en ?_;refine VA (zNo h v fv l p s hl hf) ?_;rintro _ h1 ⟨⟨n,rfl,e⟩,e1⟩;refine gr ?_;exact⟨by rw[<-e];rfl,e1⟩
theorem zOY{l:List Wi}:(!(l.any fun v=> !Bo v))=l.all Bo:=by
 induction l with
 |nil=>rfl
 |cons x l ih=>
  rw[List.any_cons,List.all_cons,Bool.not_or,ih,Bool.not_not]
theorem zGq(h:WF)(v:Value)(l:List Wi)(s:W9 h v l)(hl:(l.length:Int)<=9223372036854775807):WC Tryz.prog tb 38 [v] h fun r h'=>r=.bool (l.all Bo)/\WK h h':=by
 refine en ?_;refine VA (zL5 h v _ l (fun v=> !Bo v) s hl fun x hx h1 e1 cs r=>WV.func (zNX h1 cs x r)) ?_;rintro _ h1 ⟨rfl,e1⟩;rw[<-zOY];cases l.any (fun v=> !Bo v)with
 |true=>
  refine gr ?_;exact⟨rfl,e1⟩
 |false=>
  refine gr ?_;exact⟨rfl,e1⟩
theorem zDF(h:WF)(v:Value)(s:BC h v []):WC Tryz.prog tb 84 [v] h fun r h'=>r=I 0/\WK h h':=by
 obtain⟨a1,a2,a3,rfl⟩:=zN s;refine en ?_;refine VG ?_;intro p h1 e1 o1;replace o1:WH h h1 p [.slice a1 a2 a3]:=o1;have s1:=BC.ext s e1;have hl0:(([]:List Bj).length:Int)=0:=rfl;refine go ?_;rw[show decide ((([]:List Bj).length:Int)<=4096)=true from by simp];refine VE (fun i=>0) (fun(i:Nat) t h2=>h1=h2/\zC t 11=I 0/\zC t 3=.bool true) 0 ?_ ?_
 ·exact⟨rfl,WM,WM⟩
 rintro i t _ hsame ⟨rfl,s11,s3⟩;refine gr ?_;exact⟨rfl,e1⟩
theorem zMG(h:WF)(v:Value)(s:BC h v [])(x:Wi):WC Tryz.prog tb 85 [v,.agg #[.int .u8 x.kind,I x.n,I x.block,I x.pos]] h fun r h'=>r=.bool (Bo x&&(decide (x.kind≠2)||decide (x.block=0)))/\WK h h':=by
 obtain⟨a1,a2,a3,rfl⟩:=zN s;refine en ?_;refine VG ?_;intro p h1 e1 o1;replace o1:WH h h1 p [.int .u8 x.kind,I x.n,I x.block,I x.pos]:=o1;have s1:=BC.ext s e1;refine go ?_;refine VC 0 rfl rfl ?_;have oY:WH h (inC (zB 0 h1)) p [.int .u8 x.kind,I x.n,I x.block,I x.pos]:=o1;have sY:BC (inC (zB 0 h1)) (.slice a1 a2 a3) []:=s1;refine Wc ?_;refine VA (zB7 _ x) ?_;rintro _ X ⟨rfl,eX⟩;refine nE eX ?_;have oX:WH h (inC X) p [.int .u8 x.kind,I x.n,I x.block,I x.pos]:=WH.ext (h':=X) oY eX;have sX:BC (inC X) (.slice a1 a2 a3) []:=BC.ext (h':=X) sY eX;have e1X:WK h1 (zq h1 X):=(zQ 0 h1).trans (yP (h:=h1) eX);cases hk:Bo x with
 |false=>
  rw[QC Bool.false_ne_true];refine gUr ?_;exact⟨rfl,e1.trans e1X⟩
 |true=>
  rw[QG rfl];by_cases k2:x.kind=2
  ·by_cases b0:x.block=0
   ·refine gUr ?_;exact⟨by simp[b0];rfl,e1.trans e1X⟩
   ·have hb:¬x.block<=0:=fun q=>by
     unfold Bo at hk;rw[QC (by omega),QG k2]at hk;simp at hk;omega
    have hb2:¬x.block<=(([]:List Bj).length:Int):=by simpa using hb
    refine gUr ?_;exact⟨by simp[b0,k2];rfl,e1.trans e1X⟩
  ·refine gUr ?_;exact⟨by simp[k2];rfl,e1.trans e1X⟩
theorem zJW(h:WF)(v:Value)(x:Wi)(hx:x.kind≠2\/x.block=0):WC Tryz.prog tb 86 [v,.agg #[.int .u8 x.kind,I x.n,I x.block,I x.pos]] h fun r h'=>r=I 0/\WK h h':=by
 refine en ?_;refine VG ?_;intro p h1 e1 o1;replace o1:WH h h1 p [.int .u8 x.kind,I x.n,I x.block,I x.pos]:=o1;by_cases k2:x.kind=2
 ·have hb:=hx.resolve_left (fun e=>e k2);refine gr ?_;exact⟨rfl,e1⟩
 ·refine gr ?_;exact⟨rfl,e1⟩
def okE(v:Wi):Bool:=Bo v&&(decide (v.kind≠2)||decide (v.block=0))
theorem zH0(h:WF)(v:Value)(s:BC h v [])(x:Wi):WC Tryz.prog tb 42 [v,.agg #[.int .u8 x.kind,I x.n,I x.block,I x.pos]] h fun r h'=>r=.tuple #[I 0,I (if okE x then 0 else 2)]/\WK h h':=by
 obtain⟨a1,a2,a3,rfl⟩:=zN s;refine en ?_;refine VG ?_;intro p h1 e1 o1;replace o1:WH h h1 p [.int .u8 x.kind,I x.n,I x.block,I x.pos]:=o1;have s1:=BC.ext s e1;refine go ?_;refine VA (zDF h1 _ s1) ?_;rintro _ h2 ⟨rfl,e2⟩;have o2:=o1.ext e2;have s2:=BC.ext s1 e2;refine go ?_;refine VA (zMG h2 _ s2 x) ?_;rintro _ h3 ⟨rfl,e3⟩;have o3:=o2.ext e3;have hq:(Bo x&&(decide (x.kind≠2)||decide (x.block=0)))=okE x:=rfl;rw[hq];cases he:okE x with
 |false=>
  rw[QC Bool.false_ne_true];refine gr ?_;exact⟨rfl,e1.trans (e2.trans e3)⟩
 |true=>
  rw[QG rfl];refine go ?_;refine VA (zJW h3 _ x ?_) ?_
  ·unfold okE at he;simp at he;omega
  rintro _ h4 ⟨rfl,e4⟩;refine gr ?_;exact⟨rfl,e1.trans (e2.trans (e3.trans e4))⟩
theorem zLa(h:WF)(v:Value)(s:BC h v [])(hm:h.mark<=h.n)(n:Int)(hn:1<=n):WC Tryz.prog tb 43 [v,I n] h fun r h'=>(∃ w,r=.tuple #[w,I 0]/\BC h' w [])/\WK h h':=by
 obtain⟨a1,a2,a3,rfl⟩:=zN s;refine en ?_;refine VA (zDF h _ s) ?_;rintro _ h1 ⟨rfl,e1⟩;have s1:=BC.ext s e1;refine go ?_;refine VA (zD0 h1 _ [] s1 (by rw[e1.mark];exact QN hm e1.n) (by simp) (fun i hi=>by simp at hi)) ?_;rintro w h2 ⟨ow,e2⟩;have sw:BC h2 w []:=ow.sl;obtain⟨b1,b2,b3,rfl⟩:=zN sw;have hl0:(([]:List Bj).length:Int)=0:=rfl;refine go ?_;refine VE (fun i=>0) (fun(i:Nat) t h3=>h2=h3/\zC t 20=I 0/\zC t 7=.slice b1 b2 b3) 0 ?_ ?_
 ·exact⟨rfl,WM,WM⟩
 rintro i t _ hsame ⟨rfl,s20,s7⟩;refine gr ?_;exact⟨⟨_,rfl,sw⟩,e1.trans e2⟩
end Go.Proofs.YtmilpkdhbdgjfaaGreatDoor
