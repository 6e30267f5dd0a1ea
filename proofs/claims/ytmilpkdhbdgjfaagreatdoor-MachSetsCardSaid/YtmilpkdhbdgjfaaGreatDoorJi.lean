/- Walks of functions, plain laws; proves no statement. -/
import Derived.Test.YtmilpkdhbdgjfaaGreatDoorJh
set_option linter.all false
set_option maxHeartbeats 2000000
set_option maxRecDepth 100000
namespace Go.Proofs.YtmilpkdhbdgjfaaGreatDoor
open Go.Am
section
variable {P:Program}{tab:Ww}{t:WJ Value}{ds:List Deferred}{rd:Option Nat}{h:WG}{Q:WT->WG->Prop}{l:List WH}{d:Nat}{ty:TypeId}{x:Operand}{v r:Value}
theorem WO.as{ok:Bool}(hr:zDc P ty ok v=some r)(k:WO P tab l ⟨t.set d r,ds,rd⟩ h Q)(hx:WR t x v:=by exact zN):WO P tab (⟨some d,none,.assert ty ok x⟩::l) ⟨t,ds,rd⟩ h Q:=
 WO.op _ _ rfl (by unfold WR at *;simp only[WP,hx,hr,QH]) k
theorem UK(hr:zDV P ty v=some r)(k:WO P tab l ⟨t.set d r,ds,rd⟩ h Q)(hx:WR t x v:=by exact zN):WO P tab (⟨some d,none,.typeOf ty x⟩::l) ⟨t,ds,rd⟩ h Q:=
 WO.op _ _ rfl (by unfold WR at *;simp only[WP,hx,hr,QH]) k
theorem U8{f:FuncId}{name:String}{u:Value}(hm:Yb P ty name=some f)(k:WC P tab f [u] h fun v h'=>WO P tab l ⟨t.set d v,ds,rd⟩ h' Q)(hx:WR t x (.iface ty u):=by exact zN):WO P tab (⟨some d,none,.invoke x name []⟩::l) ⟨t,ds,rd⟩ h Q:=
 WO.invoke hx hm rfl k
theorem Ut{G rt:Nat}{b:Bool}(hb:YO P G rt ty=some b)(k:WO P tab l ⟨t.set d (.bool b),ds,rd⟩ h Q)(hx:WR t x (zGA G rt ty):=by exact zN):WO P tab (⟨some d,none,.invoke x "Comparable" []⟩::l) ⟨t,ds,rd⟩ h Q:=
 XF hx hb k
end
abbrev tyE:Nat:=26
abbrev zLO:Value:= .iface tyE (I 120)
theorem zJC(h:WG)(f b:Int):WC Tryz.prog tb 258 [.agg #[I f,I b,I 120]] h fun r h'=>r=zLO/\WL h h':=by
 refine en ?_;refine VG ?_;intro p h1 e1 o1;replace o1:WI h h1 p [I f,I b,I 120]:=o1;refine go ?_;refine VR ?_;refine gr ?_;exact⟨rfl,e1⟩
theorem zQA(h:WG)(f b:Int):WC Tryz.prog tb 112 [B4 f b,zLO,.bool true] h fun r h'=>r=.bool true/\WL h h':=by
 refine en ?_;refine VE (fun i=>2-i) (fun i t h'=>WL h h'/\((i=0/\zC t 0=B4 f b)\/(i=1/\zC t 0=zLO))) 0 ?_ ?_
 ·exact⟨WL.refl _,.inl ⟨rfl,WN⟩⟩
 rintro i t h1 hsame ⟨e1,⟨rfl,s0⟩|⟨rfl,s0⟩⟩
 ·unfold B4 at s0;refine go ?_;refine Vf (v:= .bool false) (by kernel_rfl) ?_;refine go ?_;refine WO.as (r:= .tuple #[.nilIface,.bool false]) (by kernel_rfl) ?_;refine go ?_;refine WO.as (r:= .tuple #[.iface tyF (.agg #[I f,I b,I 120]),.bool true]) (by kernel_rfl) ?_;refine go ?_;refine U8 (f:=258) (by kernel_rfl) ?_;refine WC.mono (zJC h1 f b) ?_;rintro _ h2 ⟨rfl,e2⟩;refine go ?_;simp only[Gw,Qs];refine go ?_;exact zA 1 (by omega) ⟨e1.trans e2,.inr ⟨rfl,WN⟩⟩
 ·refine go ?_;refine Vf (v:= .bool true) (by kernel_rfl) ?_;refine gr ?_;exact⟨rfl,e1⟩
theorem zPz(h:WG)(f b:Int):WC Tryz.prog tb 74 [B4 f b,zLO] h fun r h'=>r=.bool true/\WL h h':=by
 unfold B4;refine en ?_;simp only[Gw,Qs];refine go ?_;simp only[Gw,Qs];refine go ?_;refine UK (v:=zLO) rfl ?_;refine go ?_;refine Ut (b:=true) (by kernel_rfl) ?_;refine go ?_;have hk:=zQA h f b;unfold B4 at hk;refine VA hk ?_;rintro _ h2 ⟨rfl,e2⟩;refine gr ?_;exact⟨rfl,e2⟩
theorem zOq(h:WG):WC Tryz.prog tb 74 [.nilIface,zLO] h fun r h'=>r=.bool false/\h=h':=by
 refine en ?_;simp only[Gw,Qs];refine go ?_;refine Vf (v:= .bool false) (by kernel_rfl) ?_;refine gr ?_;exact⟨rfl,rfl⟩
noncomputable def zAg(T:List WK)(F:List Wk):Int:=open Classical in if yl T F≠0 then yl T F else if WfP T F then 0 else 120
theorem zK2(h:WG)(vt vf:Value)(T:List WK)(F:List Wk)(E:B3 h vt vf T F):
  WC Tryz.prog tb 32 [.agg #[vt,vf]] h fun r h'=>r=I (zAg T F)/\WL h h':=by
 unfold zAg;have hF:=E.sm.funcs;refine en ?_;refine VG ?_;intro p1 h1 e1 o1;replace o1:WI h h1 p1 [vt,vf]:=o1;have E1:=E.ext e1;refine go ?_;refine VA (zJ8 h1 vt vf T F E1.tt E1.hm E1.sm E1.st E1.sf) ?_;rintro _ h2 ⟨rfl,e2⟩;have o2:=o1.ext e2;have E2:=E1.ext e2;have sf2:=E2.sf;by_cases hp:yl T F=0;case neg=>
  rw[QG hp];refine gr ?_;exact⟨rfl,e1.trans e2⟩
 rw[QC (fun e=>e hp),hp];refine go ?_;refine VE (fun i=>F.length-i) (fun i t h'=>WL h2 h'/\zC t 14=I i/\i<=F.length/\Wt (∀ f:Int,0<=f->f<(i:Int)->zJB T F f)) 0 ?_ ?_
 ·exact⟨WL.refl _,WN,QU _,⟨fun f f0 f1=>by omega⟩⟩
 rintro i t h3 hsame ⟨e3,s14,hi,hI⟩;have o3:=o2.ext e3;have e03:=e1.trans (e2.trans e3);refine go ?_;refine VD (fun hb=> ?_) (fun hb=> ?_)<;>simp only[DB]at hb
 ·have hi':i<F.length:=by omega
  refine go ?_;refine VA (zFl h3 vt vf T F i (E2.ext e3) hp ⟨by omega,by omega⟩) ?_;rintro q h4 ⟨⟨rfl,hq⟩|⟨⟨b,rfl⟩,hq⟩,e4⟩
  ·refine go ?_;refine VR ?_;refine go ?_;refine VA (zOq h4) ?_;rintro _ _ ⟨rfl,rfl⟩;refine go ?_;refine zA (i+1) (by omega) ⟨e3.trans e4,BG,by omega,⟨fun f f0 f1=> ?_⟩⟩;by_cases hfi:f=i
   ·subst hfi;exact hq
   ·exact hI.out f f0 (by omega)
  ·refine go ?_;refine VR ?_;refine go ?_;refine VA (zPz h4 i b) ?_;rintro _ h5 ⟨rfl,e5⟩;refine gr ?_;refine⟨?_,e03.trans (e4.trans e5)⟩;rw[QC (fun w=>hq (w i (by omega) (by omega)))];rfl
 ·have hii:i=F.length:=by omega
  refine gr ?_;refine⟨?_,e03⟩;rw[QG (show WfP T F from fun f f0 f1=>hI.out f f0 (by omega))];rfl
theorem zEK{T:List WK}{F:List Wk}(h:zAg T F=0):yl T F=0/\WfP T F:=by
 unfold zAg at h;split at h
 ·rename_i hp;exact absurd h hp
 ·rename_i hp;split at h
  ·rename_i hw;exact⟨Classical.not_not.1 hp,hw⟩
  ·cases h
end Go.Proofs.YtmilpkdhbdgjfaaGreatDoor
set_option maxRecDepth 100000
namespace Go.Proofs.YtmilpkdhbdgjfaaGreatDoor
open Go.Am
structure Wi where
 kind:Int
 n:Int
 block:Int
 pos:Int
deriving Inhabited,DecidableEq
structure MEv where
 kind:Int
 n:Int
deriving Inhabited,DecidableEq
def W5(_:WG)(cs:List Value)(x:Wi):Prop:=cs=[.int .u8 x.kind,I x.n,I x.block,I x.pos]
def REv(_:WG)(cs:List Value)(x:MEv):Prop:=cs=[.int .u8 x.kind,I x.n]
abbrev BA(h:WG)(v:Value)(l:List Wi):Prop:=Wy 4 W5 h v l
abbrev SlE(h:WG)(v:Value)(l:List MEv):Prop:=Wy 2 REv h v l
theorem BA.ext{h h':WG}{v:Value}{l:List Wi}(s:BA h v l)(e:WL h h'):BA h' v l:=Wy.ext (h:=h) (h':=h') (fun cs a (r:W5 h cs a)=>(r:W5 h' cs a)) s e
theorem SlE.ext{h h':WG}{v:Value}{l:List MEv}(s:SlE h v l)(e:WL h h'):SlE h' v l:=Wy.ext (h:=h) (h':=h') (fun cs a (r:REv h cs a)=>(r:REv h' cs a)) s e
theorem zAu{α:Type}[Inhabited α]{A B:List α}(hl:A.length=B.length)(h:∀ i,i<A.length->A.getD i default=B.getD i default):A=B:=by
 refine List.ext_getElem hl fun i h1 h2=> ?_;have:=h i h1;rwa [QL,QL,QB h1,QB h2]at this
theorem zD2(x y:Wi):Zs [.int .u8 x.kind,I x.n,I x.block,I x.pos] [.int .u8 y.kind,I y.n,I y.block,I y.pos]=decide (x=y):=by
 by_cases h:x=y
 ·subst h;simp[Zs,zBW,I]
 ·rw[QM h];cases hb:Zs [.int .u8 x.kind,I x.n,I x.block,I x.pos] [.int .u8 y.kind,I y.n,I y.block,I y.pos]with
  |false=>rfl
  |true=>
   exfalso;simp[Zs,zBW,I]at hb;exact h (by cases x;cases y;simp_all)
theorem zQY(x y:MEv):Zs [.int .u8 x.kind,I x.n] [.int .u8 y.kind,I y.n]=decide (x=y):=by
 by_cases h:x=y
 ·subst h;simp[Zs,zBW,I]
 ·rw[QM h];cases hb:Zs [.int .u8 x.kind,I x.n] [.int .u8 y.kind,I y.n]with
  |false=>rfl
  |true=>
   exfalso;simp[Zs,zBW,I]at hb;exact h (by cases x;cases y;simp_all)
theorem zFR(h:WG)(va vb:Value)(A B:List Wi)(ka:BA h va A)(kb:BA h vb B)(la:(A.length:Int)<=9223372036854775807):WC Tryz.prog tb 67 [va,vb] h fun r h'=>r=.bool (decide (A=B))/\h=h':=by
 refine en ?_;by_cases hl:A.length=B.length;case neg=>
  refine gr ?_;exact⟨by rw[QM (fun e=>hl (by rw[e]))];rfl,rfl⟩
 refine go ?_;refine VE (fun i=>A.length-i) (fun i t h1=>h=h1/\zC t 13=I i/\i<=A.length/\Wt (∀ j,j<i->A.getD j default=B.getD j default)) 0 ?_ ?_
 ·exact⟨rfl,WN,QU _,⟨fun j hj=>absurd hj (Ql _)⟩⟩
 rintro i t _ hsame ⟨rfl,s13,hi,hI⟩;refine go ?_;refine VD (fun hb=> ?_) (fun hb=> ?_)<;>simp only[DB]at hb
 ·obtain⟨ca,rfl,pca,hsa⟩:=zd ka (show i<A.length by omega);obtain⟨cb,rfl,pcb,hsb⟩:=zd kb (show i<B.length by omega);have pca:=(pca _ (WL.refl _)).1;have pcb:=(pcb _ (WL.refl _)).1;refine go ?_;refine Vf (zGM (xs:=#[.int .u8 (A.getD i default).kind,I (A.getD i default).n,I (A.getD i default).block,I (A.getD i default).pos]) (ys:=#[.int .u8 (B.getD i default).kind,I (B.getD i default).n,I (B.getD i default).block,I (B.getD i default).pos]) (b:=decide (A.getD i default=B.getD i default)) (by kernel_rfl) (zD2 _ _)) ?_;refine go ?_;repeat' (first|(refine VD (fun hb=> ?_) (fun hb=> ?_)<;>(try simp only[DB]at hb)<;>refine go ?_)|(refine VH (fun hb=> ?_) (fun hb=> ?_)<;>(try simp only[DB]at hb)<;>refine go ?_))
  ·refine rt ?_;refine⟨?_,rfl⟩;rw[QM (fun e=>by subst e;exact hb rfl)];rfl
  ·refine zA (i+1) (by omega) ⟨rfl,BG,by omega,⟨fun j hj=> ?_⟩⟩;by_cases e:j=i
   ·subst e;exact hb
   ·exact hI.out j (by omega)
 ·refine gr ?_;exact⟨by rw[QS (zAu hl fun j hj=>hI.out j (by omega))];rfl,rfl⟩
theorem zKg(h:WG)(va vb:Value)(A B:List MEv)(ka:SlE h va A)(kb:SlE h vb B)(la:(A.length:Int)<=9223372036854775807):WC Tryz.prog tb 69 [va,vb] h fun r h'=>r=.bool (decide (A=B))/\h=h':=by
 refine en ?_;by_cases hl:A.length=B.length;case neg=>
  refine gr ?_;exact⟨by rw[QM (fun e=>hl (by rw[e]))];rfl,rfl⟩
 refine go ?_;refine VE (fun i=>A.length-i) (fun i t h1=>h=h1/\zC t 13=I i/\i<=A.length/\Wt (∀ j,j<i->A.getD j default=B.getD j default)) 0 ?_ ?_
 ·exact⟨rfl,WN,QU _,⟨fun j hj=>absurd hj (Ql _)⟩⟩
 rintro i t _ hsame ⟨rfl,s13,hi,hI⟩;refine go ?_;refine VD (fun hb=> ?_) (fun hb=> ?_)<;>simp only[DB]at hb
 ·obtain⟨ca,rfl,pca,hsa⟩:=zd ka (show i<A.length by omega);obtain⟨cb,rfl,pcb,hsb⟩:=zd kb (show i<B.length by omega);have pca:=(pca _ (WL.refl _)).1;have pcb:=(pcb _ (WL.refl _)).1;refine go ?_;refine Vf (zGM (xs:=#[.int .u8 (A.getD i default).kind,I (A.getD i default).n]) (ys:=#[.int .u8 (B.getD i default).kind,I (B.getD i default).n]) (b:=decide (A.getD i default=B.getD i default)) (by kernel_rfl) (zQY _ _)) ?_;refine go ?_;repeat' (first|(refine VD (fun hb=> ?_) (fun hb=> ?_)<;>(try simp only[DB]at hb)<;>refine go ?_)|(refine VH (fun hb=> ?_) (fun hb=> ?_)<;>(try simp only[DB]at hb)<;>refine go ?_))
  ·refine rt ?_;refine⟨?_,rfl⟩;rw[QM (fun e=>by subst e;exact hb rfl)];rfl
  ·refine zA (i+1) (by omega) ⟨rfl,BG,by omega,⟨fun j hj=> ?_⟩⟩;by_cases e:j=i
   ·subst e;exact hb
   ·exact hI.out j (by omega)
 ·refine gr ?_;exact⟨by rw[QS (zAu hl fun j hj=>hI.out j (by omega))];rfl,rfl⟩
theorem zLf(h:WG)(va vb:Value)(A B:List Int)(ka:Wd h va A)(kb:Wd h vb B)(la:(A.length:Int)<=9223372036854775807):WC Tryz.prog tb 68 [va,vb] h fun r h'=>r=.bool (decide (A=B))/\h=h':=by
 refine en ?_;by_cases hl:A.length=B.length;case neg=>
  refine gr ?_;exact⟨by rw[QM (fun e=>hl (by rw[e]))];rfl,rfl⟩
 refine go ?_;refine VE (fun i=>A.length-i) (fun i t h1=>h=h1/\zC t 13=I i/\i<=A.length/\Wt (∀ j,j<i->A.getD j 0=B.getD j 0)) 0 ?_ ?_
 ·exact⟨rfl,WN,QU _,⟨fun j hj=>absurd hj (Ql _)⟩⟩
 rintro i t _ hsame ⟨rfl,s13,hi,hI⟩;refine go ?_;refine VD (fun hb=> ?_) (fun hb=> ?_)<;>simp only[DB]at hb
 ·have hia:i<A.length:=by omega
  have hib:i<B.length:=by omega
  refine go ?_;refine VD (fun hb=> ?_) (fun hb=> ?_)<;>simp only[DB]at hb<;>refine go ?_
  ·refine rt ?_;refine⟨?_,rfl⟩;rw[QM (fun e=>by subst e;exact hb rfl)];rfl
  ·refine zA (i+1) (by omega) ⟨rfl,BG,by omega,⟨fun j hj=> ?_⟩⟩;by_cases e:j=i
   ·subst e;exact hb
   ·exact hI.out j (by omega)
 ·refine gr ?_;exact⟨by rw[QS (zAu hl fun j hj=>hI.out j (by omega))];rfl,rfl⟩
end Go.Proofs.YtmilpkdhbdgjfaaGreatDoor
set_option maxRecDepth 100000
namespace Go.Proofs.YtmilpkdhbdgjfaaGreatDoor
open Go.Am
structure BU where
 site:Int
 ty:Int
 depth:Int
 alive:Bool
 cells:List Wi
deriving Inhabited,DecidableEq
structure BT where
 fn:Int
 block:Int
 pos:Int
 regs:List Wi
 into:Int
deriving Inhabited,DecidableEq
def RMb(h:WG)(cs:List Value)(x:BU):Prop:=∃ v,cs=[I x.site,I x.ty,I x.depth,.bool x.alive,v]/\BA h v x.cells/\(x.cells.length:Int)<=9223372036854775807
def RMf(h:WG)(cs:List Value)(x:BT):Prop:=∃ v,cs=[I x.fn,I x.block,I x.pos,v,I x.into]/\BA h v x.regs/\(x.regs.length:Int)<=9223372036854775807
theorem RMb.ext{h h' cs x}(r:RMb h cs x)(e:WL h h'):RMb h' cs x:=let⟨v,a,b,c⟩:=r;⟨v,a,BA.ext b e,c⟩
theorem RMf.ext{h h' cs x}(r:RMf h cs x)(e:WL h h'):RMf h' cs x:=let⟨v,a,b,c⟩:=r;⟨v,a,BA.ext b e,c⟩
abbrev W7(h:WG)(v:Value)(l:List BU):Prop:=Wy 5 RMb h v l
abbrev BE(h:WG)(v:Value)(l:List BT):Prop:=Wy 5 RMf h v l
theorem W7.ext{h h' v l}(s:W7 h v l)(e:WL h h'):W7 h' v l:=Wy.ext (fun _ _ r=>RMb.ext r e) s e
theorem BE.ext{h h' v l}(s:BE h v l)(e:WL h h'):BE h' v l:=Wy.ext (fun _ _ r=>RMf.ext r e) s e
theorem zP0{a b:BU}(h1:a.site=b.site)(h2:a.ty=b.ty)(h3:a.depth=b.depth)(h4:a.alive=b.alive)(h5:a.cells=b.cells):a=b:=by cases a;cases b;cases h1;cases h2;cases h3;cases h4;cases h5;rfl
theorem zPf{a b:BT}(h1:a.fn=b.fn)(h2:a.block=b.block)(h3:a.pos=b.pos)(h4:a.regs=b.regs)(h5:a.into=b.into):a=b:=by cases a;cases b;cases h1;cases h2;cases h3;cases h4;cases h5;rfl
theorem zLu(h:WG)(ca cb:List Value)(a b:BU)(ra:RMb h ca a)(rb:RMb h cb b):WC Tryz.prog tb 102 [.agg ca.toArray,.agg cb.toArray] h fun r h'=>r=.bool (decide (a=b))/\WL h h':=by
 obtain⟨va,rfl,ka,la⟩:=ra;obtain⟨vb,rfl,kb,lb⟩:=rb;refine en ?_;refine VG ?_;intro p h1 e1 o1;refine go ?_;refine VG ?_;intro q h2 e2 o2;have o1:=o1.ext e2;have e12:=e1.trans e2;by_cases c1:a.site=b.site;case neg=>
  refine gr ?_;exact⟨by rw[QM (fun e=>c1 (by rw[e]))];rfl,e12⟩
 by_cases c2:a.ty=b.ty;case neg=>
  refine gr ?_;exact⟨by rw[QM (fun e=>c2 (by rw[e]))];rfl,e12⟩
 by_cases c3:a.depth=b.depth;case neg=>
  refine gr ?_;exact⟨by rw[QM (fun e=>c3 (by rw[e]))];rfl,e12⟩
 by_cases c4:a.alive=b.alive;case neg=>
  have c4b:(a.alive == b.alive)=false:=by simpa using c4
  refine gr ?_;exact⟨by rw[QM (fun e=>c4 (by rw[e]))];rfl,e12⟩
 have c4b:(a.alive == b.alive)=true:=by simpa using c4
 refine go ?_;refine VA (zFR h2 va vb a.cells b.cells (BA.ext ka e12) (BA.ext kb e12) la) ?_;rintro _ _ ⟨rfl,rfl⟩;refine gr ?_;refine⟨?_,e12⟩;by_cases c5:a.cells=b.cells
 ·rw[QS c5,QS (zP0 c1 c2 c3 c4 c5)];rfl
 ·rw[QM c5,QM (fun e=>c5 (by rw[e]))];rfl
theorem zMN(h:WG)(ca cb:List Value)(a b:BT)(ra:RMf h ca a)(rb:RMf h cb b):WC Tryz.prog tb 66 [.agg ca.toArray,.agg cb.toArray] h fun r h'=>r=.bool (decide (a=b))/\WL h h':=by
 obtain⟨va,rfl,ka,la⟩:=ra;obtain⟨vb,rfl,kb,lb⟩:=rb;refine en ?_;refine VG ?_;intro p h1 e1 o1;refine go ?_;refine VG ?_;intro q h2 e2 o2;have o1:=o1.ext e2;have e12:=e1.trans e2;by_cases c1:a.fn=b.fn;case neg=>
  refine gr ?_;exact⟨by rw[QM (fun e=>c1 (by rw[e]))];rfl,e12⟩
 by_cases c2:a.block=b.block;case neg=>
  refine gr ?_;exact⟨by rw[QM (fun e=>c2 (by rw[e]))];rfl,e12⟩
 by_cases c3:a.pos=b.pos;case neg=>
  refine gr ?_;exact⟨by rw[QM (fun e=>c3 (by rw[e]))];rfl,e12⟩
 by_cases c4:a.into=b.into;case neg=>
  refine gr ?_;exact⟨by rw[QM (fun e=>c4 (by rw[e]))];rfl,e12⟩
 refine go ?_;refine VA (zFR h2 va vb a.regs b.regs (BA.ext ka e12) (BA.ext kb e12) la) ?_;rintro _ _ ⟨rfl,rfl⟩;refine gr ?_;refine⟨?_,e12⟩;by_cases c5:a.regs=b.regs
 ·rw[QS c5,QS (zPf c1 c2 c3 c5 c4)];rfl
 ·rw[QM c5,QM (fun e=>c5 (by rw[e]))];rfl
end Go.Proofs.YtmilpkdhbdgjfaaGreatDoor
set_option maxRecDepth 100000
namespace Go.Proofs.YtmilpkdhbdgjfaaGreatDoor
open Go.Am
theorem Ze{h:WG}{v:Value}{l:List Wi}(s:BA h v l):∃ a n k,v=.slice a n k:=by
 obtain⟨_,c,_⟩:=s;exact Wv.shape c
theorem zOQ(h:WG)(xa xb:Value)(A B:List BU)(ka:W7 h xa A)(kb:W7 h xb B)(la:(A.length:Int)<=9223372036854775807):WC Tryz.prog tb 101 [xa,xb,.func (.func 102) #[] #[]] h fun r h'=>r=.bool (decide (A=B))/\WL h h':=by
 refine en ?_;by_cases hl:A.length=B.length;case neg=>
  refine gr ?_;exact⟨by rw[QM (fun e=>hl (by rw[e]))];rfl,WL.refl _⟩
 refine go ?_;refine VE (fun i=>A.length-i) (fun i t h1=>WL h h1/\zC t 17=I i/\i<=A.length/\Wt (∀ j,j<i->A.getD j default=B.getD j default)) 0 ?_ ?_
 ·exact⟨WL.refl _,WN,QU _,⟨fun j hj=>absurd hj (Ql _)⟩⟩
 rintro i t h1 hsame ⟨e1,s17,hi,hI⟩;have ka1:=W7.ext ka e1;have kb1:=W7.ext kb e1;refine go ?_;refine VD (fun hb=> ?_) (fun hb=> ?_)<;>simp only[DB]at hb
 ·obtain⟨ca,ra,pca,hsa⟩:=zd ka1 (show i<A.length by omega);obtain⟨cb,rb,pcb,hsb⟩:=zd kb1 (show i<B.length by omega);have ra0:=ra;have rb0:=rb;obtain⟨va,rfl,sa,na⟩:=ra0;obtain⟨vb,rfl,sb,nb⟩:=rb0;obtain⟨xa1,xa2,xa3,rfl⟩:=Ze sa;obtain⟨xb1,xb2,xb3,rfl⟩:=Ze sb;have pa1:=(pca _ (WL.refl _)).1;refine go ?_;refine VJ ?_;intro p2 h2 e2 o2;have pa2:=(pca _ e2).1;refine go ?_;refine VF (cs:=[I (A.getD i default).site,I (A.getD i default).ty,I (A.getD i default).depth,.bool (A.getD i default).alive,.slice xa1 xa2 xa3]) o2 e2 ?_;intro h3 e3 o3 u3;have kb3:=W7.ext kb1 e3;have pb3:=(pcb _ e3).1;refine go ?_;refine VJ ?_;intro p4 h4 e4 o4;have o34:=o3.ext e4;refine go ?_;refine VF (cs:=[I (B.getD i default).site,I (B.getD i default).ty,I (B.getD i default).depth,.bool (B.getD i default).alive,.slice xb1 xb2 xb3]) o4 e4 ?_;intro h5 e5 o5 u5;have o35:=o3.ext e5;have e15:=e3.trans e5;refine go ?_;refine VS (WV.func (zLu h5 _ _ (A.getD i default) (B.getD i default) (RMb.ext ra e15) (RMb.ext rb e15))) ?_;rintro _ h6 ⟨rfl,e6⟩;by_cases c:A.getD i default=B.getD i default
  ·rw[QS c];refine go ?_;refine zA (i+1) (by omega) ⟨e1.trans (e15.trans e6),BG,by omega,⟨fun j hj=> ?_⟩⟩;by_cases e:j=i
   ·subst e;exact c
   ·exact hI.out j (by omega)
  ·rw[QM c];refine gr ?_;refine⟨?_,e1.trans (e15.trans e6)⟩;rw[QM (fun e=>by subst e;exact c rfl)];rfl
 ·refine gr ?_;exact⟨by rw[QS (zAu hl fun j hj=>hI.out j (by omega))];rfl,e1⟩
theorem zPG(h:WG)(xa xb:Value)(A B:List BT)(ka:BE h xa A)(kb:BE h xb B)(la:(A.length:Int)<=9223372036854775807):WC Tryz.prog tb 71 [xa,xb,.func (.func 66) #[] #[]] h fun r h'=>r=.bool (decide (A=B))/\WL h h':=by
 refine en ?_;by_cases hl:A.length=B.length;case neg=>
  refine gr ?_;exact⟨by rw[QM (fun e=>hl (by rw[e]))];rfl,WL.refl _⟩
 refine go ?_;refine VE (fun i=>A.length-i) (fun i t h1=>WL h h1/\zC t 17=I i/\i<=A.length/\Wt (∀ j,j<i->A.getD j default=B.getD j default)) 0 ?_ ?_
 ·exact⟨WL.refl _,WN,QU _,⟨fun j hj=>absurd hj (Ql _)⟩⟩
 rintro i t h1 hsame ⟨e1,s17,hi,hI⟩;have ka1:=BE.ext ka e1;have kb1:=BE.ext kb e1;refine go ?_;refine VD (fun hb=> ?_) (fun hb=> ?_)<;>simp only[DB]at hb
 ·obtain⟨ca,ra,pca,hsa⟩:=zd ka1 (show i<A.length by omega);obtain⟨cb,rb,pcb,hsb⟩:=zd kb1 (show i<B.length by omega);have ra0:=ra;have rb0:=rb;obtain⟨va,rfl,sa,na⟩:=ra0;obtain⟨vb,rfl,sb,nb⟩:=rb0;obtain⟨xa1,xa2,xa3,rfl⟩:=Ze sa;obtain⟨xb1,xb2,xb3,rfl⟩:=Ze sb;have pa1:=(pca _ (WL.refl _)).1;refine go ?_;refine VJ ?_;intro p2 h2 e2 o2;have pa2:=(pca _ e2).1;refine go ?_;refine VF (cs:=[I (A.getD i default).fn,I (A.getD i default).block,I (A.getD i default).pos,.slice xa1 xa2 xa3,I (A.getD i default).into]) o2 e2 ?_;intro h3 e3 o3 u3;have kb3:=BE.ext kb1 e3;have pb3:=(pcb _ e3).1;refine go ?_;refine VJ ?_;intro p4 h4 e4 o4;have o34:=o3.ext e4;refine go ?_;refine VF (cs:=[I (B.getD i default).fn,I (B.getD i default).block,I (B.getD i default).pos,.slice xb1 xb2 xb3,I (B.getD i default).into]) o4 e4 ?_;intro h5 e5 o5 u5;have o35:=o3.ext e5;have e15:=e3.trans e5;refine go ?_;refine VS (WV.func (zMN h5 _ _ (A.getD i default) (B.getD i default) (RMf.ext ra e15) (RMf.ext rb e15))) ?_;rintro _ h6 ⟨rfl,e6⟩;by_cases c:A.getD i default=B.getD i default
  ·rw[QS c];refine go ?_;refine zA (i+1) (by omega) ⟨e1.trans (e15.trans e6),BG,by omega,⟨fun j hj=> ?_⟩⟩;by_cases e:j=i
   ·subst e;exact c
   ·exact hI.out j (by omega)
  ·rw[QM c];refine gr ?_;refine⟨?_,e1.trans (e15.trans e6)⟩;rw[QM (fun e=>by subst e;exact c rfl)];rfl
 ·refine gr ?_;exact⟨by rw[QS (zAu hl fun j hj=>hI.out j (by omega))];rfl,e1⟩
theorem zJY(h:WG)(xa xb:Value)(A B:List BU)(ka:W7 h xa A)(kb:W7 h xb B)(la:(A.length:Int)<=9223372036854775807):WC Tryz.prog tb 70 [xa,xb] h fun r h'=>r=.bool (decide (A=B))/\WL h h':=by
 refine en ?_;refine VA (zOQ h xa xb A B ka kb la) ?_;rintro _ h1 ⟨rfl,e1⟩;refine gr ?_;exact⟨rfl,e1⟩
end Go.Proofs.YtmilpkdhbdgjfaaGreatDoor
set_option maxRecDepth 100000
namespace Go.Proofs.YtmilpkdhbdgjfaaGreatDoor
open Go.Am
structure Wb where
 mem:List BU
 frs:List BT
 inn:List Int
 used:Int
 evs:List MEv
 steps:Int
 heaps:Int
 state:Int
 trap:Int
 exit:Int
deriving DecidableEq
def RMm(h:WG)(cs:List Value)(x:Wb):Prop:=∃ vm vf vi ve,cs=[vm,vf,vi,I x.used,ve,I x.steps,I x.heaps,.int .u8 x.state,I x.trap,I x.exit]/\W7 h vm x.mem/\BE h vf x.frs/\Wd h vi x.inn/\SlE h ve x.evs/\
 (x.mem.length:Int)<=9223372036854775807/\(x.frs.length:Int)<=9223372036854775807/\(x.inn.length:Int)<=9223372036854775807/\(x.evs.length:Int)<=9223372036854775807
theorem RMm.ext{h h' cs x}(r:RMm h cs x)(e:WL h h'):RMm h' cs x:=let⟨vm,vf,vi,ve,a,m,f,i,v,q⟩:=r;⟨vm,vf,vi,ve,a,W7.ext m e,BE.ext f e,Wd.ext i e,SlE.ext v e,q⟩
theorem zPg{a b:Wb}(h1:a.mem=b.mem)(h2:a.frs=b.frs)(h3:a.inn=b.inn)(h4:a.used=b.used)(h5:a.evs=b.evs)(h6:a.steps=b.steps)(h7:a.heaps=b.heaps)(h8:a.state=b.state)(h9:a.trap=b.trap)(h10:a.exit=b.exit):a=b:=by
 cases a;cases b;cases h1;cases h2;cases h3;cases h4;cases h5;cases h6;cases h7;cases h8;cases h9;cases h10;rfl
theorem zHn(h:WG)(ca cb:List Value)(a b:Wb)(ra:RMm h ca a)(rb:RMm h cb b):WC Tryz.prog tb 31 [.agg ca.toArray,.agg cb.toArray] h fun r h'=>r=.bool (decide (a=b))/\WL h h':=by
 obtain⟨am,af,ai,ae,rfl,kam,kaf,kai,kae,lam,laf,lai,lae⟩:=ra;obtain⟨bm,bf,bi,be,rfl,kbm,kbf,kbi,kbe,lbm,lbf,lbi,lbe⟩:=rb;refine en ?_;refine VG ?_;intro p h1 e1 o1;refine go ?_;refine VG ?_;intro q h2 e2 o2;have o1:=o1.ext e2;have e12:=e1.trans e2;by_cases c1:a.used=b.used;case neg=>
  refine gr ?_;exact⟨by rw[QM (fun e=>c1 (by rw[e]))];rfl,e12⟩
 by_cases c2:a.steps=b.steps;case neg=>
  refine gr ?_;exact⟨by rw[QM (fun e=>c2 (by rw[e]))];rfl,e12⟩
 by_cases c3:a.heaps=b.heaps;case neg=>
  refine gr ?_;exact⟨by rw[QM (fun e=>c3 (by rw[e]))];rfl,e12⟩
 by_cases c4:a.state=b.state;case neg=>
  refine gr ?_;exact⟨by rw[QM (fun e=>c4 (by rw[e]))];rfl,e12⟩
 by_cases c5:a.trap=b.trap;case neg=>
  refine gr ?_;exact⟨by rw[QM (fun e=>c5 (by rw[e]))];rfl,e12⟩
 by_cases c6:a.exit=b.exit;case neg=>
  refine gr ?_;exact⟨by rw[QM (fun e=>c6 (by rw[e]))];rfl,e12⟩
 refine go ?_;refine VA (zLf h2 ai bi a.inn b.inn (Wd.ext kai e12) (Wd.ext kbi e12) lai) ?_;rintro _ _ ⟨rfl,rfl⟩;by_cases ci:a.inn=b.inn;case neg=>
  rw[QM ci];refine gr ?_;exact⟨by rw[QM (fun e=>ci (by rw[e]))];rfl,e12⟩
 rw[QS ci];refine go ?_;refine VA (zKg h2 ae be a.evs b.evs (SlE.ext kae e12) (SlE.ext kbe e12) lae) ?_;rintro _ _ ⟨rfl,rfl⟩;by_cases cv:a.evs=b.evs;case neg=>
  rw[QM cv];refine gr ?_;exact⟨by rw[QM (fun e=>cv (by rw[e]))];rfl,e12⟩
 rw[QS cv];refine go ?_;refine VA (zJY h2 am bm a.mem b.mem (W7.ext kam e12) (W7.ext kbm e12) lam) ?_;rintro _ hcm ⟨rfl,ecm⟩;have o1:=o1.ext ecm;have o2:=o2.ext ecm;by_cases cm:a.mem=b.mem;case neg=>
  rw[QM cm];refine gr ?_;exact⟨by rw[QM (fun e=>cm (by rw[e]))];rfl,(e12.trans ecm)⟩
 rw[QS cm];refine go ?_;refine VA (zPG hcm af bf a.frs b.frs (BE.ext kaf (e12.trans ecm)) (BE.ext kbf (e12.trans ecm)) laf) ?_;rintro _ hcf ⟨rfl,ecf⟩;have o1:=o1.ext ecf;have o2:=o2.ext ecf;refine gr ?_;refine⟨?_,((e12.trans ecm).trans ecf)⟩;by_cases cf:a.frs=b.frs
 ·rw[QS cf,QS (zPg cm cf ci c1 cv c2 c3 c4 c5 c6)];rfl
 ·rw[QM cf,QM (fun e=>cf (by rw[e]))];rfl
end Go.Proofs.YtmilpkdhbdgjfaaGreatDoor
set_option maxRecDepth 100000
namespace Go.Proofs.YtmilpkdhbdgjfaaGreatDoor
open Go.Am
end Go.Proofs.YtmilpkdhbdgjfaaGreatDoor
set_option maxRecDepth 100000
namespace Go.Proofs.YtmilpkdhbdgjfaaGreatDoor
open Go.Am
end Go.Proofs.YtmilpkdhbdgjfaaGreatDoor
set_option maxRecDepth 100000
namespace Go.Proofs.YtmilpkdhbdgjfaaGreatDoor
open Go.Am
structure RawB where
 site:Int
 ty:Int
 depth:Int
 alive:Bool
 v:Value
deriving Inhabited
structure Br where
 fn:Int
 block:Int
 pos:Int
 v:Value
 into:Int
deriving Inhabited
def RRb(_:WG)(cs:List Value)(x:RawB):Prop:=cs=[I x.site,I x.ty,I x.depth,.bool x.alive,x.v]/\zH [x.v]=true
def B7(_:WG)(cs:List Value)(x:Br):Prop:=cs=[I x.fn,I x.block,I x.pos,x.v,I x.into]/\zH [x.v]=true
theorem Yy{α:Type}[Inhabited α]{l:List α}{i:Nat}{a:α}(h:l[i]?=some a):l.getD i default=a:=by rw[QL,h];rfl
theorem zKM{α β:Type}[Inhabited α][Inhabited β]{c:Nat}{A:WG->List Value->α->Prop}{B:WG->List Value->β->Prop}{h:WG}{v:Value}{l:List α}(s:Wy c A h v l){rel:β->α->Prop}(hr:∀ cs a,A h cs a->∃ x,B h cs x/\rel x a):
  ∃ xs,Wy c B h v xs/\xs.length=l.length/\∀ i,i<l.length->rel (xs.getD i default) (l.getD i default):=by
 obtain⟨cells,s1,s2⟩:=s;obtain⟨xs,x1,x2⟩:=zJl (p:=fun i x=>B h ((cells.drop (i*c)).take c) x/\rel x (l.getD i default)) l.length fun i hi=>by
  obtain⟨x,a,b⟩:=hr _ _ (s2 i l[i] (QB hi));exact⟨x,a,by rw[Yy (QB hi)];exact b⟩
 refine⟨xs,⟨cells,by rw[x1];exact s1,fun i x hx=>(x2 i x hx).1⟩,x1,fun i hi=> ?_⟩;have hx:xs[i]?=some xs[i]:=QB (by omega);rw[Yy hx];exact(x2 i _ hx).2
theorem zb{α:Type}{c:Nat}{R:WG->List Value->α->Prop}{h:WG}{v:Value}{T:List α}(s:Wy c R h v T):∃ a n k,v=.slice a n k:=let⟨_,a,_⟩:=s;a.shape
theorem zB7{α:Type}{c n k:Nat}{R:WG->List Value->α->Prop}{h:WG}{T:List α}(s:Wy c R h (.slice none n k) T):T=[]:=by
 obtain⟨cells,s1,_⟩:=s;rcases s1.2 with⟨h0,_⟩|⟨g,off,row,hv,_⟩
 ·exact GR.1 h0
 ·cases hv
theorem zIt{α:Type}[Inhabited α]{l:List α}{i:Nat}(h:i<l.length):l.take (i+1)=l.take i++[l.getD i default]:=by
 rw[GM,QB h,Yy (QB h)];rfl
theorem zDb{h0 h:WG}{p:Value}{cs:List Value}(o:WI h0 h p cs):∀ g,p=.pointer (some ⟨g,0,none⟩)->h0.n<=g/\g<h.n:=by
 obtain⟨g,a,b,rfl,_⟩:=o;intro g' e;cases e;exact⟨a,b⟩
theorem zHD{α:Type}{c b:Nat}{R:WG->List Value->α->Prop}{h:WG}{v:Value}{xs:List α}(o:WZ c R b h v xs){g n k:Nat}(e:v=.slice (some ⟨g,0,none⟩) n k):b<=g/\g<h.n:=by
 rcases o with⟨e2,_⟩|⟨g1,_,_,g2,g3,e2,_⟩
 ·rw[e2]at e;cases e
 ·rw[e2]at e;cases e;exact⟨g2,g3⟩
theorem Uf{h cs a}(r:RMb h cs a):∃ x,RRb h cs x/\(x.site=a.site/\x.ty=a.ty/\x.depth=a.depth/\x.alive=a.alive/\BA h x.v a.cells):=by
 obtain⟨v,rfl,s,hl⟩:=r;obtain⟨p,n,k,rfl⟩:=Ze s;exact⟨⟨a.site,a.ty,a.depth,a.alive,.slice p n k⟩,⟨rfl,rfl⟩,rfl,rfl,rfl,rfl,s⟩
theorem Uj{h cs a}(r:RMf h cs a):∃ x,B7 h cs x/\(x.fn=a.fn/\x.block=a.block/\x.pos=a.pos/\x.into=a.into/\BA h x.v a.regs):=by
 obtain⟨v,rfl,s,hl⟩:=r;obtain⟨p,n,k,rfl⟩:=Ze s;exact⟨⟨a.fn,a.block,a.pos,.slice p n k,a.into⟩,⟨rfl,rfl⟩,rfl,rfl,rfl,rfl,s⟩
theorem W5.one{h cs a}(r:W5 h cs a):zH cs=true:=by rw[show cs=_ from r];rfl
theorem REv.one{h cs a}(r:REv h cs a):zH cs=true:=by rw[show cs=_ from r];rfl
theorem zFr{a b:List Value}(h1:zH a=true)(h2:zH b=true):zH (a++b)=true:=by
 unfold zH at *;rw[Gu,h1,h2];rfl
theorem RRb.one{h cs a}(r:RRb h cs a):zH cs=true:=by rw[show cs=[I a.site,I a.ty,I a.depth,.bool a.alive]++[a.v]from r.1];exact zFr rfl r.2
theorem B7.one{h cs a}(r:B7 h cs a):zH cs=true:=by rw[show cs=[I a.fn,I a.block,I a.pos]++([a.v]++[I a.into])from r.1];exact zFr rfl (zFr r.2 rfl)
theorem zLj(h:WG)(v:Value)(l:List Wi)(s:BA h v l)(hl:l.length<=100000):WC Tryz.prog tb 65 [v] h fun r h'=>WZ 4 W5 h.n h' r l/\WL h h':=by
 refine en ?_;obtain⟨a,n,k,rfl⟩:=zb s;cases a with
 |none=>
  have hn:l=[]:=zB7 s;subst hn;refine go ?_;refine VD (fun hb=> ?_) (fun hb=> ?_)
  ·refine gr ?_;exact⟨WZ.nil,WL.refl _⟩
  ·exact absurd hb (by simp)
 |some a=>
  refine go ?_;refine VD (fun hb=> ?_) (fun hb=> ?_)
  ·exact absurd hb (by simp)
  ·refine go ?_;refine V6 W5 ?_;intro v1 h1 e1 o1;refine go ?_;refine Vo o1 (BA.ext s e1) (by decide) (fun cs a r hx _ _=>r) (fun cs a r=>r.one) e1 (QE _) e1.n hl ?_;intro v2 h2 e2 o2;refine gr ?_;exact⟨o2,e2⟩
theorem zLH(h:WG)(v:Value)(l:List MEv)(s:SlE h v l)(hl:l.length<=100000):WC Tryz.prog tb 63 [v] h fun r h'=>WZ 2 REv h.n h' r l/\WL h h':=by
 refine en ?_;obtain⟨a,n,k,rfl⟩:=zb s;cases a with
 |none=>
  have hn:l=[]:=zB7 s;subst hn;refine go ?_;refine VD (fun hb=> ?_) (fun hb=> ?_)
  ·refine gr ?_;exact⟨WZ.nil,WL.refl _⟩
  ·exact absurd hb (by simp)
 |some a=>
  refine go ?_;refine VD (fun hb=> ?_) (fun hb=> ?_)
  ·exact absurd hb (by simp)
  ·refine go ?_;refine V6 REv ?_;intro v1 h1 e1 o1;refine go ?_;refine Vo o1 (SlE.ext s e1) (by decide) (fun cs a r hx _ _=>r) (fun cs a r=>r.one) e1 (QE _) e1.n hl ?_;intro v2 h2 e2 o2;refine gr ?_;exact⟨o2,e2⟩
theorem zK0(h:WG)(v:Value)(l:List Br)(s:Wy 5 B7 h v l)(hl:l.length<=100000):WC Tryz.prog tb 64 [v] h fun r h'=>WZ 5 B7 h.n h' r l/\WL h h':=by
 refine en ?_;obtain⟨a,n,k,rfl⟩:=zb s;cases a with
 |none=>
  have hn:l=[]:=zB7 s;subst hn;refine go ?_;refine VD (fun hb=> ?_) (fun hb=> ?_)
  ·refine gr ?_;exact⟨WZ.nil,WL.refl _⟩
  ·exact absurd hb (by simp)
 |some a=>
  refine go ?_;refine VD (fun hb=> ?_) (fun hb=> ?_)
  ·exact absurd hb (by simp)
  ·refine go ?_;refine V6 B7 ?_;intro v1 h1 e1 o1;refine go ?_;refine Vo o1 (Wy.ext (h:=h) (h':=h1) (fun cs a (r:B7 h cs a)=>(r:B7 h1 cs a)) s e1) (by decide) (fun cs a r hx _ _=>r) (fun cs a r=>r.one) e1 (QE _) e1.n hl ?_;intro v2 h2 e2 o2;refine gr ?_;exact⟨o2,e2⟩
theorem zLE(h:WG)(v:Value)(l:List RawB)(s:Wy 5 RRb h v l)(hl:l.length<=100000):WC Tryz.prog tb 100 [v] h fun r h'=>WZ 5 RRb h.n h' r l/\WL h h':=by
 refine en ?_;obtain⟨a,n,k,rfl⟩:=zb s;cases a with
 |none=>
  have hn:l=[]:=zB7 s;subst hn;refine go ?_;refine VD (fun hb=> ?_) (fun hb=> ?_)
  ·refine gr ?_;exact⟨WZ.nil,WL.refl _⟩
  ·exact absurd hb (by simp)
 |some a=>
  refine go ?_;refine VD (fun hb=> ?_) (fun hb=> ?_)
  ·exact absurd hb (by simp)
  ·refine go ?_;refine V6 RRb ?_;intro v1 h1 e1 o1;refine go ?_;refine Vo o1 (Wy.ext (h:=h) (h':=h1) (fun cs a (r:RRb h cs a)=>(r:RRb h1 cs a)) s e1) (by decide) (fun cs a r hx _ _=>r) (fun cs a r=>r.one) e1 (QE _) e1.n hl ?_;intro v2 h2 e2 o2;refine gr ?_;exact⟨o2,e2⟩
theorem zE0(h:WG)(v:Value)(l:List Int)(s:Wd h v l)(hl:l.length<=100000):WC Tryz.prog tb 34 [v] h fun r h'=>Wc h h' r l/\WL h h':=by
 refine en ?_;obtain⟨a,n,k,rfl⟩:=Wv.shape s;cases a with
 |none=>
  have hn:l=[]:=by
   rcases s.2 with⟨h0,_⟩|⟨g,off,row,hv,_⟩
   ·exact GR.1 h0
   ·cases hv
  subst hn;refine go ?_;refine VD (fun hb=> ?_) (fun hb=> ?_)
  ·refine gr ?_;exact⟨.inl ⟨rfl,rfl⟩,WL.refl _⟩
  ·exact absurd hb (by simp)
 |some a=>
  refine go ?_;refine VD (fun hb=> ?_) (fun hb=> ?_)
  ·exact absurd hb (by simp)
  ·refine go ?_;refine WO.bl [] ?_;intro v1 h1 e1 o1;refine go ?_;refine Va (.inr o1) (Wd.ext s e1) e1 (by simp only[Gh];omega) ?_;intro v2 h2 e2 o2;refine gr ?_;exact⟨o2,e2⟩
end Go.Proofs.YtmilpkdhbdgjfaaGreatDoor
set_option maxRecDepth 100000
namespace Go.Proofs.YtmilpkdhbdgjfaaGreatDoor
open Go.Am
def zw(l:List BU):Nat:=(l.map fun b=>b.cells.length).sum
theorem zAn{l:List BU}{i:Nat}(h:i<l.length):zw (l.take (i+1))=zw (l.take i)+(l.getD i default).cells.length:=by
 rw[zIt h];simp[zw]
theorem zLd{l:List BU}{i:Nat}:zw (l.take i)<=zw l:=by
 have h:=GG i l;have:zw l=zw (l.take i)+zw (l.drop i):=by
  conv=>lhs;rw[<-h]
  simp only[zw,Ga,List.sum_append]
 omega
theorem zC5{l:List BU}(h:∀ i,i<l.length->(l.getD i default).cells.length<=1000):∀ i,i<=l.length->zw (l.take i)<=1000*i
 |0,_=>by simp[zw]
 |i+1,hi=>by
  have:=zC5 h i (by omega);have:=h i (by omega);rw[zAn (by omega)];omega
def BR(q:Nat)(row:List Value)(w:Value)(l:List Wi)(S:Nat):Prop:=
 ∃ off,off+l.length*4<=S/\S<=row.length/\w=.slice (some ⟨q,off,none⟩) l.length (if l.length=0 then 0 else 4)/\∀ i a,l[i]?=some a->(row.drop (off+i*4)).take 4=[.int .u8 a.kind,I a.n,I a.block,I a.pos]
theorem BR.sl{q:Nat}{row:List Value}{w:Value}{l:List Wi}{S:Nat}(r:BR q row w l S){hx:WG}(hq:hx.get q=some (.row row true 0))(hn:q<hx.n):BA hx w l:=by
 obtain⟨off,r1,r2,rfl,r4⟩:=r;by_cases h0:l.length=0
 ·have:l=[]:=GH h0;subst this;exact⟨[],⟨rfl,.inl ⟨rfl,.inr ⟨_,_,rfl⟩⟩⟩,fun i a h=>by simp at h⟩
 rw[QC h0];refine⟨(row.drop off).take (l.length*4),⟨by rw[Qq,Gk];omega,.inr ⟨q,off,row,rfl,ZP hq,yu (by omega),hn⟩⟩,fun i a h=> ?_⟩;have hi:=(QN.1 h).1;show _=_;rw[<-r4 i a h,List.drop_take,G5,GZ,GC (by omega)]
theorem BR.put{q:Nat}{row cs:List Value}{w:Value}{l:List Wi}{S o:Nat}(r:BR q row w l S)(ho:S<=o)(hl:o+cs.length<=row.length):BR q (zL row o cs) w l S:=by
 obtain⟨off,r1,r2,rfl,r4⟩:=r;refine⟨off,r1,by rw[Ye hl];exact r2,rfl,fun i a h=> ?_⟩;have hi:=(QN.1 h).1;rw[<-r4 i a h];refine Gy fun m=> ?_;rw[YF,YF];split
 ·rw[zAR hl,QG (by omega)]
 ·rfl
theorem XY{q:Nat}{row cs:List Value}{l:List Wi}{o:Nat}(hl:o+cs.length<=row.length)(hc:cs.length=l.length*4)(h:∀ i a,l[i]?=some a->(cs.drop (i*4)).take 4=[.int .u8 a.kind,I a.n,I a.block,I a.pos]):BR q (zL row o cs) (.slice (some ⟨q,o,none⟩) l.length (if l.length=0 then 0 else 4)) l (o+l.length*4):=by
 refine⟨o,QE _,by rw[Ye hl];omega,rfl,fun i a hi=> ?_⟩;have hi':=(QN.1 hi).1;rw[<-h i a hi];refine Gy fun m=> ?_;rw[YF,YF];split
 ·rw[zAR hl,QC (by omega),QG (by omega)];congr 1;omega
 ·rfl
theorem BR.mono{q:Nat}{row:List Value}{w:Value}{l:List Wi}{S S':Nat}(r:BR q row w l S)(h:S<=S')(h2:S'<=row.length):BR q row w l S':=by
 obtain⟨off,r1,r2,r3,r4⟩:=r;exact⟨off,by omega,h2,r3,r4⟩
theorem zBE{α:Type}{c:Nat}{R:WG->List Value->α->Prop}{h h':WG}{v:Value}{xs:List α}(s:Wy c R h v xs)(hR:∀ cs a,R h cs a->R h' cs a)(hg:∀ g,g<h.n->h'.get g=h.get g)(hn:h.n<=h'.n):Wy c R h' v xs:=by
 obtain⟨cells,⟨a,b⟩,s2⟩:=s;refine⟨cells,⟨a,b.imp id ?_⟩,fun i x h=>hR _ _ (s2 i x h)⟩;rintro⟨g,off,row,e1,e2,e3,e4⟩;exact⟨g,off,row,e1,by unfold zt at e2 |-;rw[hg g e4];exact e2,e3,QK e4 hn⟩
theorem yS{α:Type}[Inhabited α]{l:List α}{i j:Nat}{a:α}(h:i<l.length):(l.set i a).getD j default=if j=i then a else l.getD j default:=by
 rw[QL,QL];by_cases e:j=i
 ·subst e;rw[QG rfl,List.getElem?_set_self h];rfl
 ·rw[QC e,List.getElem?_set_ne (fun x=>e x.symm)]
def zQR(x:RawB)(b:BU):Prop:=x.site=b.site/\x.ty=b.ty/\x.depth=b.depth/\x.alive=b.alive
theorem zEX(h:WG)(v:Value)(L:List BU)(s:W7 h v L)(hm:h.mark<=h.n)(hL:L.length<=100)(hp:∀ i,i<L.length->(L.getD i default).cells.length<=1000):
  WC Tryz.prog tb 62 [v] h fun r h'=>WZ 5 RMb h.n h' r L/\WL h h':=by
 obtain⟨xs,sx,lx,rx⟩:=zKM (rel:=fun x a=>zQR x a/\BA h x.v a.cells/\(a.cells.length:Int)<=9223372036854775807) (B:=RRb) s (fun cs a r=>by
  obtain⟨x,r1,a1,a2,a3,a4,a5⟩:=Uf r;obtain⟨_,_,_,hl⟩:=r;exact⟨x,r1,⟨a1,a2,a3,a4⟩,a5,hl⟩)
 replace rx:=Wt.mk rx;have most:=Wt.mk (zC5 hp);have hNL:=most.out L.length (QE _);rw[Gf]at hNL;replace hp:=Wt.mk hp;have extR:∀ {h':WG},WL h h'->Wy 5 RRb h' v xs:=fun {h'} e=>Wy.ext (h:=h) (h':=h') (fun cs a (r:RRb h cs a)=>(r:RRb h' cs a)) sx e;refine en ?_;refine VE (fun i=>L.length-i) (fun i t h1=>WL h h1/\zC t 12=I i/\i<=L.length/\zC t 3=I (zw (L.take i))) 0 ?_ ?_
 ·exact⟨WL.refl _,WN,QU _,WN⟩
 ·rintro i t h1 hsame ⟨e1,s12,hi,s3⟩;have sx1:=extR e1;refine go ?_;refine VD (fun hc=> ?_) (fun hc=> ?_)<;>simp only[DB]at hc
  ·have hi':i<xs.length:=by omega
   obtain⟨cs,⟨rfl,hone⟩,pc,hs⟩:=zd sx1 hi';have pc:=(pc _ (WL.refl _)).1;obtain⟨rr,rv,rl⟩:=rx.out i (by omega);have hsucc:=zAn (l:=L) (i:=i) (by omega);have hcl:=hp.out i (by omega);have hmi:=most.out i (by omega);generalize xs.getD i default=x at *;generalize L.getD i default=b at *;obtain⟨x1,x2,x3,x4,xv⟩:=x;obtain⟨aa,an,ak,rfl⟩:∃ a n k,xv=.slice a n k:=Ze rv;have rv1:=BA.ext rv e1;refine go ?_;refine VJ ?_;intro p h2 e2 o2;refine go ?_;refine VF o2 e2 ?_;intro h3 e3 o3 u3;have rv3:=BA.ext rv1 e3;refine go ?_;refine zA (i+1) (by omega) ⟨e1.trans e3,BG,by omega,?_⟩;rw[hsucc,Int.natCast_add];exact WN
  ·have hii:i=L.length:=by omega
   subst hii;rw[Gf]at s3;refine go ?_;have hm1:h1.mark<=h.n:=by rw[e1.mark];exact hm
   refine VC 1 rfl rfl ?_;refine Wg ?_;refine VA (zLE _ v xs (zBE sx1 (fun cs a r=>r) (fun _ _=>rfl) (GO _)) (by omega)) ?_;rintro v6 X1 ⟨o6,eX⟩;refine nE eX ?_;refine Wg ?_;refine Xn (n:=zw L) (by have:=e1.n;omega) (by omega) ?_;intro X2 n2 g2;refine Wg ?_;have en:=eX.n;have en:h1.n+1<=X1.n:=en;have eg:∀ g,g<h1.n->X1.get g=h1.get g:=fun g hg=>eX.get g (Nat.lt_succ_of_lt hg);have ew:Wf h1->Wf X1:=fun w=>eX.wf fun g hg=>w g (Nat.le_of_succ_le hg);have o6:WZ 5 RRb (h1.n+1) (zx h1 (inC X2)) v6 xs:=WZ.upd o6 (fun k hk1 hk2=>(g2 k).trans (QC (by omega))) (Nat.le_of_eq n2.symm);have eA:WL h (zx h1 (inC X2)):=⟨by have:=e1.n;show h.n<=X2.n;omega,fun g hg=>((g2 g).trans (QC (by have:=e1.n;omega))).trans ((eg g (by have:=e1.n;omega)).trans (e1.get g hg)),fun w g hg=>by
    have hg:X2.n<=g:=hg;exact(g2 g).trans ((QC (by omega)).trans (ew (e1.wf w) g (by omega))),e1.mark,e1.wr⟩
   have gA:(zx h1 (inC X2)).get h1.n=some (.row (zS [.int .u8 0,I 0,I 0,I 0] (zw L)) true 0):=(g2 h1.n).trans (QG rfl);have nA:h1.n+1<=(zx h1 (inC X2)).n:=by show h1.n+1<=X2.n;omega
   have h1n:=e1.n;generalize zx h1 (inC X2)=hA at *;clear g2 n2 eX eg ew en sx1;generalize hQ:h1.n=q at *;obtain⟨oa,on,ok,rfl⟩:=zb o6.sl;have s6:=o6.sl;have rlen:(zS [.int .u8 0,I 0,I 0,I 0] (zw L)).length=zw L*4:=zn _ _;generalize zS [.int .u8 0,I 0,I 0,I 0] (zw L)=row0 at *;refine go ?_;refine VE (fun i=>L.length-i) (fun i t h2=>∃ row ys,WL h h2/\zC t 28=I i/\i<=L.length/\q+1<=h2.n/\WZ 5 RRb (q+1) h2 (.slice oa on ok) ys/\ys.length=L.length/\h2.get q=some (.row row true 0)/\row.length=zw L*4/\zC t 7=.slice (some ⟨q,zw (L.take i)*4,none⟩) (zw L-zw (L.take i)) 4/\
    Wt (∀ j,j<L.length->zQR (ys.getD j default) (L.getD j default))/\Wt (∀ j,i<=j->j<L.length->ys.getD j default=xs.getD j default)/\Wt (∀ j,j<i->BR q row (ys.getD j default).v (L.getD j default).cells (zw (L.take i)*4))) 0 ?_ ?_
   ·refine⟨row0,xs,eA,WN,QU _,nA,o6,lx,gA,rlen,?_,⟨fun j hj=>(rx.out j hj).1⟩,⟨fun j _ _=>rfl⟩,⟨fun j hj=>absurd hj (Ql _)⟩⟩;exact WN
   rintro i t2 h2 hsame2 ⟨row,ys,e2,s28,hi2,nq,oy,ly,gq,rl,s7,hrel,hold,hnew⟩;have sy:=oy.sl;refine go ?_;refine VD (fun hc2=> ?_) (fun hc2=> ?_)<;>simp only[DB]at hc2
   ·have hi':i<ys.length:=by omega
    have hiL:i<L.length:=by omega
    obtain⟨cs,⟨rfl,hone⟩,pc,hs⟩:=zd sy hi';have pc:=(pc _ (WL.refl _)).1;have hyi:ys.getD i default=xs.getD i default:=hold.out i (QE _) hiL;obtain⟨_,rv,rl'⟩:=rx.out i hiL;have rr:=hrel.out i hiL;rw[<-hyi]at rv;have hsucc:=zAn hiL;have hle:=zLd (l:=L) (i:=i+1);have rv2:=BA.ext rv e2;have hshape:∃ a n k,(ys.getD i default).v=.slice a n k:=Ze rv2;generalize hy:ys.getD i default=y at *;generalize hb:L.getD i default=b at *;obtain⟨y1,y2,y3,y4,yv⟩:=y;obtain⟨ya,yn,yk,hyv⟩:=hshape;have hyv:yv=.slice ya yn yk:=hyv;subst hyv;obtain⟨yc,sc,sr⟩:=id rv2;have hone2:zH yc=true:=zGU (by decide) sc.1 fun m hm'=>(sr m _ (QB hm')).one;have hycl:yc.length=b.cells.length*4:=sc.1;refine go ?_;refine Xh (off:=zw (L.take i)*4) (n:=zw L-zw (L.take i)) (k:=b.cells.length) gq sc (by decide) (by omega) (by omega) hone2 ?_;intro h3 n3 k3 g3 w3 m3 r3;have n3:h3.n=h2.n:=n3;have oy3:WZ 5 RRb (q+1) h3 (.slice oa on ok) ys:=WZ.upd oy (fun k hk1 hk2=>k3 k (by omega)) (Nat.le_of_eq n3.symm);have e3:WL h h3:=⟨by have:=e2.n;omega,fun g hg=>(k3 g (by omega)).trans (e2.get g hg),fun w=>w3 (e2.wf w),m3.trans e2.mark,fun hm'=>(r3 (by rw[e2.mark];omega)).trans (e2.wr hm')⟩;refine go ?_;refine VC 0 rfl rfl ?_;have oX:WZ 5 RRb (q+1) (zB 0 h3) (.slice oa on ok) ys:=WZ.upd oy3 (fun _ _ _=>rfl) (QE _);have sX:=WZ.sl oX;have sX:Wy 5 RRb (inC (zB 0 h3)) (.slice oa on ok) ys:=zBE sX (fun cs a r=>r) (fun _ _=>rfl) (QE _);refine Wg ?_;refine Ua (zH6 (c:=4) (g:=q) (off:=zw (L.take i)*4) (len:=zw L-zw (L.take i)) (n:=b.cells.length) (by omega)) ?_;refine nQ ?_;refine Wg ?_;refine Vi (zA0 (c:=4) (g:=q) (off:=zw (L.take i)*4) (len:=zw L-zw (L.take i)) (n:=b.cells.length) (by omega)) ?_;refine nQ ?_;refine Wg ?_;refine UR (i:=i) (off:=4) (cs:=[.slice (some ⟨q,zw (L.take i)*4,none⟩) b.cells.length (if b.cells.length=0 then 0 else 4)]) (ho:=by simp) ⟨y1,y2,y3,y4,.slice (some ⟨q,zw (L.take i)*4,none⟩) b.cells.length (if b.cells.length=0 then 0 else 4)⟩ oX (by have:=e3.mark;show h3.mark<=_;omega) hi' (fun old hx hr ho=>by
     rw[hy]at hr;obtain⟨rfl,_⟩:=hr;exact⟨rfl,rfl⟩) ?_
    intro X' nX kX oX' wX cl';refine Wg ?_;have nX:X'.n=h3.n:=nX;have hno:∀ g,g<=q->∀ n k',Value.slice oa on ok≠ .slice (some ⟨g,0,none⟩) n k':=fun g hg n k' e=>by have:=(zHD oy e).1;omega
    have eF:WL h (zx h3 (inC X')):=⟨by have:=e3.n;show h.n<=X'.n;omega,fun g hg=>(kX g (by show g<h3.n;have:=e3.n;omega) (hno g (by omega))).trans (e3.get g hg),fun w=>wX (fun g hg=>e3.wf w g hg),e3.mark,e3.wr⟩;have oF:WZ 5 RRb (q+1) (zx h3 (inC X')) (.slice oa on ok) (ys.set i ⟨y1,y2,y3,y4,.slice (some ⟨q,zw (L.take i)*4,none⟩) b.cells.length (if b.cells.length=0 then 0 else 4)⟩):=WZ.upd oX' (fun _ _ _=>rfl) (QE _);have gF:(zx h3 (inC X')).get q=some (.row (zL row (zw (L.take i)*4) yc) true 0):=(kX q (by show q<h3.n;omega) (hno q (QE _))).trans g3;have nF:q+1<=(zx h3 (inC X')).n:=by show q+1<=X'.n;omega
    have hset:=fun j=>yS (a:=(⟨y1,y2,y3,y4,.slice (some ⟨q,zw (L.take i)*4,none⟩) b.cells.length (if b.cells.length=0 then 0 else 4)⟩:RawB)) (j:=j) hi';have hput:zw (L.take i)*4+yc.length<=row.length:=by omega
    generalize zx h3 (inC X')=hF at *;refine zA (i+1) (by omega) ⟨_,_,eF,BG,by omega,nF,oF,by rw[Q7];exact ly,gF,by rw[Ye hput];exact rl,?_,⟨fun j hj=> ?_⟩,⟨fun j hj hj2=> ?_⟩,⟨fun j hj=> ?_⟩⟩
    ·rw[hsucc,Ge,<-Nat.sub_sub];exact WN
    ·rw[hset];by_cases e:j=i
     ·subst e;rw[QG rfl,hb];exact rr
     ·rw[QC e];exact hrel.out j hj
    ·rw[hset,QC (by omega)];exact hold.out j (by omega) hj2
    ·rw[hset,hsucc];by_cases e:j=i
     ·subst e;rw[QG rfl,hb,Ge];exact XY hput hycl sr
     ·rw[QC e];exact((hnew.out j (by omega)).put (QE _) hput).mono (by omega) (by rw[Ye hput];omega)
   ·have hii:i=L.length:=by omega
    subst hii;refine gr ?_;refine⟨?_,e2⟩;rcases oy with⟨e4,e5⟩|⟨g,cells,D,d1,d2,d3,d4,d5,d6,d7,d8⟩
    ·subst e5;have:L=[]:=GH ly.symm;subst this;exact .inl ⟨e4,rfl⟩
    ·refine .inr ⟨g,cells,fun k=>k=q,by omega,d2,by rw[<-ly];exact d3,d4,by rw[<-ly];exact d5,by omega,fun k hk=>by subst hk;omega,fun j a ha hx hk hn=> ?_⟩;have hj:=(QN.1 ha).1;have hR:=(d8 j _ (QB (show j<ys.length by omega))).self;have hR2:=hrel.out j hj;have hN:=hnew.out j hj;rw[Yy (QB (show j<ys.length by omega)),Yy ha]at hR2 hN;obtain⟨r1,r2,r3,r4⟩:=hR2;refine⟨_,by rw[hR.1,r1,r2,r3,r4],hN.sl (hk q _ rfl gq) (by omega),?_⟩;have:=(rx.out j hj).2.2;rwa [Yy ha]at this
end Go.Proofs.YtmilpkdhbdgjfaaGreatDoor
