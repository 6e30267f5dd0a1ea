/- A part of the machine and of its soundness; proves no statement. -/
import Derived.Test.YtndffgfnndoifaaGreatDoorAmD
set_option linter.all false
namespace Go.Am
noncomputable section
def yU{α:Type}(b:Bool)(x y:α):α:= @Bool.rec (fun _=>α) y x b
def yS{α:Type}(b:Bool)(x y:α):yU b x y=bif b then x else y:=by cases b<;>rfl
def WG.getF{α:Type}(t:WG α):Nat->Option α:=
 @WG.rec α (fun _=>Nat->Option α) (fun _=>none) (fun v _ _ gl gr k=> @Bool.rec (fun _=>Option α) (@Bool.rec (fun _=>Option α) (gr (Nat.pred (Nat.div k (nat_lit 2)))) (gl (Nat.div k (nat_lit 2))) (Nat.beq (Nat.mod k (nat_lit 2)) (nat_lit 1))) v (Nat.beq k (nat_lit 0))) t
def zIw{α:Type}:∀ (t:WG α) (k:Nat),t.getF k=t.get k
 | .leaf,_=>rfl
 | .node v l r,k=>by
  show yU (Nat.beq k 0) v (yU (Nat.beq (k % 2) 1) (l.getF (k / 2)) (r.getF (k / 2-1)))=_;rw[yS,yS,zIw l,zIw r];rfl
def zML{α:Type}(v:Option α)(f:Nat):Nat->WG α:=
 @Nat.rec (fun _=>Nat->WG α) (fun _=> .leaf) (fun _ p k=> @Bool.rec (fun _=>WG α) (@Bool.rec (fun _=>WG α) (.node none .leaf (p (Nat.pred (Nat.div k (nat_lit 2))))) (.node none (p (Nat.div k (nat_lit 2))) .leaf) (Nat.beq (Nat.mod k (nat_lit 2)) (nat_lit 1))) (.node v .leaf .leaf) (Nat.beq k (nat_lit 0))) f
def zGF{α:Type}(v:Option α):∀ (f k:Nat),zML v f k=WG.put v f k .leaf
 |0,_=>rfl
 |f+1,k=>by
  show yU (Nat.beq k 0) _ (yU (Nat.beq (k % 2) 1) (WG.node none (zML v f (k / 2)) .leaf) (.node none .leaf (zML v f (k / 2-1))))=_;rw[yS,yS,zGF v f,zGF v f];rfl
def WG.putF{α:Type}(v:Option α)(t:WG α):Nat->WG α:=
 @WG.rec α (fun _=>Nat->WG α) (fun k=>zML v (Nat.succ k) k)
  (fun u l r pl pr k=> @Bool.rec (fun _=>WG α) (@Bool.rec (fun _=>WG α) (.node u l (pr (Nat.pred (Nat.div k (nat_lit 2))))) (.node u (pl (Nat.div k (nat_lit 2))) r) (Nat.beq (Nat.mod k (nat_lit 2)) (nat_lit 1))) (.node v l r) (Nat.beq k (nat_lit 0))) t
def zBL{α:Type}(v:Option α):∀ (f g k:Nat) (t:WG α),k<f->k<g->WG.put v f k t=WG.put v g k t:=by
 intro f;induction f with
 |zero=>intro g k t h;omega
 |succ f ih=>
  intro g k t h1 h2;obtain⟨g,rfl⟩:∃ g',g=g'+1:=⟨g-1,ω⟩;have hb:∀ a b:Nat,Nat.beq a b=decide (a=b):=fun a b=>by rw[GX];simp
  cases t with
  |leaf=>
   simp only[WG.put,hb];by_cases hk:k=0
   ·simp[hk]
   ·simp only[hk,decide_false,QU];rw[ih g (k / 2) _ ω ω,ih g (k / 2-1) _ ω ω]
  |node u l r=>
   simp only[WG.put,hb];by_cases hk:k=0
   ·simp[hk]
   ·simp only[hk,decide_false,QU];rw[ih g (k / 2) _ ω ω,ih g (k / 2-1) _ ω ω]
def zE2{α:Type}(v:Option α):∀ (t:WG α) (k:Nat),t.putF v k=WG.put v (k+1) k t
 | .leaf,k=>zGF v (k+1) k
 | .node u l r,k=>by
  show yU (Nat.beq k 0) (WG.node v l r) (yU (Nat.beq (k % 2) 1) (.node u (l.putF v (k / 2)) r) (.node u l (r.putF v (k / 2-1))))=_;rw[yS,yS,zE2 v l,zE2 v r];have hb:∀ a b:Nat,Nat.beq a b=decide (a=b):=fun a b=>by rw[GX];simp
  simp only[WG.put,hb];by_cases hk:k=0
  ·simp[hk]
  ·simp only[hk,decide_false,QU];rw[zBL v (k / 2+1) k (k / 2) l ω ω,zBL v (k / 2-1+1) k (k / 2-1) r ω ω]
def zJx(k:Nat)(v:Value)(hk:¬k=0):(WG.leaf:WG Value).set k v=yU (Nat.beq (k % 2) 1) (.node none (WG.leaf.set (k / 2) v) .leaf) (.node none .leaf (WG.leaf.set (k / 2-1) v)):=by
 have h0:Nat.beq k 0=false:=by cases hb:Nat.beq k 0 with
  |false=>rfl
  |true=>exact absurd (QN hb) hk
 have e:(WG.leaf:WG Value).set k v=bif Nat.beq k 0 then WG.node (some v) .leaf .leaf else bif Nat.beq (k % 2) 1 then .node none (WG.put (some v) k (k / 2) .leaf) .leaf else .node none .leaf (WG.put (some v) k (k / 2-1) .leaf):=rfl;rw[e,h0,yS,QU,zBL _ k (k / 2+1) (k / 2) _ ω ω,zBL _ k (k / 2-1+1) (k / 2-1) _ ω ω];rfl
def zKg(k:Nat)(v:Value)(u:Option Value)(l r:WG Value)(hk:¬k=0):(WG.node u l r).set k v=yU (Nat.beq (k % 2) 1) (.node u (l.set (k / 2) v) r) (.node u l (r.set (k / 2-1) v)):=by
 have h0:Nat.beq k 0=false:=by cases hb:Nat.beq k 0 with
  |false=>rfl
  |true=>exact absurd (QN hb) hk
 have e:(WG.node u l r).set k v=bif Nat.beq k 0 then WG.node (some v) l r else bif Nat.beq (k % 2) 1 then .node u (WG.put (some v) k (k / 2) l) r else .node u l (WG.put (some v) k (k / 2-1) r):=rfl;rw[e,h0,yS,QU,zBL _ k (k / 2+1) (k / 2) _ ω ω,zBL _ k (k / 2-1+1) (k / 2-1) _ ω ω];rfl
structure CloG where
 get:WG Value->Option Value
 set:WG Value->Value->WG Value
def SL(f:Nat):Nat->CloG:=
 @Nat.rec (fun _=>Nat->CloG) (fun k=>⟨fun t=>t.get k,fun t v=>WG.put (some v) (k+1) k t⟩)
  (fun _ p k=> @Bool.rec (fun _=>CloG) (@Bool.rec (fun _=>CloG)
   ⟨fun t=>(p (Nat.pred (Nat.div k (nat_lit 2)))).get (@WG.rec Value (fun _=>WG Value) .leaf (fun _ _ r _ _=>r) t),fun t v=> @WG.rec Value (fun _=>WG Value) (.node none .leaf ((p (Nat.pred (Nat.div k (nat_lit 2)))).set .leaf v)) (fun u l r _ _=> .node u l ((p (Nat.pred (Nat.div k (nat_lit 2)))).set r v)) t⟩
   ⟨fun t=>(p (Nat.div k (nat_lit 2))).get (@WG.rec Value (fun _=>WG Value) .leaf (fun _ l _ _ _=>l) t),fun t v=> @WG.rec Value (fun _=>WG Value) (.node none ((p (Nat.div k (nat_lit 2))).set .leaf v) .leaf) (fun u l r _ _=> .node u ((p (Nat.div k (nat_lit 2))).set l v) r) t⟩
   (Nat.beq (Nat.mod k (nat_lit 2)) (nat_lit 1)))
   ⟨fun t=> @WG.rec Value (fun _=>Option Value) none (fun v _ _ _ _=>v) t,fun t v=> @WG.rec Value (fun _=>WG Value) (.node (some v) .leaf .leaf) (fun _ l r _ _=> .node (some v) l r) t⟩
   (Nat.beq k (nat_lit 0))) f
def zIg:∀ (f k:Nat),(∀ t,(SL f k).get t=t.get k)/\∀ t v,(SL f k).set t v=t.set k v:=by
 intro f;induction f with
 |zero=>intro k;exact⟨fun _=>rfl,fun _ _=>rfl⟩
 |succ f ih=>
  intro k;have hb:∀ a b:Nat,Nat.beq a b=decide (a=b):=fun a b=>by rw[GX];simp
  have step:SL (f+1) k=yU (Nat.beq k 0) ⟨fun t=> @WG.rec Value (fun _=>Option Value) none (fun v _ _ _ _=>v) t,fun t v=> @WG.rec Value (fun _=>WG Value) (.node (some v) .leaf .leaf) (fun _ l r _ _=> .node (some v) l r) t⟩
   (yU (Nat.beq (k % 2) 1) ⟨fun t=>(SL f (k / 2)).get (@WG.rec Value (fun _=>WG Value) .leaf (fun _ l _ _ _=>l) t),fun t v=> @WG.rec Value (fun _=>WG Value) (.node none ((SL f (k / 2)).set .leaf v) .leaf) (fun u l r _ _=> .node u ((SL f (k / 2)).set l v) r) t⟩
    ⟨fun t=>(SL f (k / 2-1)).get (@WG.rec Value (fun _=>WG Value) .leaf (fun _ _ r _ _=>r) t),fun t v=> @WG.rec Value (fun _=>WG Value) (.node none .leaf ((SL f (k / 2-1)).set .leaf v)) (fun u l r _ _=> .node u l ((SL f (k / 2-1)).set r v)) t⟩):=rfl
  rw[step];by_cases hk:k=0
  ·subst hk;exact⟨fun t=>by cases t<;>rfl,fun t v=>by cases t<;>rfl⟩
  ·have h0:Nat.beq k 0=false:=by rw[hb];simp[hk]
   rw[h0];by_cases ho:k % 2=1
   ·have h1:Nat.beq (k % 2) 1=true:=by rw[hb];simp[ho]
    rw[h1];refine⟨fun t=> ?_,fun t v=> ?_⟩
    ·show(SL f (k / 2)).get _=_;rw[(ih _).1];cases t with
     |leaf=>rfl
     |node u l r=>simp only[WG.get,h0,h1,cond_true,QU]
    ·cases t with
     |leaf=>
      show WG.node none ((SL f (k / 2)).set .leaf v) .leaf=_;rw[(ih _).2,zJx k v hk,h1];rfl
     |node u l r=>
      show WG.node u ((SL f (k / 2)).set l v) r=_;rw[(ih _).2,zKg k v u l r hk,h1];rfl
   ·have h1:Nat.beq (k % 2) 1=false:=by rw[hb];simp[ho]
    rw[h1];refine⟨fun t=> ?_,fun t v=> ?_⟩
    ·show(SL f (k / 2-1)).get _=_;rw[(ih _).1];cases t with
     |leaf=>rfl
     |node u l r=>simp only[WG.get,h0,h1,cond_true,QU]
    ·cases t with
     |leaf=>
      show WG.node none .leaf ((SL f (k / 2-1)).set .leaf v)=_;rw[(ih _).2,zJx k v hk,h1];rfl
     |node u l r=>
      show WG.node u l ((SL f (k / 2-1)).set r v)=_;rw[(ih _).2,zKg k v u l r hk,h1];rfl
structure CloE where
 ev:WG Value->Value
def zz(x:Operand):CloE:=
 match x with
 | .tmp k=>⟨fun t=> @Option.rec Value (fun _=>Value) undef (fun v=>v) ((SL 64 k).get t)⟩
 | .const v=>⟨fun _=>v⟩
 | .global g=>⟨fun _=> .pointer (some ⟨g,0,none⟩)⟩
 | .func f=>⟨fun _=> .func (.func f) #[] #[]⟩
def zw(x:Operand)(t:WG Value):(zz x).ev t=ev t x:=by
 cases x with
 |tmp k=>
  show @Option.rec Value (fun _=>Value) undef (fun v=>v) ((SL 64 k).get t)=(t.get k).getD undef;rw[(zIg 64 k).1];cases t.get k<;>rfl
 |_=>rfl
def zJA(h:WA)(g:Nat):Option Wp:=h.tab.getF g
def zGB(h:WA)(g:Nat):zJA h g=h.get g:=zIw _ _
def zEd(h:WA)(o:Wp):WA:=⟨Nat.succ h.n,h.tab.putF (some o) h.n,h.mark,h.wr⟩
def zGO(h:WA)(o:Wp):zEd h o=h.push o:=by unfold zEd WA.push WG.set;rw[zE2]
def zRF(h:WA)(g:Nat)(o:Wp):WA:=⟨h.n,h.tab.putF (some o) g,h.mark,h.log g⟩
def zQX(h:WA)(g:Nat)(o:Wp):zRF h g o=h.set g o:=by unfold zRF WA.set WG.set;rw[zE2]
abbrev R:=Option Value
def Z4(x:Option (Value×WA))(K:Value->WA->R):R:=x.bind fun p=>K p.1 p.2
structure ExK where
 exec:WT->WM->WA->(WL->WM->WA->R)->R
 call:FuncId->List Value->WA->(Value->WA->R)->R
structure Bt(e:Ex)(x:ExK):Prop where
 exec:∀ c fr h K,x.exec c fr h K=(e.exec c fr h).bind fun p=>K p.1 p.2.1 p.2.2
 call:∀ f args h K,x.call f args h K=Z4 (e.call f args h) K
def zIS(v:Value)(k:Addr->R):R:=match v with
 | .pointer (some a)=>k a
 |_=>none
def Z0{α:Type}(x:Option α)(k:α->R):R:= @Option.rec α (fun _=>R) none k x
def ZL{α:Type}(x:Option α)(k:α->R):Z0 x k=x.bind k:=by cases x<;>rfl
def zLE(h:WA)(g:Nat)(k:List Value->R):R:=Z0 (zJA h g) fun o=>match o with
 | .row cells _ _=>k cells
 |_=>none
def zMN(h:WA)(g:Nat)(k:List Value->R):zLE h g k=(z0 h g).bind k:=by
 unfold zLE z0;rw[ZL,zGB];cases h.get g with
 |none=>rfl
 |some o=>cases o<;>rfl
def zRk(v:Value)(k:IntKind->Int->R):R:=match v with
 | .int kk n=>k kk n
 |_=>none
def zUO(v:Value)(k:Nat->R):R:=match v with
 | .int _ (.ofNat n)=>k n
 |_=>none
def zSe(v:Value)(k:Nat->R):zUO v k=(BX v).bind k:=by
 cases v with
 |int kk n=>cases n<;>rfl
 |_=>rfl
def zEo(k:IntKind):Nat:= @IntKind.rec (fun _=>Nat) (nat_lit 0) (nat_lit 1) (nat_lit 2) (nat_lit 3) (nat_lit 4) (nat_lit 5) (nat_lit 6) (nat_lit 7) k
def zPg(k k':IntKind):Nat.beq (zEo k) (zEo k')=decide (k=k'):=by cases k<;>cases k'<;>rfl
def zDZ(k:IntKind)(n:Int):Int:=match n with
 | .ofNat m=>yU (Nat.ble m (nat_lit 127)) (.ofNat m) (yU (Nat.beq (zEo k) (nat_lit 3)) (yU (Nat.ble m (nat_lit 9223372036854775807)) (.ofNat m) (k.wrap (.ofNat m))) (k.wrap (.ofNat m)))
 |n=>k.wrap n
def zB5(k:IntKind)(n:Int):zDZ k n=k.wrap n:=by
 unfold zDZ;cases n with
 |negSucc m=>rfl
 |ofNat m=>
  simp only[yS];cases h1:Nat.ble m 127 with
  |true=>
   have:m<=127:=QP h1;simp only[cond_true];have e:(Int.ofNat m:Int)=(m:Int):=rfl;rw[e];cases k<;>simp[IntKind.wrap,IntKind.signed,IntKind.bits]<;>omega
  |false=>
   simp only[QU];cases h2:Nat.beq (zEo k) 3 with
   |false=>rfl
   |true=>
    simp only[cond_true];have hk:k=.i64:=by cases k<;>first|rfl|cases h2
    subst hk;cases h3:Nat.ble m 9223372036854775807 with
    |false=>rfl
    |true=>
     have:m<=9223372036854775807:=QP h3;simp only[cond_true];have e:(Int.ofNat m:Int)=(m:Int):=rfl;rw[e];simp[IntKind.wrap,IntKind.signed,IntKind.bits];omega
def ltF(a b:Int):Bool:=match a,b with
 | .ofNat m,.ofNat n=>Nat.ble (Nat.succ m) n
 | .negSucc _,.ofNat _=>true
 | .ofNat _,.negSucc _=>false
 | .negSucc m,.negSucc n=>Nat.ble (Nat.succ n) m
def zF6(a b:Int):ltF a b=decide (a<b):=by
 have hb:∀ a b:Nat,Nat.ble a b=decide (a<=b):=fun a b=>by rw[GX];simp
 have e1:∀ n:Nat,Int.ofNat n=(n:Int):=fun _=>rfl;have e2:∀ n:Nat,Int.negSucc n= -((n:Int)+1):=fun n=>by omega
 cases a<;>cases b<;>simp only[ltF,hb]<;>rw[GX]<;>simp only[Qc,Qy,true_iff,JW,e1,e2]<;>omega
def eqF(a b:Int):Bool:=match a,b with
 | .ofNat m,.ofNat n=>Nat.beq m n
 | .negSucc m,.negSucc n=>Nat.beq m n
 |_,_=>false
def zIZ(a b:Int):eqF a b=decide (a=b):=by
 have hb:∀ a b:Nat,Nat.beq a b=decide (a=b):=fun a b=>by rw[GX];simp
 have e1:∀ n:Nat,Int.ofNat n=(n:Int):=fun _=>rfl;have e2:∀ n:Nat,Int.negSucc n= -((n:Int)+1):=fun n=>by omega
 cases a<;>cases b<;>simp only[eqF,hb]<;>rw[GX]<;>simp only[Qc,Qy,true_iff,JW,e1,e2]<;>omega
def zGs(x y:Value)(k:IntKind->Int->Int->R):R:=zRk x fun kk a=>zRk y fun mf b=>yU (Nat.beq (zEo kk) (zEo mf)) (k kk a b) none
structure CloB where
 run:Value->Value->(Value->R)->R
def zTn(op:BinOp):CloB:=
 match op with
 | .add=>⟨fun x y k=>zGs x y fun kk a b=>k (.int kk (zDZ kk (Int.add a b)))⟩
 | .sub=>⟨fun x y k=>zGs x y fun kk a b=>k (.int kk (zDZ kk (Int.sub a b)))⟩
 | .eql=>⟨fun x y k=>zGs x y fun _ a b=>k (.bool (eqF a b))⟩
 | .neq=>⟨fun x y k=>zGs x y fun _ a b=>k (.bool (!eqF a b))⟩
 | .lss=>⟨fun x y k=>zGs x y fun _ a b=>k (.bool (ltF a b))⟩
 | .gtr=>⟨fun x y k=>zGs x y fun _ a b=>k (.bool (ltF b a))⟩
 | .leq=>⟨fun x y k=>zGs x y fun _ a b=>k (.bool (!ltF b a))⟩
 | .geq=>⟨fun x y k=>zGs x y fun _ a b=>k (.bool (!ltF a b))⟩
 |op=>⟨fun x y k=>Z0 (zj op x y) k⟩
def zRe(x y:Value)(k:IntKind->Int->Int->R):zGs x y k=match x,y with
  | .int kk a,.int mf b=>if kk=mf then k kk a b else none
  |_,_=>none:=by
 cases x with
 |int kk a=>
  cases y with
  |int mf b=>
   show yU (Nat.beq (zEo kk) (zEo mf)) (k kk a b) none=if kk=mf then k kk a b else none;rw[yS,zPg];by_cases e:kk=mf
   ·subst e;simp
   ·simp[e]
  |_=>rfl
 |_=>rfl
def zIn(a b:Int):(!ltF b a)=decide (a<=b):=by
 rw[zF6,GX];simp
def zRw(op:BinOp)(x y:Value)(k:Value->R):(zTn op).run x y k=(zj op x y).bind k:=by
 have two:∀ {f:IntKind->Int->Int->Value} {g:Option Value},(g=match x,y with
   | .int kk a,.int mf b=>if kk=mf then some (f kk a b)else none
   |_,_=>none)->(zGs x y fun kk a b=>k (f kk a b))=g.bind k:=by
  intro f g hg;rw[zRe,hg];split
  ·split<;>rfl
  ·rfl
 cases op with
 |add=>refine two (f:=fun kk a b=> .int kk (zDZ kk (Int.add a b))) ?_;cases x<;>cases y<;>first|rfl|(simp only[zj,zB5];done)|(simp only[zj,zB5];rfl)
 |sub=>refine two (f:=fun kk a b=> .int kk (zDZ kk (Int.sub a b))) ?_;cases x<;>cases y<;>first|rfl|(simp only[zj,zB5];done)|(simp only[zj,zB5];rfl)
 |eql=>refine two (f:=fun kk a b=> .bool (eqF a b)) ?_;cases x<;>cases y<;>first|rfl|(simp only[zj,zIZ];done)|(simp only[zj,zIZ];rfl)
 |neq=>refine two (f:=fun kk a b=> .bool (!eqF a b)) ?_;cases x<;>cases y<;>first|rfl|(simp only[zj,zIZ];done)|(simp only[zj,zIZ];rfl)
 |lss=>refine two (f:=fun kk a b=> .bool (ltF a b)) ?_;cases x<;>cases y<;>first|rfl|(simp only[zj,zF6];done)|(simp only[zj,zF6];rfl)
 |gtr=>refine two (f:=fun kk a b=> .bool (ltF b a)) ?_;cases x<;>cases y<;>first|rfl|(simp only[zj,zF6];done)|(simp only[zj,zF6];rfl)
 |leq=>refine two (f:=fun kk a b=> .bool (!ltF b a)) ?_;cases x<;>cases y<;>first|rfl|(simp only[zj,zIn];done)|(simp only[zj,zIn];rfl)
 |geq=>refine two (f:=fun kk a b=> .bool (!ltF a b)) ?_;cases x<;>cases y<;>first|rfl|(simp only[zj,zIn,ge_iff_le];done)|(simp only[zj,zIn,ge_iff_le];rfl)
 |_=>exact ZL _ _
def zOY(l:List Value):Nat->Option Value:=
 @List.rec Value (fun _=>Nat->Option Value) (fun _=>none) (fun v _ g n=> @Nat.rec (fun _=>Option Value) (some v) (fun m _=>g m) n) l
def zIl:∀ (l:List Value) (n:Nat),zOY l n=l[n]?
 |[],_=>rfl
 |v::l,0=>rfl
 |v::l,n+1=>by
  show zOY l n=_;rw[zIl l n];simp
def zQo(l:List Value)(n:Nat):(cut l n 1).bind (zI false)=l[n]?:=by
 unfold cut;cases hb:Nat.ble (n+1) l.length with
 |true=>
  have hn:n<l.length:=QP hb;have e:(l.drop n).take 1=[l[n]]:=by rw[GB hn];rfl
  rw[cond_true,QV,e,QB hn];rfl
 |false=>
  have hn:¬n<l.length:=fun e=>by
   have:Nat.ble (n+1) l.length=true:=QK e;rw[this]at hb;cases hb
  simp[hn]
def zHB(l:List Value):Nat->Option (List Value):=
 @List.rec Value (fun _=>Nat->Option (List Value)) (fun n=> @Nat.rec (fun _=>Option (List Value)) (some []) (fun _ _=>none) n)
  (fun v _ g n=> @Nat.rec (fun _=>Option (List Value)) (some []) (fun m _=> @Option.rec (List Value) (fun _=>Option (List Value)) none (fun r=>some (v::r)) (g m)) n) l
def zIi(l:List Value):Nat->Nat->Option (List Value):=
 @List.rec Value (fun _=>Nat->Nat->Option (List Value)) (fun off n=> @Nat.rec (fun _=>Option (List Value)) (zHB [] n) (fun _ _=>none) off)
  (fun v r g off n=> @Nat.rec (fun _=>Option (List Value)) (zHB (v::r) n) (fun m _=>g m n) off) l
def zFq:∀ (l:List Value) (n:Nat),zHB l n=bif Nat.ble n l.length then some (l.take n)else none
 |[],0=>rfl
 |[],n+1=>rfl
 |v::l,0=>rfl
 |v::l,n+1=>by
  show @Option.rec (List Value) (fun _=>Option (List Value)) none (fun r=>some (v::r)) (zHB l n)=_;rw[zFq l n];have:Nat.ble (n+1) (v::l).length=Nat.ble n l.length:=rfl;rw[this];cases Nat.ble n l.length<;>rfl
def zFH:∀ (l:List Value) (off n:Nat),zIi l off n=cut l off n
 |[],0,n=>by
  show zHB [] n=_;rw[zFq];unfold cut;rw[Q8];rfl
 |[],off+1,n=>by
  show none=cut [] (off+1) n;unfold cut;have:Nat.ble (off+1+n) ([]:List Value).length=false:=by
   rw[show off+1+n=(off+n)+1 by omega];rfl
  rw[this];rfl
 |v::l,0,n=>by
  show zHB (v::l) n=_;rw[zFq];unfold cut;rw[Q8];rfl
 |v::l,off+1,n=>by
  show zIi l off n=_;rw[zFH l off n];unfold cut;have:Nat.ble (off+1+n) (v::l).length=Nat.ble (off+n) l.length:=by
   rw[show off+1+n=(off+n)+1 by omega];rfl
  rw[this];rfl
def zHx(v:Value)(l:List Value):Nat->Option (List Value):=
 @List.rec Value (fun _=>Nat->Option (List Value)) (fun _=>none) (fun u r g n=> @Nat.rec (fun _=>Option (List Value)) (some (v::r)) (fun m _=> @Option.rec (List Value) (fun _=>Option (List Value)) none (fun r=>some (u::r)) (g m)) n) l
def zHM(v:Value):∀ (l:List Value) (n:Nat),zHx v l n=bif Nat.ble (n+1) l.length then some (zX l n [v])else none
 |[],n=>by
  have:Nat.ble (n+1) ([]:List Value).length=false:=rfl;rw[this];rfl
 |u::r,0=>rfl
 |u::r,n+1=>by
  show @Option.rec (List Value) (fun _=>Option (List Value)) none (fun r=>some (u::r)) (zHx v r n)=_;rw[zHM v r n];have:Nat.ble (n+1+1) (u::r).length=Nat.ble (n+1) r.length:=rfl;rw[this];cases Nat.ble (n+1) r.length<;>simp[zX]
structure CloV where
 run:ExK->WG Value->WA->(Value->WA->R)->R
def zEr(v:Value)(k:Bool->R):R:=match v with
 | .bool b=>k b
 |_=>none
def zDu(h:WA)(a:Addr)(v:Value)(K:WA->R):R:=
 yU a.spot.isNone (Z0 (zJA h a.block) fun o=>match o with
  | .row cells true lo=>yU (Nat.ble lo a.off) (match v with
   | .agg _=>none
   | .tuple _=>none
   |v=>Z0 (zHx v cells a.off) fun cells=>K (zRF h a.block (.row cells true lo))) none
  |_=>none) none
def zLY(h:WA)(a:Addr)(v:Value)(hv:v.cells.size=1)(hn:∀ cs,v≠ .agg cs)(K:WA->R):zDu h a v K=(zk h a v.cells.toList).bind K:=by
 have hc:v.cells.toList=[v]:=by cases v<;>first|rfl|exact absurd rfl (hn _)
 unfold zDu zk;rw[hc,yS,ZL,zGB];cases hs:a.spot.isNone with
 |false=>
  simp only[QU];split
  ·simp
  ·rfl
 |true=>
  simp only[cond_true];cases h.get a.block with
  |none=>rfl
  |some o=>
   cases o with
   |row cells own lo=>
    cases own with
    |false=>rfl
    |true=>
     show yU (Nat.ble lo a.off) _ none=_;rw[yS];have h1:∀ K':List Value->R,(Z0 (zHx v cells a.off) K')=(bif Nat.ble (a.off+1) cells.length then some (zX cells a.off [v])else none).bind K':=fun K'=>by rw[ZL,zHM]
     cases h2:Nat.ble lo a.off with
     |false=>simp[h2]
     |true=>
      simp only[h2,cond_true,Qq,Qb];cases v<;>first
       |(exact absurd rfl (hn _))
       |(simp only[h1,zQX];cases Nat.ble (a.off+1) cells.length<;>simp[zK])
   |_=>rfl
def zIO(x:ExK)(l:Nat)(r:W6)(args:List Value)(h:WA)(K:Value->WA->R):R:=
 x.exec r.assign ⟨zCE r.params args r.tm,[],some l⟩ h fun e fr h1=>match e with
  | .normal=>(match h1.get l with
   |some (.loop r1)=>
    bif (match r1.state with| .ready=>true|_=>false)then
     x.exec r.body fr (h1.set l (.loop {r1 with state:= .busy})) fun e gB h2=>match gB.dfs,h2.get l with
      |[],some (.loop r2)=>K (Zf l r2 h2 e).1 (Zf l r2 h2 e).2
      |_,_=>none
    else none
   |_=>none)
  |_=>none
def zIr(x:ExK)(f:Value)(args:List Value)(h:WA)(K:Value->WA->R):R:=
 match f with
 | .func (.func f) first cap=>x.call f (first.toList++(args++cap.toList)) h K
 | .func (.yield l) _ _=>
  match h.get l with
  |some (.loop r)=>bif Nat.beq args.length r.params.length then zIO x l r args h K else none
  |_=>none
 |_=>none
section
variable {P:Program}{e:Ex}{x:ExK}
def zNg(ok:Bt e x)(l:Nat)(r:W6)(args:List Value)(h:WA)(K:Value->WA->R):zIO x l r args h K=Z4 (zBd e l r args h) K:=by
 unfold zIO zBd Z4;rw[ok.exec];cases e.exec r.assign ⟨zCE r.params args r.tm,[],some l⟩ h with
 |none=>rfl
 |some p=>
  obtain⟨ex,fr,h1⟩:=p;simp only[QV];cases ex with
  |normal=>
   simp only;cases h1.get l with
   |none=>rfl
   |some o=>
    cases o with
    |loop r1=>
     simp only;cases aL:r1.state with
     |ready=>
      simp only[cond_true];rw[ok.exec];cases e.exec r.body fr (h1.set l (.loop {r1 with state:= .busy}))with
      |none=>rfl
      |some p=>
       obtain⟨e2,gB,h2⟩:=p;simp only[QV];cases gB.dfs with
       |nil=>
        cases h2.get l with
        |none=>rfl
        |some o=>cases o<;>rfl
       |cons d ds=>rfl
     |_=>rfl
    |_=>rfl
  |_=>rfl
def zHq(ok:Bt e x)(f:Value)(args:List Value)(h:WA)(K:Value->WA->R):zIr x f args h K=Z4 (zBO e f args h) K:=by
 cases f with
 |func fn first cap=>
  cases fn with
  |func f=>
   show x.call f (first.toList++(args++cap.toList)) h K=Z4 (e.call f (first.toList++args++cap.toList) h) K;rw[ok.call,Qd]
  |yield l=>
   show(match h.get l with
    |some (.loop r)=>bif Nat.beq args.length r.params.length then zIO x l r args h K else none
    |_=>none)=Z4 (match h.get l with
    |some (.loop r)=>bif Nat.beq args.length r.params.length then zBd e l r args h else none
    |_=>none) K
   cases h.get l with
   |none=>rfl
   |some o=>
    cases o with
    |loop r=>
     simp only;cases Nat.beq args.length r.params.length with
     |true=>exact zNg ok _ _ _ _ _
     |false=>rfl
    |_=>rfl
  |_=>rfl
 |_=>rfl
def zS2(P:Program)(op:Wz):CloV:=
 match op with
 | .mov a=>⟨fun _ t h K=>K ((zz a).ev t) h⟩
 | .pick c a b=>⟨fun _ t h K=>zEr ((zz c).ev t) fun q=>K (yU q ((zz a).ev t) ((zz b).ev t)) h⟩
 | .bin op a b=>⟨fun _ t h K=>(zTn op).run ((zz a).ev t) ((zz b).ev t) fun v=>K v h⟩
 | .load agg n a=>yU (Nat.beq n 1&& !agg)
   ⟨fun _ t h K=>zIS ((zz a).ev t) fun a=>yU a.spot.isNone (zLE h a.block fun cells=>Z0 (zOY cells a.off) fun v=>K v h) none⟩
   ⟨fun _ t h K=>zIS ((zz a).ev t) fun a=>yU a.spot.isNone (zLE h a.block fun cells=>Z0 (zIi cells a.off n) fun l=>Z0 (zI agg l) fun v=>K v h) none⟩
 | .store n a b=>⟨fun _ t h K=>zIS ((zz a).ev t) fun a=>yU (Nat.beq n 1) (match(zz b).ev t with
   | .agg cs=>bif Nat.beq cs.size n then(zk h a cs.toList).bind fun h=>K undef h else none
   |v=>zDu h a v fun h=>K undef h) (Z4 (bif Nat.beq ((zz b).ev t).cells.size n then(zk h a ((zz b).ev t).cells.toList).map (undef,·)else none) K)⟩
 | .idx c a i=>⟨fun _ t h K=>match(zz a).ev t with
   | .slice (some a) len k=>zUO ((zz i).ev t) fun i=>yU (Nat.ble (Nat.succ i) len) (yU (Nat.beq k c) (yU a.spot.isNone (K (.pointer (some ⟨a.block,Nat.add a.off (Nat.mul i c),none⟩)) h) none) none) none
   |_=>none⟩
 | .fld off a=>⟨fun _ t h K=>zIS ((zz a).ev t) fun a=>yU a.spot.isNone (K (.pointer (some ⟨a.block,Nat.add a.off off,none⟩)) h) none⟩
 | .len a=>⟨fun _ t h K=>match(zz a).ev t with
   | .slice _ n _=>K (.int .i64 (Int.ofNat n)) h
   |_=>none⟩
 | .nilCheck a=>⟨fun _ t h K=>Z0 (YS ((zz a).ev t)) fun v=>K v h⟩
 | .extract a i=>⟨fun _ t h K=>match(zz a).ev t with
   | .tuple vs=>Z0 (zOY vs.toList i) fun v=>K v h
   |_=>none⟩
 | .alloc zero=>⟨fun _ _ h K=>K (.pointer (some ⟨h.n,0,none⟩)) (zEd h (.row zero true 0))⟩
 | .box a=>⟨fun _ t h K=>K (.pointer (some ⟨h.n,0,none⟩)) (zEd h (.row ((zz a).ev t).cells.toList true 0))⟩
 | .call f args=>⟨fun x t h K=>zIr x ((zz f).ev t) (args.map fun a=>(zz a).ev t) h K⟩
 | .invoke a name args=>⟨fun x t h K=>match(zz a).ev t with
   | .iface ty v=>Z0 (zAF P ty name) fun f=>x.call f (v::args.map fun a=>(zz a).ev t) h K
   |_=>Z4 (WK P Ex.bot t h (.invoke a name args)) K⟩
 | .un op a=>⟨fun _ t h K=>Z0 (unV op ((zz a).ev t)) fun v=>K v h⟩
 | .isNil kind neg a=>⟨fun _ t h K=>Z0 (zE1 kind ((zz a).ev t)) fun b=>K (.bool (if neg then !b else b)) h⟩
 | .binB neg a b=>⟨fun _ t h K=>zEr ((zz a).ev t) fun x=>zEr ((zz b).ev t) fun y=>K (.bool (if neg then x != y else x == y)) h⟩
 | .conv k a=>⟨fun _ t h K=>zRk ((zz a).ev t) fun _ n=>K (.int k (zDZ k n)) h⟩
 | .build zero parts=>⟨fun _ t h K=>Z0 (ZE zero (parts.map fun(a,b,x)=>(a,b,(zz x).ev t))) fun cells=>K (.agg cells.toArray) h⟩
 | .buildSlice len c zero parts=>⟨fun _ t h K=>Z0 (ZE (zi zero len) (parts.map fun(a,b,x)=>(a,b,(zz x).ev t))) fun cells=>K (.slice (some ⟨h.n,0,none⟩) len c) (zEd h (.row cells true 0))⟩
 | .part agg off n a=>⟨fun _ t h K=>match(zz a).ev t with
   | .agg cs=>Z0 (zIi cs.toList off n) fun l=>Z0 (zI agg l) fun v=>K v h
   |_=>none⟩
 | .mkFunc fn first cap=>⟨fun _ t h K=>match fn with
   | .func f=>K (.func (.func f) (first.map fun a=>(zz a).ev t).toArray (cap.map fun a=>(zz a).ev t).toArray) h
   |_=>none⟩
 | .lenC n=>⟨fun _ _ h K=>K (.int .i64 (Int.ofNat n)) h⟩
 | .append c a b=>⟨fun _ t h K=>Z4 (yR c ((zz a).ev t) ((zz b).ev t) h) K⟩
 |op=>⟨fun _ t h K=>Z4 (WK P Ex.bot t h op) K⟩
def zHO(parts:List (Nat×Nat×Operand))(t:WG Value):(parts.map fun(a,b,x)=>(a,b,(zz x).ev t))=zr t parts:=by
 unfold zr;apply Gj;rintro⟨a,b,x⟩ _;show(a,b,(zz x).ev t)=(a,b,ev t x);rw[zw]
def zDl(args:List Operand)(t:WG Value):(args.map fun a=>(zz a).ev t)=args.map (ev t):=by
 apply Gj;intro a _;exact zw a t
def zRo(ok:Bt e x)(op:Wz)(t:WG Value)(h:WA)(K:Value->WA->R):(zS2 P op).run x t h K=Z4 (WK P e t h op) K:=by
 have CK:zAv op=true->Z4 (WK P Ex.bot t h op) K=Z4 (WK P e t h op) K:=fun hp=>by rw[zMe e hp]
 cases op with
 |mov a=>show K ((zz a).ev t) h=_;rw[zw];rfl
 |pick c a b=>
  show zEr ((zz c).ev t) (fun q=>K (yU q ((zz a).ev t) ((zz b).ev t)) h)=_;rw[zw,zw,zw];simp only[WK];cases ev t c with
  |bool q=>cases q<;>rfl
  |_=>rfl
 |bin op a b=>
  show(zTn op).run ((zz a).ev t) ((zz b).ev t) (fun v=>K v h)=_;rw[zw,zw,zRw];simp only[WK,Z4];cases zj op (ev t a) (ev t b)<;>rfl
 |load agg n a=>
  simp only[WK];cases hn:(Nat.beq n 1&& !agg)with
  |true=>
   rw[QI]at hn;obtain⟨h1,h2⟩:=hn;have h1:=QN h1;have h2:agg=false:=by cases agg<;>simp_all
   subst h1 h2;show zIS ((zz a).ev t) (fun a=>yU a.spot.isNone (zLE h a.block fun cells=>Z0 (zOY cells a.off) fun v=>K v h) none)=_;rw[zw];cases ev t a with
   |pointer p=>
    cases p with
    |none=>rfl
    |some ad=>
     dsimp only;show yU ad.spot.isNone _ none=_;rw[yS];cases ad.spot.isNone with
     |false=>rfl
     |true=>
      simp only[cond_true,zMN,Z4];cases z0 h ad.block with
      |none=>rfl
      |some cells=>
       simp only[QV,ZL,zIl,zQo];cases cells[ad.off]?<;>rfl
   |_=>rfl
  |false=>
   have:zS2 P (.load agg n a)=⟨fun _ t h K=>zIS ((zz a).ev t) fun a=>yU a.spot.isNone (zLE h a.block fun cells=>Z0 (zIi cells a.off n) fun l=>Z0 (zI agg l) fun v=>K v h) none⟩:=by
    show yU (Nat.beq n 1&& !agg) _ _=_;rw[hn];rfl
   rw[this];show zIS ((zz a).ev t) (fun a=>yU a.spot.isNone (zLE h a.block fun cells=>Z0 (zIi cells a.off n) fun l=>Z0 (zI agg l) fun v=>K v h) none)=_;rw[zw];cases ev t a with
   |pointer p=>
    cases p with
    |none=>rfl
    |some ad=>
     dsimp only;show yU ad.spot.isNone _ none=_;rw[yS];cases ad.spot.isNone with
     |false=>rfl
     |true=>
      simp only[cond_true,zMN,Z4];cases z0 h ad.block with
      |none=>rfl
      |some cells=>
       simp only[QV,ZL,zFH];cases cut cells ad.off n with
       |none=>rfl
       |some l=>simp only[QV];cases zI agg l<;>rfl
   |_=>rfl
 |store n a b=>
  show zIS ((zz a).ev t) (fun a=>yU (Nat.beq n 1) (match(zz b).ev t with
   | .agg cs=>bif Nat.beq cs.size n then(zk h a cs.toList).bind fun h=>K undef h else none
   |v=>zDu h a v fun h=>K undef h) (Z4 (bif Nat.beq ((zz b).ev t).cells.size n then(zk h a ((zz b).ev t).cells.toList).map (undef,·)else none) K))=_
  rw[zw,zw];simp only[WK];cases ev t a with
  |pointer p=>
   cases p with
   |none=>rfl
   |some ad=>
    show yU (Nat.beq n 1) _ _=_;rw[yS];cases hn:Nat.beq n 1 with
    |false=>rfl
    |true=>
     have:=QN hn;subst this;simp only[cond_true];have plain:∀ v:Value,v.cells.size=1->(∀ cs,v≠ .agg cs)->(zDu h ad v fun h=>K undef h)=Z4 (bif Nat.beq v.cells.size 1 then(zk h ad v.cells.toList).map (undef,·)else none) K:=fun v h1 h2=>by
      have h3:Nat.beq v.cells.size 1=true:=by rw[h1];rfl
      rw[zLY h ad v h1 h2,h3,cond_true,Z4];cases zk h ad v.cells.toList<;>rfl
     cases ev t b with
     |agg cs=>
      simp only[Value.cells];cases Nat.beq cs.size 1 with
      |false=>rfl
      |true=>simp only[cond_true,Z4];cases zk h ad cs.toList<;>rfl
     |_=>exact plain _ rfl (fun cs=>by simp)
  |_=>rfl
 |idx c a i=>
  show(match(zz a).ev t with
   | .slice (some a) len k=>zUO ((zz i).ev t) fun i=>yU (Nat.ble (Nat.succ i) len) (yU (Nat.beq k c) (yU a.spot.isNone (K (.pointer (some ⟨a.block,Nat.add a.off (Nat.mul i c),none⟩)) h) none) none) none
   |_=>none)=_
  rw[zw,zw];simp only[WK];cases ev t a with
  |slice p len k=>
   cases p with
   |none=>rfl
   |some ad=>
    simp only[zSe];cases BX (ev t i)with
    |none=>rfl
    |some j=>
     simp only[QV,yS];have hs:Nat.ble (Nat.succ j) len=Nat.ble (j+1) len:=rfl;rw[hs];cases Nat.ble (j+1) len<;>cases Nat.beq k c<;>cases ad.spot.isNone<;>rfl
  |_=>rfl
 |fld off a=>
  show zIS ((zz a).ev t) (fun a=>yU a.spot.isNone (K (.pointer (some ⟨a.block,Nat.add a.off off,none⟩)) h) none)=_;rw[zw];simp only[WK];cases ev t a with
  |pointer p=>
   cases p with
   |none=>rfl
   |some ad=>dsimp only;show yU ad.spot.isNone _ none=_;rw[yS];cases ad.spot.isNone<;>rfl
  |_=>rfl
 |len a=>
  show(match(zz a).ev t with
   | .slice _ n _=>K (.int .i64 (Int.ofNat n)) h
   |_=>none)=_
  rw[zw];simp only[WK];cases ev t a<;>rfl
 |nilCheck a=>
  show Z0 (YS ((zz a).ev t)) (fun v=>K v h)=_;rw[zw,ZL];simp only[WK,Z4];cases YS (ev t a)<;>rfl
 |extract a i=>
  show(match(zz a).ev t with
   | .tuple vs=>Z0 (zOY vs.toList i) fun v=>K v h
   |_=>none)=_
  rw[zw];simp only[WK];cases ev t a with
  |tuple vs=>
   simp only[ZL,zIl,Array.getElem?_toList];cases vs[i]?<;>rfl
  |_=>rfl
 |alloc zero=>show K _ (zEd h _)=_;rw[zGO];rfl
 |box a=>show K _ (zEd h (.row ((zz a).ev t).cells.toList true 0))=_;rw[zGO,zw];rfl
 |call f args=>
  show zIr x ((zz f).ev t) (args.map fun a=>(zz a).ev t) h K=_;rw[zDl,zw,zHq ok];rfl
 |invoke a name args=>
  show(match(zz a).ev t with
   | .iface ty v=>Z0 (zAF P ty name) fun f=>x.call f (v::args.map fun a=>(zz a).ev t) h K
   |_=>Z4 (WK P Ex.bot t h (.invoke a name args)) K)=_
  rw[zw,zDl];simp only[WK];cases hv:ev t a with
  |iface ty v=>
   simp only[zAu,ZL];cases zAF P ty name with
   |none=>rfl
   |some f=>simp only[QV];exact ok.call _ _ _ _
  |_=>rfl
 |un op a=>
  show Z0 (unV op ((zz a).ev t)) (fun v=>K v h)=_;rw[zw,ZL];simp only[WK,Z4];cases unV op (ev t a)<;>rfl
 |isNil kind neg a=>
  show Z0 (zE1 kind ((zz a).ev t)) (fun b=>K (.bool (if neg then !b else b)) h)=_;rw[zw,ZL];simp only[WK,Z4];cases zE1 kind (ev t a)<;>rfl
 |binB neg a b=>
  show zEr ((zz a).ev t) (fun x=>zEr ((zz b).ev t) fun y=>K (.bool (if neg then x != y else x == y)) h)=_;rw[zw,zw];simp only[WK];cases ev t a with
  |bool x=>cases ev t b<;>rfl
  |_=>rfl
 |conv k a=>
  show zRk ((zz a).ev t) (fun _ n=>K (.int k (zDZ k n)) h)=_;rw[zw];simp only[WK];cases ev t a with
  |int kk n=>show K (.int k (zDZ k n)) h=_;rw[zB5];rfl
  |_=>rfl
 |build zero parts=>
  show Z0 (ZE zero (parts.map fun(a,b,x)=>(a,b,(zz x).ev t))) (fun cells=>K (.agg cells.toArray) h)=_;rw[zHO,ZL];simp only[WK,Z4];cases ZE zero (zr t parts)<;>rfl
 |buildSlice len c zero parts=>
  show Z0 (ZE (zi zero len) (parts.map fun(a,b,x)=>(a,b,(zz x).ev t))) (fun cells=>K (.slice (some ⟨h.n,0,none⟩) len c) (zEd h (.row cells true 0)))=_;rw[zHO,ZL];simp only[WK,Z4,zGO];cases ZE (zi zero len) (zr t parts)<;>rfl
 |part agg off n a=>
  show(match(zz a).ev t with
   | .agg cs=>Z0 (zIi cs.toList off n) fun l=>Z0 (zI agg l) fun v=>K v h
   |_=>none)=_
  rw[zw];simp only[WK];cases ev t a with
  |agg cs=>
   simp only[zFH,ZL];cases cut cs.toList off n with
   |none=>rfl
   |some l=>simp only[QV];cases zI agg l<;>rfl
  |_=>rfl
 |mkFunc fn first cap=>
  show(match fn with
   | .func f=>K (.func (.func f) (first.map fun a=>(zz a).ev t).toArray (cap.map fun a=>(zz a).ev t).toArray) h
   |_=>none)=_
  rw[zDl,zDl];simp only[WK];cases fn<;>rfl
 |append c a b=>
  show Z4 (yR c ((zz a).ev t) ((zz b).ev t) h) K=_;rw[zw,zw];rfl
 |dfr f args=>rfl
 |dfrClear _ _ _ _=>rfl
 |recover=>rfl
 |_=>first|rfl|(show Z4 (WK P Ex.bot t h _) K=_;exact CK rfl)
end
abbrev FrK:=WM->WA->R
def frK(x:Option (WM×WA))(K:FrK):R:=x.bind fun p=>K p.1 p.2
structure CloO where
 run:ExK->WM->WA->FrK->R
structure CloD where
 set:WG Value->Value->WG Value
def zJ7(d:Option Nat):CloD:=
 match d with
 |some d=>⟨(SL 64 d).set⟩
 |none=>⟨fun t _=>t⟩
def zMi(d:Option Nat)(fr:WM)(v:Value):(⟨(zJ7 d).set fr.tm v,fr.dfs,fr.round⟩:WM)=val d fr v:=by
 cases d with
 |none=>rfl
 |some d=>show(⟨(SL 64 d).set fr.tm v,fr.dfs,fr.round⟩:WM)=_;rw[(zIg 64 d).2];rfl
def zQW:Wz->Bool
 | .dfr .. | .dfrClear .. | .recover=>true
 |_=>false
def zOA(P:Program)(op:Wz)(d:Option Nat):CloO:=
 yU (zQW op) ⟨fun _ fr h K=>(zy P Ex.bot fr.tm fr.round h op).bind fun p=>K (val d {fr with dfs:=p.2.1++fr.dfs} p.1) p.2.2⟩
  ⟨fun x fr h K=>(zS2 P op).run x fr.tm h fun v h=>K ⟨(zJ7 d).set fr.tm v,fr.dfs,fr.round⟩ h⟩
def zOc(P:Program)(o:WE):CloO:=
 match o.guard with
 |none=>zOA P o.op o.dst
 |some (j,want)=>⟨fun x fr h K=>match(zz (.tmp j)).ev fr.tm with
  | .bool b=>yU (b == want) ((zOA P o.op o.dst).run x fr h K) (K ⟨(zJ7 o.dst).set fr.tm undef,fr.dfs,fr.round⟩ h)
  |_=>K ⟨(zJ7 o.dst).set fr.tm undef,fr.dfs,fr.round⟩ h⟩
section
variable {P:Program}{e:Ex}{x:ExK}
def zRf(ok:Bt e x)(op:Wz)(d:Option Nat)(fr:WM)(h:WA)(K:FrK):
  (zOA P op d).run x fr h K=(zy P e fr.tm fr.round h op).bind fun p=>K (val d {fr with dfs:=p.2.1++fr.dfs} p.1) p.2.2:=by
 unfold zOA;cases hd:zQW op with
 |true=>
  show(zy P Ex.bot fr.tm fr.round h op).bind _=_;have:zy P Ex.bot fr.tm fr.round h op=zy P e fr.tm fr.round h op:=by cases op<;>first|(cases hd;done)|rfl
  rw[this]
 |false=>
  show(zS2 P op).run x fr.tm h (fun v h=>K ⟨(zJ7 d).set fr.tm v,fr.dfs,fr.round⟩ h)=_;rw[zRo ok];have e1:zy P e fr.tm fr.round h op=match WK P e fr.tm h op with
   |some (v,h)=>some (v,[],h)
   |none=>none:=by cases op<;>first|(cases hd;done)|rfl
  rw[e1];cases WK P e fr.tm h op with
  |none=>rfl
  |some q=>
   obtain⟨v,h⟩:=q;show K ⟨(zJ7 d).set fr.tm v,fr.dfs,fr.round⟩ h=K (val d {fr with dfs:=[]++fr.dfs} v) h;rw[zMi];rfl
def zMf(ok:Bt e x)(o:WE)(fr:WM)(h:WA)(K:FrK):(zOc P o).run x fr h K=frK (yO P e o fr h) K:=by
 obtain⟨d,g,op⟩:=o;have plain:(zOA P op d).run x fr h K=frK (match zy P e fr.tm fr.round h op with
  |some (v,ds,h)=>some (val d {fr with dfs:=ds++fr.dfs} v,h)
  |none=>none) K:=by
  rw[zRf ok];cases zy P e fr.tm fr.round h op<;>rfl
 cases g with
 |none=>exact plain
 |some g=>
  obtain⟨j,want⟩:=g;have e0:(zOc P ⟨d,some (j,want),op⟩).run x fr h K=(match(zz (.tmp j)).ev fr.tm with
   | .bool b=>yU (b == want) ((zOA P op d).run x fr h K) (K ⟨(zJ7 d).set fr.tm undef,fr.dfs,fr.round⟩ h)
   |_=>K ⟨(zJ7 d).set fr.tm undef,fr.dfs,fr.round⟩ h):=rfl
  have e1:yO P e ⟨d,some (j,want),op⟩ fr h=bif (match zC fr.tm j with| .bool b=>b == want|_=>false)then(match zy P e fr.tm fr.round h op with
   |some (v,ds,h)=>some (val d {fr with dfs:=ds++fr.dfs} v,h)
   |none=>none)else some (val d fr undef,h):=rfl
  rw[e0,e1,plain,zw,zMi];have e2:ev fr.tm (.tmp j)=zC fr.tm j:=rfl;rw[e2];cases zC fr.tm j with
  |bool b=>
   dsimp only;rw[yS];cases(b == want)<;>rfl
  |_=>rfl
def zM4(P:Program)(l:List WE):CloO:=
 @List.rec WE (fun _=>CloO) ⟨fun _ fr h K=>K fr h⟩ (fun o _ k=>⟨fun x fr h K=>(zOc P o).run x fr h fun fr h=>k.run x fr h K⟩) l
def zJb(ok:Bt e x):∀ (l:List WE) (fr:WM) (h:WA) (K:FrK),(zM4 P l).run x fr h K=frK (yd P e l fr h) K
 |[],_,_,_=>rfl
 |o::l,fr,h,K=>by
  show(zOc P o).run x fr h (fun fr h=>(zM4 P l).run x fr h K)=_;rw[zMf ok];simp only[yd,frK];cases yO P e o fr h with
  |none=>rfl
  |some q=>exact zJb ok l q.1 q.2 K
structure CloC where
 run:ExK->Nat->WM->WA->FrK->R
def zRZ(P:Program)(o:WE):CloC:=
 yU (Nat.beq (zE o.op) 3) ⟨fun _ g fr h K=>frK (yC P Ex.bot g o fr h) K⟩ ⟨fun x _ fr h K=>(zOc P o).run x fr h K⟩
def zSN(ok:Bt e x)(o:WE)(g:Nat)(fr:WM)(h:WA)(K:FrK):(zRZ P o).run x g fr h K=frK (yC P e g o fr h) K:=by
 unfold zRZ;cases hk:Nat.beq (zE o.op) 3 with
 |true=>
  show frK (yC P Ex.bot g o fr h) K=_;unfold yC;simp only[hk,cond_true]
 |false=>
  show(zOc P o).run x fr h K=_;rw[zMf ok];unfold yC;simp only[hk,QU]
abbrev RsT:=List (Nat×Nat×Option (Nat×Nat×List Value))
structure CloR where
 run:ExK->Nat->Nat->List (Nat×Nat)->RsT->List (Nat×Nat)->WM->WA->(WM->WA->List (Nat×Nat)->R)->R
def okC(o:WE)(un:List Nat)(ws:List (Nat×Nat))(rs:RsT)(bs:List (Nat×Nat))(t:WG Value)(h':WA):Bool:=
 (match zc t o with
  |some g=>(ws.all fun(j,g')=> !(Nat.beq g g'&&un.contains j))&&bs.all fun(j,n)=> !un.contains j||Nat.ble (g+1) n
  |none=>true)&&rs.all fun(j,g,vw)=> !(un.contains j&&h'.wr.contains g)||zCi h' g vw
def okF(o:WE)(un:List Nat)(ws:List (Nat×Nat))(rs:RsT)(bs:List (Nat×Nat))(t:WG Value)(h':WA):Bool:=
 match un with
 |[]=>true
 |un=>okC o un ws rs bs t h'
def zTx(o:WE)(un:List Nat)(ws:List (Nat×Nat))(rs:RsT)(bs:List (Nat×Nat))(t:WG Value)(h':WA):okF o un ws rs bs t h'=okC o un ws rs bs t h':=by
 cases un with
 |cons a l=>rfl
 |nil=>
  unfold okF okC;cases zc t o<;>simp
def zSm(P:Program)(l:List (WE×List Nat)):CloR:=
 @List.rec (WE×List Nat) (fun _=>CloR) ⟨fun _ _ _ ws _ _ fr h K=>K fr h ws⟩
  (fun o _ k=>⟨fun x i g ws rs bs fr h K=>(zRZ P o.1).run x g fr ⟨h.n,h.tab,h.n,[]⟩ fun ae h'=>
   yU (okF o.1 o.2 ws rs bs fr.tm h') (k.run x (Nat.succ i) (yU (Nat.beq (zE o.1.op) 3) (Nat.succ g) g) (h'.wr.map (fun g=>(i,g))++ws) (match zc fr.tm o.1 with
     |some g=>(i,g,Y6 fr.tm h o.1.op)::rs
     |none=>rs) ((i,h.n)::bs) ae h' K) none⟩) l
def zMA(ok:Bt e x):∀ (l:List (WE×List Nat)) (i g:Nat) (ws:List (Nat×Nat)) (rs:RsT) (bs:List (Nat×Nat)) (fr:WM) (h:WA) (K:WM->WA->List (Nat×Nat)->R),
  (zSm P l).run x i g ws rs bs fr h K=(yD P e l i g ws rs bs fr h).bind fun p=>K p.1 p.2.1 p.2.2
 |[],_,_,_,_,_,_,_,_=>rfl
 |(o,un)::l,i,g,ws,rs,bs,fr,h,K=>by
  show(zRZ P o).run x g fr ⟨h.n,h.tab,h.n,[]⟩ (fun ae h'=>
   yU (okF o un ws rs bs fr.tm h') ((zSm P l).run x (Nat.succ i) (yU (Nat.beq (zE o.op) 3) (Nat.succ g) g) (h'.wr.map (fun g=>(i,g))++ws) (match zc fr.tm o with
     |some g=>(i,g,Y6 fr.tm h o.op)::rs
     |none=>rs) ((i,h.n)::bs) ae h' K) none)=_
  rw[zSN ok,yD];show frK (yC P e g o fr {h with mark:=h.n,wr:=[]}) _=_;cases yC P e g o fr {h with mark:=h.n,wr:=[]} with
  |none=>rfl
  |some q=>
   obtain⟨ae,h'⟩:=q;show yU (okF o un ws rs bs fr.tm h') _ none=(bif okC o un ws rs bs fr.tm h' then _ else none).bind _;rw[zTx,yS];cases okC o un ws rs bs fr.tm h' with
   |false=>rfl
   |true=>simp only[cond_true];rw[zMA ok l,yS];rfl
structure CloX where
 run:ExK->WM->WA->(WL->WM->WA->R)->R
def zUD(l:List (WE×List Nat)):Nat:=(l.filter fun x=>Nat.beq (zE x.1.op) 3).length
def zII(x:ExK)(b:WT)(n:Nat):WT->WM->WA->(WL->WM->WA->R)->R:=
 @Nat.rec (fun _=>WT->WM->WA->(WL->WM->WA->R)->R) (fun _ _ _ _=>none) (fun _ k c fr h K=>x.exec c fr h fun e fr h=>match e with
  | .goto l=>(match yG b l with
   |some rest=>k rest fr h K
   |none=>K (.goto l) fr h)
  |e=>K e fr h) n
def exK(x:Option (WL×WM×WA))(K:WL->WM->WA->R):R:=x.bind fun p=>K p.1 p.2.1 p.2.2
def zGy(ok:Bt e x)(b:WT):∀ (n:Nat) (c:WT) (fr:WM) (h:WA) (K:WL->WM->WA->R),zII x b n c fr h K=exK (Z5 e n b c fr h) K
 |0,_,_,_,_=>rfl
 |n+1,c,fr,h,K=>by
  show x.exec c fr h (fun e fr h=>match e with
   | .goto l=>(match yG b l with
    |some rest=>zII x b n rest fr h K
    |none=>K (.goto l) fr h)
   |e=>K e fr h)=_
  rw[ok.exec];simp only[Z5];cases e.exec c fr h with
  |none=>rfl
  |some p=>
   obtain⟨ex,a6,h1⟩:=p;cases ex with
   |goto l=>
    simp only[QV];cases yG b l with
    |none=>rfl
    |some rest=>exact zGy ok b n rest a6 h1 K
   |_=>rfl
def zE3(x:ExK)(f:Value)(params:List Nat)(assign body:WT)(fr:WM)(d:Nat)(mark:List Deferred)(h:WA)(K:WL->WM->WA->R):R:=
 zIr x f [.func (.yield h.n) #[] #[]] (h.push (.loop {state:= .ready,pending:=none,fn:=0,tm:=fr.tm,params,assign,body,defers:=d})) fun _ h2=>
  match h2.get h.n with
  |some (.loop r)=>
   match r.state with
   | .busy=>none
   |_=>match r.pending with
    |none=>K .normal {fr with dfs:=mark++fr.dfs} (h2.set h.n (.loop {r with state:= .exhausted}))
    |some .ret=>K .ret {fr with dfs:=mark++fr.dfs} (h2.set h.n (.loop {r with state:= .exhausted}))
    |some (.exit id)=>K (.exit id) {fr with dfs:=mark++fr.dfs} (h2.set h.n (.loop {r with state:= .exhausted}))
    |some (.goto g)=>K (.goto g) {fr with dfs:=mark++fr.dfs} (h2.set h.n (.loop {r with state:= .exhausted}))
    |some _=>none
  |_=>none
def zFe(ok:Bt e x)(f:Value)(params:List Nat)(assign body:WT)(fr:WM)(d:Nat)(mark:List Deferred)(h:WA)(K:WL->WM->WA->R):
  zE3 x f params assign body fr d mark h K=exK (zAl e f params assign body fr d mark h) K:=by
 unfold zE3 zAl;rw[zHq ok];cases zBO e f [.func (.yield h.n) #[] #[]] (h.push (.loop {state:= .ready,pending:=none,fn:=0,tm:=fr.tm,params,assign,body,defers:=d}))with
 |none=>rfl
 |some p=>
  obtain⟨v,h2⟩:=p;simp only[Z4,QV];cases h2.get h.n with
  |none=>rfl
  |some o=>
   cases o with
   |loop r=>
    simp only;cases r.state<;>(simp only;try rfl)<;>(cases r.pending with
     |none=>rfl
     |some c=>cases c<;>rfl)
   |_=>rfl
def zIv(x:ExK)(f:Value)(params:List Nat)(assign body:WT)(fr:WM)(h:WA)(K:WL->WM->WA->R):R:=
 match fr.round with
 |none=>zE3 x f params assign body fr h.n [{target:= .collected h.n,args:=#[]}] (h.push (.deferred (some []))) K
 |some l=>match h.get l with
  |some (.loop r)=>zE3 x f params assign body fr r.defers [] h K
  |_=>none
def zNe(ok:Bt e x)(f:Value)(params:List Nat)(assign body:WT)(fr:WM)(h:WA)(K:WL->WM->WA->R):zIv x f params assign body fr h K=exK (zBa e f params assign body fr h) K:=by
 unfold zIv zBa;cases fr.round with
 |none=>exact zFe ok _ _ _ _ _ _ _ _ _
 |some l=>
  simp only;cases h.get l with
  |none=>rfl
  |some o=>
   cases o with
   |loop r=>exact zFe ok _ _ _ _ _ _ _ _ _
   |_=>rfl
def zTY(P:Program)(c:WT):CloX:=
 match c with
 | .skip=>⟨fun _ fr h K=>K .normal fr h⟩
 | .label _=>⟨fun _ fr h K=>K .normal fr h⟩
 | .region ops=>⟨fun x fr h K=>(zM4 P ops).run x fr h fun fr h=>K .normal fr h⟩
 | .regionC ops=>⟨fun x fr h K=>(zSm P ops).run x 0 h.n [] [] [] fr ⟨Nat.add h.n (zUD ops),h.tab,h.mark,h.wr⟩ fun ae h' ws=>K .normal ae ⟨h'.n,h'.tab,h.mark,((ws.map (·.2)).filter fun g=> !Nat.ble h.mark g)++h.wr⟩⟩
 | .seq a b=>⟨fun x fr h K=>x.exec a fr h fun e fr h=>match e with
  | .normal=>x.exec b fr h K
  |e=>K e fr h⟩
 | .cond c a b=>⟨fun x fr h K=>zEr ((zz c).ev fr.tm) fun q=>yU q (x.exec a fr h K) (x.exec b fr h K)⟩
 | .block id b=>⟨fun x fr h K=>x.exec b fr h fun e fr h=>match e with
  | .exit eI=>yU (Nat.beq eI id) (K .normal fr h) (K (.exit eI) fr h)
  |e=>K e fr h⟩
 | .loop b=>⟨fun x fr h K=>x.exec b fr h fun e fr h=>match e with
  | .normal=>x.exec (.loop b) fr h K
  |e=>K e fr h⟩
 | .exit id=>⟨fun _ fr h K=>K (.exit id) fr h⟩
 | .goto l=>⟨fun _ fr h K=>K (.goto l) fr h⟩
 | .ret=>⟨fun _ fr h K=>K .ret fr h⟩
 | .scope b=>⟨fun x fr h K=>zII x b zG3 b fr h K⟩
 | .rangeFunc f params assign body=>⟨fun x fr h K=>zIv x ((zz f).ev fr.tm) params assign body fr h K⟩
def zRn(ok:Bt e x)(c:WT)(fr:WM)(h:WA)(K:WL->WM->WA->R):(zTY P c).run x fr h K=exK (zo P e c fr h) K:=by
 cases c with
 |region ops=>
  show(zM4 P ops).run x fr h (fun fr h=>K .normal fr h)=_;rw[zJb ok];simp only[zo,frK,exK];cases yd P e ops fr h<;>rfl
 |regionC ops=>
  show(zSm P ops).run x 0 h.n [] [] [] fr ⟨Nat.add h.n (zUD ops),h.tab,h.mark,h.wr⟩ (fun ae h' ws=>K .normal ae ⟨h'.n,h'.tab,h.mark,((ws.map (·.2)).filter fun g=> !Nat.ble h.mark g)++h.wr⟩)=_;rw[zMA ok];simp only[zo,exK,YZ];have:(⟨Nat.add h.n (zUD ops),h.tab,h.mark,h.wr⟩:WA)={h with n:=h.n+(ops.filter fun x=>Nat.beq (zE x.1.op) 3).length}:=rfl;rw[this];cases yD P e ops 0 h.n [] [] [] fr {h with n:=h.n+(ops.filter fun x=>Nat.beq (zE x.1.op) 3).length}<;>rfl
 |seq a b=>
  show x.exec a fr h (fun e fr h=>match e with
   | .normal=>x.exec b fr h K
   |e=>K e fr h)=_
  rw[ok.exec];simp only[zo,exK];cases e.exec a fr h with
  |none=>rfl
  |some p=>
   obtain⟨ex,a6,h1⟩:=p;cases ex with
   |normal=>exact ok.exec _ _ _ _
   |_=>rfl
 |cond c a b=>
  show zEr ((zz c).ev fr.tm) (fun q=>yU q (x.exec a fr h K) (x.exec b fr h K))=_;rw[zw];simp only[zo,exK];cases ev fr.tm c with
  |bool q=>cases q<;>exact ok.exec _ _ _ _
  |_=>rfl
 |block id b=>
  show x.exec b fr h (fun e fr h=>match e with
   | .exit eI=>yU (Nat.beq eI id) (K .normal fr h) (K (.exit eI) fr h)
   |e=>K e fr h)=_
  rw[ok.exec];simp only[zo,exK];cases e.exec b fr h with
  |none=>rfl
  |some p=>
   obtain⟨ex,a6,h1⟩:=p;cases ex with
   |exit i=>
    simp only[QV];rw[yS];by_cases hi:i=id
    ·subst hi;simp
    ·have:Nat.beq i id=false:=by rw[Bool.eq_false_iff];intro hb;exact hi (QN hb)
     rw[this,QC hi];rfl
   |_=>rfl
 |loop b=>
  show x.exec b fr h (fun e fr h=>match e with
   | .normal=>x.exec (.loop b) fr h K
   |e=>K e fr h)=_
  rw[ok.exec];simp only[zo,exK];cases e.exec b fr h with
  |none=>rfl
  |some p=>
   obtain⟨ex,a6,h1⟩:=p;cases ex with
   |normal=>exact ok.exec _ _ _ _
   |_=>rfl
 |scope b=>
  show zII x b zG3 b fr h K=exK (Z5 e zG3 b b fr h) K;exact zGy ok b zG3 b fr h K
 |rangeFunc f ps a b=>
  show zIv x ((zz f).ev fr.tm) ps a b fr h K=_;rw[zw];exact zNe ok _ _ _ _ _ _ _
 |_=>rfl
def zBb(x:ExK)(ds:List Deferred):WA->(WA->R)->R:=
 @List.rec Deferred (fun _=>WA->(WA->R)->R) (fun h K=>K h) (fun d _ k h K=>match d.target with
  | .fn (.func f) cap=>x.call f (d.args.toList++cap.toList) h fun _ h=>k h K
  | .builtin .clear _ _ _=>match d.args.toList with
   |[.map (some g)]=>match h.get g with
    |some (.map _ clock)=>k (h.set g (.map [] clock)) K
    |_=>none
   |_=>none
  | .collected g=>match h.get g with
   |some (.deferred (some []))=>k (h.set g (.deferred none)) K
   |_=>none
  |_=>none) ds
def zBh(ok:Bt e x):∀ (ds:List Deferred) (h:WA) (K:WA->R),zBb x ds h K=(yi e ds h).bind K
 |[],_,_=>rfl
 |d::ds,h,K=>by
  obtain⟨tg,as⟩:=d;show(match tg with
   | .fn (.func f) cap=>x.call f (as.toList++cap.toList) h fun _ h=>zBb x ds h K
   | .builtin .clear _ _ _=>match as.toList with
    |[.map (some g)]=>match h.get g with
     |some (.map _ clock)=>zBb x ds (h.set g (.map [] clock)) K
     |_=>none
    |_=>none
   | .collected g=>match h.get g with
    |some (.deferred (some []))=>zBb x ds (h.set g (.deferred none)) K
    |_=>none
   |_=>none)=_
  rw[yi];dsimp only;have CL:∀ g,(match h.get g with
    |some (.map _ clock)=>zBb x ds (h.set g (.map [] clock)) K
    |_=>none)=(match h.get g with
    |some (.map _ clock)=>yi e ds (h.set g (.map [] clock))
    |_=>none).bind K:=fun g=>by
   cases h.get g with
   |none=>rfl
   |some o=>cases o<;>first|exact zBh ok ds _ K|rfl
  have CN:∀ g,(match h.get g with
    |some (.deferred (some []))=>zBb x ds (h.set g (.deferred none)) K
    |_=>none)=(match h.get g with
    |some (.deferred (some []))=>yi e ds (h.set g (.deferred none))
    |_=>none).bind K:=fun g=>by
   cases h.get g with
   |none=>rfl
   |some o=>
    cases o with
    |deferred q=>
     cases q with
     |none=>rfl
     |some l=>cases l<;>first|exact zBh ok ds _ K|rfl
    |_=>rfl
  cases tg with
  |fn f cap=>
   cases f with
   |func f=>
    dsimp only;rw[ok.call];simp only[Z4];cases e.call f (as.toList++cap.toList) h with
    |none=>rfl
    |some p=>exact zBh ok ds p.2 K
   |_=>rfl
  |builtin b ts ty cs=>
   cases b with
   |clear=>
    dsimp only;generalize as.toList=l;rcases l with _|⟨a,_|⟨b,l⟩⟩
    ·rfl
    ·cases a with
     |map r=>
      cases r with
      |none=>rfl
      |some g=>exact CL g
     |_=>rfl
    ·cases a with
     |map r=>cases r<;>rfl
     |_=>rfl
   |_=>rfl
  |collected g=>exact CN g
  |_=>rfl
def zQq(l:List Value):Nat->WG Value->WG Value:=
 @List.rec Value (fun _=>Nat->WG Value->WG Value) (fun _ t=>t) (fun v _ k n t=>k (Nat.succ n) ((SL 64 n).set t v)) l
def zJB:∀ (l:List Value) (k:Nat) (t:WG Value),zQq l k t=zCr l k t
 |[],_,_=>rfl
 |v::l,k,t=>by
  show zQq l (k+1) ((SL 64 k).set t v)=_;rw[zJB l,(zIg 64 k).2];rfl
def zUK(h:WA)(t:WG Value)(r:Nat×Option (Bool×Nat)):Option Value:=
 match r with
 |(k,none)=>some ((zz (.tmp k)).ev t)
 |(k,some (agg,n))=>match(zz (.tmp k)).ev t with
  | .pointer (some a)=>yU a.spot.isNone (match zJA h a.block with
   |some (.row cells _ _)=>(zIi cells a.off n).bind (zI agg)
   |_=>none) none
  |_=>none
def zRU(h:WA)(t:WG Value)(r:Nat×Option (Bool×Nat)):zUK h t r=Y3 h t r:=by
 obtain⟨k,o⟩:=r;cases o with
 |none=>show some ((zz (.tmp k)).ev t)=some (zC t k);rw[zw];rfl
 |some q=>
  obtain⟨agg,n⟩:=q;show(match(zz (.tmp k)).ev t with
   | .pointer (some a)=>yU a.spot.isNone (match zJA h a.block with
    |some (.row cells _ _)=>(zIi cells a.off n).bind (zI agg)
    |_=>none) none
   |_=>none)=(match zC t k with
   | .pointer (some a)=>bif a.spot.isNone then((z0 h a.block).bind fun cells=>cut cells a.off n).bind (zI agg)else none
   |_=>none)
  rw[zw];have e2:ev t (.tmp k)=zC t k:=rfl;rw[e2];cases zC t k with
  |pointer p=>
   cases p with
   |none=>rfl
   |some a=>
    dsimp only;rw[yS,zGB];unfold z0;cases a.spot.isNone with
    |false=>rfl
    |true=>
     cases h.get a.block with
     |none=>rfl
     |some o=>cases o<;>first|(simp only[zFH];rfl)|rfl
  |_=>rfl
def zRI(h:WA)(t:WG Value)(l:List (Nat×Option (Bool×Nat))):Option (List Value):=
 @List.rec (Nat×Option (Bool×Nat)) (fun _=>Option (List Value)) (some []) (fun r _ q=> @Option.rec Value (fun _=>Option (List Value)) none (fun v=> @Option.rec (List Value) (fun _=>Option (List Value)) none (fun vs=>some (v::vs)) q) (zUK h t r)) l
def zKX(h:WA)(t:WG Value):∀ l,zRI h t l=yI h t l
 |[]=>rfl
 |r::l=>by
  show @Option.rec Value (fun _=>Option (List Value)) none (fun v=> @Option.rec (List Value) (fun _=>Option (List Value)) none (fun vs=>some (v::vs)) (zRI h t l)) (zUK h t r)=_;rw[zRU,zKX h t l,yI];cases Y3 h t r with
  |none=>rfl
  |some v=>cases yI h t l<;>rfl
def zMB(tab:Ws)(x:ExK)(f:FuncId)(args:List Value)(h:WA)(K:Value->WA->R):R:=
 match tab.stub f with
 |some s=>Z4 (s args h) K
 |none=>Z0 (tab.code f) fun fn=>x.exec fn.body ⟨zQq args 0 .leaf,[],none⟩ h fun e fr h=>
   yU (match e with| .normal| .ret=>true|_=>false) (zBb x fr.dfs h fun h=>Z0 (zRI h fr.tm fn.results) fun vs=>K (one vs) h) none
def zQD(ok:Bt e x)(tab:Ws)(f:FuncId)(args:List Value)(h:WA)(K:Value->WA->R):zMB tab x f args h K=Z4 (zBl P tab e f args h) K:=by
 unfold zMB zBl;cases tab.stub f with
 |some s=>rfl
 |none=>
  simp only;rw[ZL];unfold zDn;cases tab.code f with
  |none=>rfl
  |some fn=>
   simp only[QV];rw[ok.exec,zJB];cases e.exec fn.body ⟨zCr args 0 .leaf,[],none⟩ h with
   |none=>rfl
   |some p=>
    obtain⟨ex,fr,h1⟩:=p;simp only[QV,yS,zBh ok,ZL,zKX];cases ex<;>simp only[cond_true,QU,Z4,Option.bind_none];all_goals
     cases yi e fr.dfs h1 with
     |none=>rfl
     |some h2=>
      simp only[QV];cases yI h2 fr.tm fn.results<;>rfl
def zK7(P:Program)(tab:Ws)(n:Nat):ExK:=
 @Nat.rec (fun _=>ExK) ⟨fun _ _ _ _=>none,fun _ _ _ _=>none⟩ (fun _ x=>⟨fun c fr h K=>(zTY P c).run x fr h K,fun f args h K=>zMB tab x f args h K⟩) n
def zNN(P:Program)(tab:Ws)(n:Nat):zK7 P tab (n+1)=⟨fun c fr h K=>(zTY P c).run (zK7 P tab n) fr h K,fun f args h K=>zMB tab (zK7 P tab n) f args h K⟩:=rfl
def zMb(P:Program)(tab:Ws)(n:Nat):Bt (BE P tab n) (zK7 P tab n):=by
 induction n with
 |zero=>exact⟨fun _ _ _ _=>rfl,fun _ _ _ _=>rfl⟩
 |succ n ih=>
  rw[zNN];refine⟨fun c fr h K=> ?_,fun f args h K=> ?_⟩
  ·have:=zRn ih c fr h K (P:=P);exact this
  ·have:=zQD (P:=P) ih tab f args h K;exact this
def zQa{P:Program}{tab:Ws}{n:Nat}{f:FuncId}{args:List Value}{h:WA}{v:Value}(hx:(zK7 P tab n).call f args h (fun v _=>some v)=some v):
  ((BE P tab n).call f args h).map (·.1)=some v:=by
 have e:=(zMb P tab n).call f args h fun v _=>some v;rw[hx]at e;cases hc:(BE P tab n).call f args h with
 |none=>rw[hc]at e;cases e
 |some p=>rw[hc]at e;exact e.symm
end
end
end Go.Am
