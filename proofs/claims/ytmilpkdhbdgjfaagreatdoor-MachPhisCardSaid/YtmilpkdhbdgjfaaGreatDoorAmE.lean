/- A part of the machine and of its soundness; proves no statement. -/
import Derived.Test.YtmilpkdhbdgjfaaGreatDoorAmD
set_option linter.all false
namespace Go.Am
noncomputable section
def yR{α:Type}(b:Bool)(x y:α):α:= @Bool.rec (fun _=>α) y x b
theorem yL{α:Type}(b:Bool)(x y:α):yR b x y=bif b then x else y:=by cases b<;>rfl
def WI.getF{α:Type}(t:WI α):Nat->Option α:=
 @WI.rec α (fun _=>Nat->Option α) (fun _=>none) (fun v _ _ gl gr k=> @Bool.rec (fun _=>Option α) (@Bool.rec (fun _=>Option α) (gr (Nat.pred (Nat.div k (nat_lit 2)))) (gl (Nat.div k (nat_lit 2))) (Nat.beq (Nat.mod k (nat_lit 2)) (nat_lit 1))) v (Nat.beq k (nat_lit 0))) t
theorem zGC{α:Type}:∀ (t:WI α) (k:Nat),t.getF k=t.get k
 | .leaf,_=>rfl
 | .node v l r,k=>by
  show yR (Nat.beq k 0) v (yR (Nat.beq (k % 2) 1) (l.getF (k / 2)) (r.getF (k / 2-1)))=_;rw[yL,yL,zGC l,zGC r];rfl
def zKH{α:Type}(v:Option α)(f:Nat):Nat->WI α:=
 @Nat.rec (fun _=>Nat->WI α) (fun _=> .leaf) (fun _ p k=> @Bool.rec (fun _=>WI α) (@Bool.rec (fun _=>WI α) (.node none .leaf (p (Nat.pred (Nat.div k (nat_lit 2))))) (.node none (p (Nat.div k (nat_lit 2))) .leaf) (Nat.beq (Nat.mod k (nat_lit 2)) (nat_lit 1))) (.node v .leaf .leaf) (Nat.beq k (nat_lit 0))) f
theorem zER{α:Type}(v:Option α):∀ (f k:Nat),zKH v f k=WI.put v f k .leaf
 |0,_=>rfl
 |f+1,k=>by
  show yR (Nat.beq k 0) _ (yR (Nat.beq (k % 2) 1) (WI.node none (zKH v f (k / 2)) .leaf) (.node none .leaf (zKH v f (k / 2-1))))=_;rw[yL,yL,zER v f,zER v f];rfl
def WI.putF{α:Type}(v:Option α)(t:WI α):Nat->WI α:=
 @WI.rec α (fun _=>Nat->WI α) (fun k=>zKH v (Nat.succ k) k)
  (fun u l r pl pr k=> @Bool.rec (fun _=>WI α) (@Bool.rec (fun _=>WI α) (.node u l (pr (Nat.pred (Nat.div k (nat_lit 2))))) (.node u (pl (Nat.div k (nat_lit 2))) r) (Nat.beq (Nat.mod k (nat_lit 2)) (nat_lit 1))) (.node v l r) (Nat.beq k (nat_lit 0))) t
theorem zAU{α:Type}(v:Option α):∀ (f g k:Nat) (t:WI α),k<f->k<g->WI.put v f k t=WI.put v g k t:=by
 intro f;induction f with
 |zero=>intro g k t h;omega
 |succ f ih=>
  intro g k t h1 h2;obtain⟨g,rfl⟩:∃ g',g=g'+1:=⟨g-1,by omega⟩;have hb:∀ a b:Nat,Nat.beq a b=decide (a=b):=fun a b=>by rw[GN];simp
  cases t with
  |leaf=>
   simp only[WI.put,hb];by_cases hk:k=0
   ·simp[hk]
   ·simp only[hk,decide_false,QR];rw[ih g (k / 2) _ (by omega) (by omega),ih g (k / 2-1) _ (by omega) (by omega)]
  |node u l r=>
   simp only[WI.put,hb];by_cases hk:k=0
   ·simp[hk]
   ·simp only[hk,decide_false,QR];rw[ih g (k / 2) _ (by omega) (by omega),ih g (k / 2-1) _ (by omega) (by omega)]
theorem zDd{α:Type}(v:Option α):∀ (t:WI α) (k:Nat),t.putF v k=WI.put v (k+1) k t
 | .leaf,k=>zER v (k+1) k
 | .node u l r,k=>by
  show yR (Nat.beq k 0) (WI.node v l r) (yR (Nat.beq (k % 2) 1) (.node u (l.putF v (k / 2)) r) (.node u l (r.putF v (k / 2-1))))=_;rw[yL,yL,zDd v l,zDd v r];have hb:∀ a b:Nat,Nat.beq a b=decide (a=b):=fun a b=>by rw[GN];simp
  simp only[WI.put,hb];by_cases hk:k=0
  ·simp[hk]
  ·simp only[hk,decide_false,QR];rw[zAU v (k / 2+1) k (k / 2) l (by omega) (by omega),zAU v (k / 2-1+1) k (k / 2-1) r (by omega) (by omega)]
theorem zGt(k:Nat)(v:Value)(hk:¬k=0):(WI.leaf:WI Value).set k v=yR (Nat.beq (k % 2) 1) (.node none (WI.leaf.set (k / 2) v) .leaf) (.node none .leaf (WI.leaf.set (k / 2-1) v)):=by
 have h0:Nat.beq k 0=false:=by cases hb:Nat.beq k 0 with
  |false=>rfl
  |true=>exact absurd (QI hb) hk
 have e:(WI.leaf:WI Value).set k v=bif Nat.beq k 0 then WI.node (some v) .leaf .leaf else bif Nat.beq (k % 2) 1 then .node none (WI.put (some v) k (k / 2) .leaf) .leaf else .node none .leaf (WI.put (some v) k (k / 2-1) .leaf):=rfl;rw[e,h0,yL,QR,zAU _ k (k / 2+1) (k / 2) _ (by omega) (by omega),zAU _ k (k / 2-1+1) (k / 2-1) _ (by omega) (by omega)];rfl
theorem zHb(k:Nat)(v:Value)(u:Option Value)(l r:WI Value)(hk:¬k=0):(WI.node u l r).set k v=yR (Nat.beq (k % 2) 1) (.node u (l.set (k / 2) v) r) (.node u l (r.set (k / 2-1) v)):=by
 have h0:Nat.beq k 0=false:=by cases hb:Nat.beq k 0 with
  |false=>rfl
  |true=>exact absurd (QI hb) hk
 have e:(WI.node u l r).set k v=bif Nat.beq k 0 then WI.node (some v) l r else bif Nat.beq (k % 2) 1 then .node u (WI.put (some v) k (k / 2) l) r else .node u l (WI.put (some v) k (k / 2-1) r):=rfl;rw[e,h0,yL,QR,zAU _ k (k / 2+1) (k / 2) _ (by omega) (by omega),zAU _ k (k / 2-1+1) (k / 2-1) _ (by omega) (by omega)];rfl
structure CloG where
 get:WI Value->Option Value
 set:WI Value->Value->WI Value
def B1(f:Nat):Nat->CloG:=
 @Nat.rec (fun _=>Nat->CloG) (fun k=>⟨fun t=>t.get k,fun t v=>WI.put (some v) (k+1) k t⟩)
  (fun _ p k=> @Bool.rec (fun _=>CloG) (@Bool.rec (fun _=>CloG)
   ⟨fun t=>(p (Nat.pred (Nat.div k (nat_lit 2)))).get (@WI.rec Value (fun _=>WI Value) .leaf (fun _ _ r _ _=>r) t),fun t v=> @WI.rec Value (fun _=>WI Value) (.node none .leaf ((p (Nat.pred (Nat.div k (nat_lit 2)))).set .leaf v)) (fun u l r _ _=> .node u l ((p (Nat.pred (Nat.div k (nat_lit 2)))).set r v)) t⟩
   ⟨fun t=>(p (Nat.div k (nat_lit 2))).get (@WI.rec Value (fun _=>WI Value) .leaf (fun _ l _ _ _=>l) t),fun t v=> @WI.rec Value (fun _=>WI Value) (.node none ((p (Nat.div k (nat_lit 2))).set .leaf v) .leaf) (fun u l r _ _=> .node u ((p (Nat.div k (nat_lit 2))).set l v) r) t⟩
   (Nat.beq (Nat.mod k (nat_lit 2)) (nat_lit 1)))
   ⟨fun t=> @WI.rec Value (fun _=>Option Value) none (fun v _ _ _ _=>v) t,fun t v=> @WI.rec Value (fun _=>WI Value) (.node (some v) .leaf .leaf) (fun _ l r _ _=> .node (some v) l r) t⟩
   (Nat.beq k (nat_lit 0))) f
theorem zF3:∀ (f k:Nat),(∀ t,(B1 f k).get t=t.get k)/\∀ t v,(B1 f k).set t v=t.set k v:=by
 intro f;induction f with
 |zero=>intro k;exact⟨fun _=>rfl,fun _ _=>rfl⟩
 |succ f ih=>
  intro k;have hb:∀ a b:Nat,Nat.beq a b=decide (a=b):=fun a b=>by rw[GN];simp
  have step:B1 (f+1) k=yR (Nat.beq k 0) ⟨fun t=> @WI.rec Value (fun _=>Option Value) none (fun v _ _ _ _=>v) t,fun t v=> @WI.rec Value (fun _=>WI Value) (.node (some v) .leaf .leaf) (fun _ l r _ _=> .node (some v) l r) t⟩
   (yR (Nat.beq (k % 2) 1) ⟨fun t=>(B1 f (k / 2)).get (@WI.rec Value (fun _=>WI Value) .leaf (fun _ l _ _ _=>l) t),fun t v=> @WI.rec Value (fun _=>WI Value) (.node none ((B1 f (k / 2)).set .leaf v) .leaf) (fun u l r _ _=> .node u ((B1 f (k / 2)).set l v) r) t⟩
    ⟨fun t=>(B1 f (k / 2-1)).get (@WI.rec Value (fun _=>WI Value) .leaf (fun _ _ r _ _=>r) t),fun t v=> @WI.rec Value (fun _=>WI Value) (.node none .leaf ((B1 f (k / 2-1)).set .leaf v)) (fun u l r _ _=> .node u l ((B1 f (k / 2-1)).set r v)) t⟩):=rfl
  rw[step];by_cases hk:k=0
  ·subst hk;exact⟨fun t=>by cases t<;>rfl,fun t v=>by cases t<;>rfl⟩
  ·have h0:Nat.beq k 0=false:=by rw[hb];simp[hk]
   rw[h0];by_cases ho:k % 2=1
   ·have h1:Nat.beq (k % 2) 1=true:=by rw[hb];simp[ho]
    rw[h1];refine⟨fun t=> ?_,fun t v=> ?_⟩
    ·show(B1 f (k / 2)).get _=_;rw[(ih _).1];cases t with
     |leaf=>rfl
     |node u l r=>simp only[WI.get,h0,h1,cond_true,QR]
    ·cases t with
     |leaf=>
      show WI.node none ((B1 f (k / 2)).set .leaf v) .leaf=_;rw[(ih _).2,zGt k v hk,h1];rfl
     |node u l r=>
      show WI.node u ((B1 f (k / 2)).set l v) r=_;rw[(ih _).2,zHb k v u l r hk,h1];rfl
   ·have h1:Nat.beq (k % 2) 1=false:=by rw[hb];simp[ho]
    rw[h1];refine⟨fun t=> ?_,fun t v=> ?_⟩
    ·show(B1 f (k / 2-1)).get _=_;rw[(ih _).1];cases t with
     |leaf=>rfl
     |node u l r=>simp only[WI.get,h0,h1,cond_true,QR]
    ·cases t with
     |leaf=>
      show WI.node none .leaf ((B1 f (k / 2-1)).set .leaf v)=_;rw[(ih _).2,zGt k v hk,h1];rfl
     |node u l r=>
      show WI.node u l ((B1 f (k / 2-1)).set r v)=_;rw[(ih _).2,zHb k v u l r hk,h1];rfl
structure CloE where
 ev:WI Value->Value
def zl(x:Operand):CloE:=
 match x with
 | .tmp k=>⟨fun t=> @Option.rec Value (fun _=>Value) undef (fun v=>v) ((B1 64 k).get t)⟩
 | .const v=>⟨fun _=>v⟩
 | .global g=>⟨fun _=> .pointer (some ⟨g,0,none⟩)⟩
 | .func f=>⟨fun _=> .func (.func f) #[] #[]⟩
theorem zj(x:Operand)(t:WI Value):(zl x).ev t=ev t x:=by
 cases x with
 |tmp k=>
  show @Option.rec Value (fun _=>Value) undef (fun v=>v) ((B1 64 k).get t)=(t.get k).getD undef;rw[(zF3 64 k).1];cases t.get k<;>rfl
 |_=>rfl
def zG5(h:WF)(g:Nat):Option Wm:=h.tab.getF g
theorem zD6(h:WF)(g:Nat):zG5 h g=h.get g:=zGC _ _
def zC4(h:WF)(o:Wm):WF:=⟨Nat.succ h.n,h.tab.putF (some o) h.n,h.mark,h.wr⟩
theorem zEW(h:WF)(o:Wm):zC4 h o=h.push o:=by unfold zC4 WF.push WI.set;rw[zDd]
def zND(h:WF)(g:Nat)(o:Wm):WF:=⟨h.n,h.tab.putF (some o) g,h.mark,h.log g⟩
theorem zMR(h:WF)(g:Nat)(o:Wm):zND h g o=h.set g o:=by unfold zND WF.set WI.set;rw[zDd]
abbrev R:=Option Value
def Zi(x:Option (Value×WF))(K:Value->WF->R):R:=x.bind fun p=>K p.1 p.2
structure ExK where
 exec:WU->WR->WF->(WP->WR->WF->R)->R
 call:FuncId->List Value->WF->(Value->WF->R)->R
structure Bd(e:Ex)(x:ExK):Prop where
 exec:∀ c fr h K,x.exec c fr h K=(e.exec c fr h).bind fun p=>K p.1 p.2.1 p.2.2
 call:∀ f args h K,x.call f args h K=Zi (e.call f args h) K
def zFw(v:Value)(k:Addr->R):R:=match v with
 | .pointer (some a)=>k a
 |_=>none
def Zc{α:Type}(x:Option α)(k:α->R):R:= @Option.rec α (fun _=>R) none k x
theorem ZC{α:Type}(x:Option α)(k:α->R):Zc x k=x.bind k:=by cases x<;>rfl
def zI9(h:WF)(g:Nat)(k:List Value->R):R:=Zc (zG5 h g) fun o=>match o with
 | .row cells _ _=>k cells
 |_=>none
theorem zJ3(h:WF)(g:Nat)(k:List Value->R):zI9 h g k=(zv h g).bind k:=by
 unfold zI9 zv;rw[ZC,zD6];cases h.get g with
 |none=>rfl
 |some o=>cases o<;>rfl
def zO7(v:Value)(k:IntKind->Int->R):R:=match v with
 | .int kk n=>k kk n
 |_=>none
def zQB(v:Value)(k:Nat->R):R:=match v with
 | .int _ (.ofNat n)=>k n
 |_=>none
theorem zN6(v:Value)(k:Nat->R):zQB v k=(BH v).bind k:=by
 cases v with
 |int kk n=>cases n<;>rfl
 |_=>rfl
def zC9(k:IntKind):Nat:= @IntKind.rec (fun _=>Nat) (nat_lit 0) (nat_lit 1) (nat_lit 2) (nat_lit 3) (nat_lit 4) (nat_lit 5) (nat_lit 6) (nat_lit 7) k
theorem zMw(k k':IntKind):Nat.beq (zC9 k) (zC9 k')=decide (k=k'):=by cases k<;>cases k'<;>rfl
def zCF(k:IntKind)(n:Int):Int:=match n with
 | .ofNat m=>yR (Nat.ble m (nat_lit 127)) (.ofNat m) (yR (Nat.beq (zC9 k) (nat_lit 3)) (yR (Nat.ble m (nat_lit 9223372036854775807)) (.ofNat m) (k.wrap (.ofNat m))) (k.wrap (.ofNat m)))
 |n=>k.wrap n
theorem zA3(k:IntKind)(n:Int):zCF k n=k.wrap n:=by
 unfold zCF;cases n with
 |negSucc m=>rfl
 |ofNat m=>
  simp only[yL];cases h1:Nat.ble m 127 with
  |true=>
   have:m<=127:=QO h1;simp only[cond_true];have e:(Int.ofNat m:Int)=(m:Int):=rfl;rw[e];cases k<;>simp[IntKind.wrap,IntKind.signed,IntKind.bits]<;>omega
  |false=>
   simp only[QR];cases h2:Nat.beq (zC9 k) 3 with
   |false=>rfl
   |true=>
    simp only[cond_true];have hk:k=.i64:=by cases k<;>first|rfl|cases h2
    subst hk;cases h3:Nat.ble m 9223372036854775807 with
    |false=>rfl
    |true=>
     have:m<=9223372036854775807:=QO h3;simp only[cond_true];have e:(Int.ofNat m:Int)=(m:Int):=rfl;rw[e];simp[IntKind.wrap,IntKind.signed,IntKind.bits];omega
def ltF(a b:Int):Bool:=match a,b with
 | .ofNat m,.ofNat n=>Nat.ble (Nat.succ m) n
 | .negSucc _,.ofNat _=>true
 | .ofNat _,.negSucc _=>false
 | .negSucc m,.negSucc n=>Nat.ble (Nat.succ n) m
theorem zDs(a b:Int):ltF a b=decide (a<b):=by
 have hb:∀ a b:Nat,Nat.ble a b=decide (a<=b):=fun a b=>by rw[GN];simp
 have e1:∀ n:Nat,Int.ofNat n=(n:Int):=fun _=>rfl;have e2:∀ n:Nat,Int.negSucc n= -((n:Int)+1):=fun n=>by omega
 cases a<;>cases b<;>simp only[ltF,hb]<;>rw[GN]<;>simp only[QY,Qs,true_iff,JF,e1,e2]<;>omega
def eqF(a b:Int):Bool:=match a,b with
 | .ofNat m,.ofNat n=>Nat.beq m n
 | .negSucc m,.negSucc n=>Nat.beq m n
 |_,_=>false
theorem zFo(a b:Int):eqF a b=decide (a=b):=by
 have hb:∀ a b:Nat,Nat.beq a b=decide (a=b):=fun a b=>by rw[GN];simp
 have e1:∀ n:Nat,Int.ofNat n=(n:Int):=fun _=>rfl;have e2:∀ n:Nat,Int.negSucc n= -((n:Int)+1):=fun n=>by omega
 cases a<;>cases b<;>simp only[eqF,hb]<;>rw[GN]<;>simp only[QY,Qs,true_iff,JF,e1,e2]<;>omega
def zEl(x y:Value)(k:IntKind->Int->Int->R):R:=zO7 x fun kk a=>zO7 y fun kk' b=>yR (Nat.beq (zC9 kk) (zC9 kk')) (k kk a b) none
structure CloB where
 run:Value->Value->(Value->R)->R
def zPf(op:BinOp):CloB:=
 match op with
 | .add=>⟨fun x y k=>zEl x y fun kk a b=>k (.int kk (zCF kk (Int.add a b)))⟩
 | .sub=>⟨fun x y k=>zEl x y fun kk a b=>k (.int kk (zCF kk (Int.sub a b)))⟩
 | .eql=>⟨fun x y k=>zEl x y fun _ a b=>k (.bool (eqF a b))⟩
 | .neq=>⟨fun x y k=>zEl x y fun _ a b=>k (.bool (!eqF a b))⟩
 | .lss=>⟨fun x y k=>zEl x y fun _ a b=>k (.bool (ltF a b))⟩
 | .gtr=>⟨fun x y k=>zEl x y fun _ a b=>k (.bool (ltF b a))⟩
 | .leq=>⟨fun x y k=>zEl x y fun _ a b=>k (.bool (!ltF b a))⟩
 | .geq=>⟨fun x y k=>zEl x y fun _ a b=>k (.bool (!ltF a b))⟩
 |op=>⟨fun x y k=>Zc (yC op x y) k⟩
theorem zOV(x y:Value)(k:IntKind->Int->Int->R):zEl x y k=match x,y with
  | .int kk a,.int kk' b=>if kk=kk' then k kk a b else none
  |_,_=>none:=by
 cases x with
 |int kk a=>
  cases y with
  |int kk' b=>
   show yR (Nat.beq (zC9 kk) (zC9 kk')) (k kk a b) none=if kk=kk' then k kk a b else none;rw[yL,zMw];by_cases e:kk=kk'
   ·subst e;simp
   ·simp[e]
  |_=>rfl
 |_=>rfl
theorem zGN(a b:Int):(!ltF b a)=decide (a<=b):=by
 rw[zDs,GN];simp
theorem zOA(op:BinOp)(x y:Value)(k:Value->R):(zPf op).run x y k=(yC op x y).bind k:=by
 have two:∀ {f:IntKind->Int->Int->Value} {g:Option Value},(g=match x,y with
   | .int kk a,.int kk' b=>if kk=kk' then some (f kk a b)else none
   |_,_=>none)->(zEl x y fun kk a b=>k (f kk a b))=g.bind k:=by
  intro f g hg;rw[zOV,hg];split
  ·split<;>rfl
  ·rfl
 cases op with
 |add=>refine two (f:=fun kk a b=> .int kk (zCF kk (Int.add a b))) ?_;cases x<;>cases y<;>first|rfl|(simp only[yC,zA3];done)|(simp only[yC,zA3];rfl)
 |sub=>refine two (f:=fun kk a b=> .int kk (zCF kk (Int.sub a b))) ?_;cases x<;>cases y<;>first|rfl|(simp only[yC,zA3];done)|(simp only[yC,zA3];rfl)
 |eql=>refine two (f:=fun kk a b=> .bool (eqF a b)) ?_;cases x<;>cases y<;>first|rfl|(simp only[yC,zFo];done)|(simp only[yC,zFo];rfl)
 |neq=>refine two (f:=fun kk a b=> .bool (!eqF a b)) ?_;cases x<;>cases y<;>first|rfl|(simp only[yC,zFo];done)|(simp only[yC,zFo];rfl)
 |lss=>refine two (f:=fun kk a b=> .bool (ltF a b)) ?_;cases x<;>cases y<;>first|rfl|(simp only[yC,zDs];done)|(simp only[yC,zDs];rfl)
 |gtr=>refine two (f:=fun kk a b=> .bool (ltF b a)) ?_;cases x<;>cases y<;>first|rfl|(simp only[yC,zDs];done)|(simp only[yC,zDs];rfl)
 |leq=>refine two (f:=fun kk a b=> .bool (!ltF b a)) ?_;cases x<;>cases y<;>first|rfl|(simp only[yC,zGN];done)|(simp only[yC,zGN];rfl)
 |geq=>refine two (f:=fun kk a b=> .bool (!ltF a b)) ?_;cases x<;>cases y<;>first|rfl|(simp only[yC,zGN,ge_iff_le];done)|(simp only[yC,zGN,ge_iff_le];rfl)
 |_=>exact ZC _ _
def zLf(l:List Value):Nat->Option Value:=
 @List.rec Value (fun _=>Nat->Option Value) (fun _=>none) (fun v _ g n=> @Nat.rec (fun _=>Option Value) (some v) (fun m _=>g m) n) l
theorem zGj:∀ (l:List Value) (n:Nat),zLf l n=l[n]?
 |[],_=>rfl
 |v::l,0=>rfl
 |v::l,n+1=>by
  show zLf l n=_;rw[zGj l n];simp
theorem zMa(l:List Value)(n:Nat):(cut l n 1).bind (zI false)=l[n]?:=by
 unfold cut;cases hb:Nat.ble (n+1) l.length with
 |true=>
  have hn:n<l.length:=QO hb;have e:(l.drop n).take 1=[l[n]]:=by rw[GK hn];rfl
  rw[cond_true,QQ,e,QB hn];rfl
 |false=>
  have hn:¬n<l.length:=fun e=>by
   have:Nat.ble (n+1) l.length=true:=QF e;rw[this]at hb;cases hb
  simp[hn]
def zFZ(l:List Value):Nat->Option (List Value):=
 @List.rec Value (fun _=>Nat->Option (List Value)) (fun n=> @Nat.rec (fun _=>Option (List Value)) (some []) (fun _ _=>none) n)
  (fun v _ g n=> @Nat.rec (fun _=>Option (List Value)) (some []) (fun m _=> @Option.rec (List Value) (fun _=>Option (List Value)) none (fun r=>some (v::r)) (g m)) n) l
def zGf(l:List Value):Nat->Nat->Option (List Value):=
 @List.rec Value (fun _=>Nat->Nat->Option (List Value)) (fun off n=> @Nat.rec (fun _=>Option (List Value)) (zFZ [] n) (fun _ _=>none) off)
  (fun v r g off n=> @Nat.rec (fun _=>Option (List Value)) (zFZ (v::r) n) (fun m _=>g m n) off) l
theorem zD5:∀ (l:List Value) (n:Nat),zFZ l n=bif Nat.ble n l.length then some (l.take n)else none
 |[],0=>rfl
 |[],n+1=>rfl
 |v::l,0=>rfl
 |v::l,n+1=>by
  show @Option.rec (List Value) (fun _=>Option (List Value)) none (fun r=>some (v::r)) (zFZ l n)=_;rw[zD5 l n];have:Nat.ble (n+1) (v::l).length=Nat.ble n l.length:=rfl;rw[this];cases Nat.ble n l.length<;>rfl
theorem zDQ:∀ (l:List Value) (off n:Nat),zGf l off n=cut l off n
 |[],0,n=>by
  show zFZ [] n=_;rw[zD5];unfold cut;rw[Qk];rfl
 |[],off+1,n=>by
  show none=cut [] (off+1) n;unfold cut;have:Nat.ble (off+1+n) ([]:List Value).length=false:=by
   rw[show off+1+n=(off+n)+1 by omega];rfl
  rw[this];rfl
 |v::l,0,n=>by
  show zFZ (v::l) n=_;rw[zD5];unfold cut;rw[Qk];rfl
 |v::l,off+1,n=>by
  show zGf l off n=_;rw[zDQ l off n];unfold cut;have:Nat.ble (off+1+n) (v::l).length=Nat.ble (off+n) l.length:=by
   rw[show off+1+n=(off+n)+1 by omega];rfl
  rw[this];rfl
def zGg(v:Value)(l:List Value):Nat->Option (List Value):=
 @List.rec Value (fun _=>Nat->Option (List Value)) (fun _=>none) (fun u r g n=> @Nat.rec (fun _=>Option (List Value)) (some (v::r)) (fun m _=> @Option.rec (List Value) (fun _=>Option (List Value)) none (fun r=>some (u::r)) (g m)) n) l
theorem zFJ(v:Value):∀ (l:List Value) (n:Nat),zGg v l n=bif Nat.ble (n+1) l.length then some (zO l n [v])else none
 |[],n=>by
  have:Nat.ble (n+1) ([]:List Value).length=false:=rfl;rw[this];rfl
 |u::r,0=>rfl
 |u::r,n+1=>by
  show @Option.rec (List Value) (fun _=>Option (List Value)) none (fun r=>some (u::r)) (zGg v r n)=_;rw[zFJ v r n];have:Nat.ble (n+1+1) (u::r).length=Nat.ble (n+1) r.length:=rfl;rw[this];cases Nat.ble (n+1) r.length<;>simp[zO]
structure CloV where
 run:ExK->WI Value->WF->(Value->WF->R)->R
def zDI(v:Value)(k:Bool->R):R:=match v with
 | .bool b=>k b
 |_=>none
def zCI(h:WF)(a:Addr)(v:Value)(K:WF->R):R:=
 yR a.spot.isNone (Zc (zG5 h a.block) fun o=>match o with
  | .row cells true lo=>yR (Nat.ble lo a.off) (match v with
   | .agg _=>none
   | .tuple _=>none
   |v=>Zc (zGg v cells a.off) fun cells=>K (zND h a.block (.row cells true lo))) none
  |_=>none) none
theorem zIk(h:WF)(a:Addr)(v:Value)(hv:v.cells.size=1)(hn:∀ cs,v≠ .agg cs)(K:WF->R):zCI h a v K=(ze h a v.cells.toList).bind K:=by
 have hc:v.cells.toList=[v]:=by cases v<;>first|rfl|exact absurd rfl (hn _)
 unfold zCI ze;rw[hc,yL,ZC,zD6];cases hs:a.spot.isNone with
 |false=>
  simp only[QR];split
  ·simp
  ·rfl
 |true=>
  simp only[cond_true];cases h.get a.block with
  |none=>rfl
  |some o=>
   cases o with
   |row cells own lo=>
    cases own with
    |false=>rfl
    |true=>
     show yR (Nat.ble lo a.off) _ none=_;rw[yL];have h1:∀ K':List Value->R,(Zc (zGg v cells a.off) K')=(bif Nat.ble (a.off+1) cells.length then some (zO cells a.off [v])else none).bind K':=fun K'=>by rw[ZC,zFJ]
     cases h2:Nat.ble lo a.off with
     |false=>simp[h2]
     |true=>
      simp only[h2,cond_true,Qg,QZ];cases v<;>first
       |(exact absurd rfl (hn _))
       |(simp only[h1,zMR];cases Nat.ble (a.off+1) cells.length<;>simp[zH])
   |_=>rfl
def zGG(x:ExK)(l:Nat)(r:W2)(args:List Value)(h:WF)(K:Value->WF->R):R:=
 x.exec r.assign ⟨zBT r.params args r.tm,[],some l⟩ h fun e fr h1=>match e with
  | .normal=>(match h1.get l with
   |some (.loop r1)=>
    bif (match r1.state with| .ready=>true|_=>false)then
     x.exec r.body fr (h1.set l (.loop {r1 with state:= .busy})) fun e fr2 h2=>match fr2.dfs,h2.get l with
      |[],some (.loop r2)=>K (ZL l r2 h2 e).1 (ZL l r2 h2 e).2
      |_,_=>none
    else none
   |_=>none)
  |_=>none
def zGR(x:ExK)(f:Value)(args:List Value)(h:WF)(K:Value->WF->R):R:=
 match f with
 | .func (.func f) first cap=>x.call f (first.toList++(args++cap.toList)) h K
 | .func (.yield l) _ _=>
  match h.get l with
  |some (.loop r)=>bif Nat.beq args.length r.params.length then zGG x l r args h K else none
  |_=>none
 |_=>none
section
variable {P:Program}{e:Ex}{x:ExK}
theorem zK6(ok:Bd e x)(l:Nat)(r:W2)(args:List Value)(h:WF)(K:Value->WF->R):zGG x l r args h K=Zi (zAd e l r args h) K:=by
 unfold zGG zAd Zi;rw[ok.exec];cases e.exec r.assign ⟨zBT r.params args r.tm,[],some l⟩ h with
 |none=>rfl
 |some p=>
  obtain⟨ex,fr,h1⟩:=p;simp only[QQ];cases ex with
  |normal=>
   simp only;cases h1.get l with
   |none=>rfl
   |some o=>
    cases o with
    |loop r1=>
     simp only;cases hst:r1.state with
     |ready=>
      simp only[cond_true];rw[ok.exec];cases e.exec r.body fr (h1.set l (.loop {r1 with state:= .busy}))with
      |none=>rfl
      |some p=>
       obtain⟨e2,fr2,h2⟩:=p;simp only[QQ];cases fr2.dfs with
       |nil=>
        cases h2.get l with
        |none=>rfl
        |some o=>cases o<;>rfl
       |cons d ds=>rfl
     |_=>rfl
    |_=>rfl
  |_=>rfl
theorem zFU(ok:Bd e x)(f:Value)(args:List Value)(h:WF)(K:Value->WF->R):zGR x f args h K=Zi (zAK e f args h) K:=by
 cases f with
 |func fn first cap=>
  cases fn with
  |func f=>
   show x.call f (first.toList++(args++cap.toList)) h K=Zi (e.call f (first.toList++args++cap.toList) h) K;rw[ok.call,Q3]
  |yield l=>
   show(match h.get l with
    |some (.loop r)=>bif Nat.beq args.length r.params.length then zGG x l r args h K else none
    |_=>none)=Zi (match h.get l with
    |some (.loop r)=>bif Nat.beq args.length r.params.length then zAd e l r args h else none
    |_=>none) K
   cases h.get l with
   |none=>rfl
   |some o=>
    cases o with
    |loop r=>
     simp only;cases Nat.beq args.length r.params.length with
     |true=>exact zK6 ok _ _ _ _ _
     |false=>rfl
    |_=>rfl
  |_=>rfl
 |_=>rfl
def zN9(P:Program)(op:W4):CloV:=
 match op with
 | .mov a=>⟨fun _ t h K=>K ((zl a).ev t) h⟩
 | .pick c a b=>⟨fun _ t h K=>zDI ((zl c).ev t) fun q=>K (yR q ((zl a).ev t) ((zl b).ev t)) h⟩
 | .bin op a b=>⟨fun _ t h K=>(zPf op).run ((zl a).ev t) ((zl b).ev t) fun v=>K v h⟩
 | .load agg n a=>yR (Nat.beq n 1&& !agg)
   ⟨fun _ t h K=>zFw ((zl a).ev t) fun a=>yR a.spot.isNone (zI9 h a.block fun cells=>Zc (zLf cells a.off) fun v=>K v h) none⟩
   ⟨fun _ t h K=>zFw ((zl a).ev t) fun a=>yR a.spot.isNone (zI9 h a.block fun cells=>Zc (zGf cells a.off n) fun l=>Zc (zI agg l) fun v=>K v h) none⟩
 | .store n a b=>⟨fun _ t h K=>zFw ((zl a).ev t) fun a=>yR (Nat.beq n 1) (match(zl b).ev t with
   | .agg cs=>bif Nat.beq cs.size n then(ze h a cs.toList).bind fun h=>K undef h else none
   |v=>zCI h a v fun h=>K undef h) (Zi (bif Nat.beq ((zl b).ev t).cells.size n then(ze h a ((zl b).ev t).cells.toList).map (undef,·)else none) K)⟩
 | .idx c a i=>⟨fun _ t h K=>match(zl a).ev t with
   | .slice (some a) len k=>zQB ((zl i).ev t) fun i=>yR (Nat.ble (Nat.succ i) len) (yR (Nat.beq k c) (yR a.spot.isNone (K (.pointer (some ⟨a.block,Nat.add a.off (Nat.mul i c),none⟩)) h) none) none) none
   |_=>none⟩
 | .fld off a=>⟨fun _ t h K=>zFw ((zl a).ev t) fun a=>yR a.spot.isNone (K (.pointer (some ⟨a.block,Nat.add a.off off,none⟩)) h) none⟩
 | .len a=>⟨fun _ t h K=>match(zl a).ev t with
   | .slice _ n _=>K (.int .i64 (Int.ofNat n)) h
   |_=>none⟩
 | .nilCheck a=>⟨fun _ t h K=>Zc (Zv ((zl a).ev t)) fun v=>K v h⟩
 | .extract a i=>⟨fun _ t h K=>match(zl a).ev t with
   | .tuple vs=>Zc (zLf vs.toList i) fun v=>K v h
   |_=>none⟩
 | .alloc zero=>⟨fun _ _ h K=>K (.pointer (some ⟨h.n,0,none⟩)) (zC4 h (.row zero true 0))⟩
 | .box a=>⟨fun _ t h K=>K (.pointer (some ⟨h.n,0,none⟩)) (zC4 h (.row ((zl a).ev t).cells.toList true 0))⟩
 | .call f args=>⟨fun x t h K=>zGR x ((zl f).ev t) (args.map fun a=>(zl a).ev t) h K⟩
 | .invoke a name args=>⟨fun x t h K=>match(zl a).ev t with
   | .iface ty v=>Zc (Ya P ty name) fun f=>x.call f (v::args.map fun a=>(zl a).ev t) h K
   |_=>Zi (WN P Ex.bot t h (.invoke a name args)) K⟩
 | .un op a=>⟨fun _ t h K=>Zc (unV op ((zl a).ev t)) fun v=>K v h⟩
 | .isNil kind neg a=>⟨fun _ t h K=>Zc (zDK kind ((zl a).ev t)) fun b=>K (.bool (if neg then !b else b)) h⟩
 | .binB neg a b=>⟨fun _ t h K=>zDI ((zl a).ev t) fun x=>zDI ((zl b).ev t) fun y=>K (.bool (if neg then x != y else x == y)) h⟩
 | .conv k a=>⟨fun _ t h K=>zO7 ((zl a).ev t) fun _ n=>K (.int k (zCF k n)) h⟩
 | .build zero parts=>⟨fun _ t h K=>Zc (y9 zero (parts.map fun(a,b,x)=>(a,b,(zl x).ev t))) fun cells=>K (.agg cells.toArray) h⟩
 | .buildSlice len c zero parts=>⟨fun _ t h K=>Zc (y9 (zS zero len) (parts.map fun(a,b,x)=>(a,b,(zl x).ev t))) fun cells=>K (.slice (some ⟨h.n,0,none⟩) len c) (zC4 h (.row cells true 0))⟩
 | .part agg off n a=>⟨fun _ t h K=>match(zl a).ev t with
   | .agg cs=>Zc (zGf cs.toList off n) fun l=>Zc (zI agg l) fun v=>K v h
   |_=>none⟩
 | .mkFunc fn first cap=>⟨fun _ t h K=>match fn with
   | .func f=>K (.func (.func f) (first.map fun a=>(zl a).ev t).toArray (cap.map fun a=>(zl a).ev t).toArray) h
   |_=>none⟩
 | .lenC n=>⟨fun _ _ h K=>K (.int .i64 (Int.ofNat n)) h⟩
 | .append c a b=>⟨fun _ t h K=>Zi (z8 c ((zl a).ev t) ((zl b).ev t) h) K⟩
 |op=>⟨fun _ t h K=>Zi (WN P Ex.bot t h op) K⟩
theorem zEz(parts:List (Nat×Nat×Operand))(t:WI Value):(parts.map fun(a,b,x)=>(a,b,(zl x).ev t))=zr t parts:=by
 unfold zr;apply Gz;rintro⟨a,b,x⟩ _;show(a,b,(zl x).ev t)=(a,b,ev t x);rw[zj]
theorem zCH(args:List Operand)(t:WI Value):(args.map fun a=>(zl a).ev t)=args.map (ev t):=by
 apply Gz;intro a _;exact zj a t
theorem zOD(ok:Bd e x)(op:W4)(t:WI Value)(h:WF)(K:Value->WF->R):(zN9 P op).run x t h K=Zi (WN P e t h op) K:=by
 have slow:Y0 op=true->Zi (WN P Ex.bot t h op) K=Zi (WN P e t h op) K:=fun hp=>by rw[zKM e hp]
 cases op with
 |mov a=>show K ((zl a).ev t) h=_;rw[zj];rfl
 |pick c a b=>
  show zDI ((zl c).ev t) (fun q=>K (yR q ((zl a).ev t) ((zl b).ev t)) h)=_;rw[zj,zj,zj];simp only[WN];cases ev t c with
  |bool q=>cases q<;>rfl
  |_=>rfl
 |bin op a b=>
  show(zPf op).run ((zl a).ev t) ((zl b).ev t) (fun v=>K v h)=_;rw[zj,zj,zOA];simp only[WN,Zi];cases yC op (ev t a) (ev t b)<;>rfl
 |load agg n a=>
  simp only[WN];cases hn:(Nat.beq n 1&& !agg)with
  |true=>
   rw[QJ]at hn;obtain⟨h1,h2⟩:=hn;have h1:=QI h1;have h2:agg=false:=by cases agg<;>simp_all
   subst h1 h2;show zFw ((zl a).ev t) (fun a=>yR a.spot.isNone (zI9 h a.block fun cells=>Zc (zLf cells a.off) fun v=>K v h) none)=_;rw[zj];cases ev t a with
   |pointer p=>
    cases p with
    |none=>rfl
    |some ad=>
     dsimp only;show yR ad.spot.isNone _ none=_;rw[yL];cases ad.spot.isNone with
     |false=>rfl
     |true=>
      simp only[cond_true,zJ3,Zi];cases zv h ad.block with
      |none=>rfl
      |some cells=>
       simp only[QQ,ZC,zGj,zMa];cases cells[ad.off]?<;>rfl
   |_=>rfl
  |false=>
   have:zN9 P (.load agg n a)=⟨fun _ t h K=>zFw ((zl a).ev t) fun a=>yR a.spot.isNone (zI9 h a.block fun cells=>Zc (zGf cells a.off n) fun l=>Zc (zI agg l) fun v=>K v h) none⟩:=by
    show yR (Nat.beq n 1&& !agg) _ _=_;rw[hn];rfl
   rw[this];show zFw ((zl a).ev t) (fun a=>yR a.spot.isNone (zI9 h a.block fun cells=>Zc (zGf cells a.off n) fun l=>Zc (zI agg l) fun v=>K v h) none)=_;rw[zj];cases ev t a with
   |pointer p=>
    cases p with
    |none=>rfl
    |some ad=>
     dsimp only;show yR ad.spot.isNone _ none=_;rw[yL];cases ad.spot.isNone with
     |false=>rfl
     |true=>
      simp only[cond_true,zJ3,Zi];cases zv h ad.block with
      |none=>rfl
      |some cells=>
       simp only[QQ,ZC,zDQ];cases cut cells ad.off n with
       |none=>rfl
       |some l=>simp only[QQ];cases zI agg l<;>rfl
   |_=>rfl
 |store n a b=>
  show zFw ((zl a).ev t) (fun a=>yR (Nat.beq n 1) (match(zl b).ev t with
   | .agg cs=>bif Nat.beq cs.size n then(ze h a cs.toList).bind fun h=>K undef h else none
   |v=>zCI h a v fun h=>K undef h) (Zi (bif Nat.beq ((zl b).ev t).cells.size n then(ze h a ((zl b).ev t).cells.toList).map (undef,·)else none) K))=_
  rw[zj,zj];simp only[WN];cases ev t a with
  |pointer p=>
   cases p with
   |none=>rfl
   |some ad=>
    show yR (Nat.beq n 1) _ _=_;rw[yL];cases hn:Nat.beq n 1 with
    |false=>rfl
    |true=>
     have:=QI hn;subst this;simp only[cond_true];have plain:∀ v:Value,v.cells.size=1->(∀ cs,v≠ .agg cs)->(zCI h ad v fun h=>K undef h)=Zi (bif Nat.beq v.cells.size 1 then(ze h ad v.cells.toList).map (undef,·)else none) K:=fun v h1 h2=>by
      have h3:Nat.beq v.cells.size 1=true:=by rw[h1];rfl
      rw[zIk h ad v h1 h2,h3,cond_true,Zi];cases ze h ad v.cells.toList<;>rfl
     cases ev t b with
     |agg cs=>
      simp only[Value.cells];cases Nat.beq cs.size 1 with
      |false=>rfl
      |true=>simp only[cond_true,Zi];cases ze h ad cs.toList<;>rfl
     |_=>exact plain _ rfl (fun cs=>by simp)
  |_=>rfl
 |idx c a i=>
  show(match(zl a).ev t with
   | .slice (some a) len k=>zQB ((zl i).ev t) fun i=>yR (Nat.ble (Nat.succ i) len) (yR (Nat.beq k c) (yR a.spot.isNone (K (.pointer (some ⟨a.block,Nat.add a.off (Nat.mul i c),none⟩)) h) none) none) none
   |_=>none)=_
  rw[zj,zj];simp only[WN];cases ev t a with
  |slice p len k=>
   cases p with
   |none=>rfl
   |some ad=>
    simp only[zN6];cases BH (ev t i)with
    |none=>rfl
    |some j=>
     simp only[QQ,yL];have hs:Nat.ble (Nat.succ j) len=Nat.ble (j+1) len:=rfl;rw[hs];cases Nat.ble (j+1) len<;>cases Nat.beq k c<;>cases ad.spot.isNone<;>rfl
  |_=>rfl
 |fld off a=>
  show zFw ((zl a).ev t) (fun a=>yR a.spot.isNone (K (.pointer (some ⟨a.block,Nat.add a.off off,none⟩)) h) none)=_;rw[zj];simp only[WN];cases ev t a with
  |pointer p=>
   cases p with
   |none=>rfl
   |some ad=>dsimp only;show yR ad.spot.isNone _ none=_;rw[yL];cases ad.spot.isNone<;>rfl
  |_=>rfl
 |len a=>
  show(match(zl a).ev t with
   | .slice _ n _=>K (.int .i64 (Int.ofNat n)) h
   |_=>none)=_
  rw[zj];simp only[WN];cases ev t a<;>rfl
 |nilCheck a=>
  show Zc (Zv ((zl a).ev t)) (fun v=>K v h)=_;rw[zj,ZC];simp only[WN,Zi];cases Zv (ev t a)<;>rfl
 |extract a i=>
  show(match(zl a).ev t with
   | .tuple vs=>Zc (zLf vs.toList i) fun v=>K v h
   |_=>none)=_
  rw[zj];simp only[WN];cases ev t a with
  |tuple vs=>
   simp only[ZC,zGj,Array.getElem?_toList];cases vs[i]?<;>rfl
  |_=>rfl
 |alloc zero=>show K _ (zC4 h _)=_;rw[zEW];rfl
 |box a=>show K _ (zC4 h (.row ((zl a).ev t).cells.toList true 0))=_;rw[zEW,zj];rfl
 |call f args=>
  show zGR x ((zl f).ev t) (args.map fun a=>(zl a).ev t) h K=_;rw[zCH,zj,zFU ok];rfl
 |invoke a name args=>
  show(match(zl a).ev t with
   | .iface ty v=>Zc (Ya P ty name) fun f=>x.call f (v::args.map fun a=>(zl a).ev t) h K
   |_=>Zi (WN P Ex.bot t h (.invoke a name args)) K)=_
  rw[zj,zCH];simp only[WN];cases hv:ev t a with
  |iface ty v=>
   simp only[Y2,ZC];cases Ya P ty name with
   |none=>rfl
   |some f=>simp only[QQ];exact ok.call _ _ _ _
  |_=>rfl
 |un op a=>
  show Zc (unV op ((zl a).ev t)) (fun v=>K v h)=_;rw[zj,ZC];simp only[WN,Zi];cases unV op (ev t a)<;>rfl
 |isNil kind neg a=>
  show Zc (zDK kind ((zl a).ev t)) (fun b=>K (.bool (if neg then !b else b)) h)=_;rw[zj,ZC];simp only[WN,Zi];cases zDK kind (ev t a)<;>rfl
 |binB neg a b=>
  show zDI ((zl a).ev t) (fun x=>zDI ((zl b).ev t) fun y=>K (.bool (if neg then x != y else x == y)) h)=_;rw[zj,zj];simp only[WN];cases ev t a with
  |bool x=>cases ev t b<;>rfl
  |_=>rfl
 |conv k a=>
  show zO7 ((zl a).ev t) (fun _ n=>K (.int k (zCF k n)) h)=_;rw[zj];simp only[WN];cases ev t a with
  |int kk n=>show K (.int k (zCF k n)) h=_;rw[zA3];rfl
  |_=>rfl
 |build zero parts=>
  show Zc (y9 zero (parts.map fun(a,b,x)=>(a,b,(zl x).ev t))) (fun cells=>K (.agg cells.toArray) h)=_;rw[zEz,ZC];simp only[WN,Zi];cases y9 zero (zr t parts)<;>rfl
 |buildSlice len c zero parts=>
  show Zc (y9 (zS zero len) (parts.map fun(a,b,x)=>(a,b,(zl x).ev t))) (fun cells=>K (.slice (some ⟨h.n,0,none⟩) len c) (zC4 h (.row cells true 0)))=_;rw[zEz,ZC];simp only[WN,Zi,zEW];cases y9 (zS zero len) (zr t parts)<;>rfl
 |part agg off n a=>
  show(match(zl a).ev t with
   | .agg cs=>Zc (zGf cs.toList off n) fun l=>Zc (zI agg l) fun v=>K v h
   |_=>none)=_
  rw[zj];simp only[WN];cases ev t a with
  |agg cs=>
   simp only[zDQ,ZC];cases cut cs.toList off n with
   |none=>rfl
   |some l=>simp only[QQ];cases zI agg l<;>rfl
  |_=>rfl
 |mkFunc fn first cap=>
  show(match fn with
   | .func f=>K (.func (.func f) (first.map fun a=>(zl a).ev t).toArray (cap.map fun a=>(zl a).ev t).toArray) h
   |_=>none)=_
  rw[zCH,zCH];simp only[WN];cases fn<;>rfl
 |append c a b=>
  show Zi (z8 c ((zl a).ev t) ((zl b).ev t) h) K=_;rw[zj,zj];rfl
 |dfr f args=>rfl
 |dfrClear _ _ _ _=>rfl
 |recover=>rfl
 |_=>first|rfl|(show Zi (WN P Ex.bot t h _) K=_;exact slow rfl)
end
abbrev FrK:=WR->WF->R
def frK(x:Option (WR×WF))(K:FrK):R:=x.bind fun p=>K p.1 p.2
structure CloO where
 run:ExK->WR->WF->FrK->R
structure CloD where
 set:WI Value->Value->WI Value
def zHn(d:Option Nat):CloD:=
 match d with
 |some d=>⟨(B1 64 d).set⟩
 |none=>⟨fun t _=>t⟩
theorem zJ1(d:Option Nat)(fr:WR)(v:Value):(⟨(zHn d).set fr.tm v,fr.dfs,fr.round⟩:WR)=val d fr v:=by
 cases d with
 |none=>rfl
 |some d=>show(⟨(B1 64 d).set fr.tm v,fr.dfs,fr.round⟩:WR)=_;rw[(zF3 64 d).2];rfl
def zL6:W4->Bool
 | .dfr .. | .dfrClear .. | .recover=>true
 |_=>false
def zKe(P:Program)(op:W4)(d:Option Nat):CloO:=
 yR (zL6 op) ⟨fun _ fr h K=>(zk P Ex.bot fr.tm fr.round h op).bind fun p=>K (val d {fr with dfs:=p.2.1++fr.dfs} p.1) p.2.2⟩
  ⟨fun x fr h K=>(zN9 P op).run x fr.tm h fun v h=>K ⟨(zHn d).set fr.tm v,fr.dfs,fr.round⟩ h⟩
def zLe(P:Program)(o:WG):CloO:=
 match o.guard with
 |none=>zKe P o.op o.dst
 |some (j,want)=>⟨fun x fr h K=>match(zl (.tmp j)).ev fr.tm with
  | .bool b=>yR (b == want) ((zKe P o.op o.dst).run x fr h K) (K ⟨(zHn o.dst).set fr.tm undef,fr.dfs,fr.round⟩ h)
  |_=>K ⟨(zHn o.dst).set fr.tm undef,fr.dfs,fr.round⟩ h⟩
section
variable {P:Program}{e:Ex}{x:ExK}
theorem zOB(ok:Bd e x)(op:W4)(d:Option Nat)(fr:WR)(h:WF)(K:FrK):
  (zKe P op d).run x fr h K=(zk P e fr.tm fr.round h op).bind fun p=>K (val d {fr with dfs:=p.2.1++fr.dfs} p.1) p.2.2:=by
 unfold zKe;cases hd:zL6 op with
 |true=>
  show(zk P Ex.bot fr.tm fr.round h op).bind _=_;have:zk P Ex.bot fr.tm fr.round h op=zk P e fr.tm fr.round h op:=by cases op<;>first|(cases hd;done)|rfl
  rw[this]
 |false=>
  show(zN9 P op).run x fr.tm h (fun v h=>K ⟨(zHn d).set fr.tm v,fr.dfs,fr.round⟩ h)=_;rw[zOD ok];have e1:zk P e fr.tm fr.round h op=match WN P e fr.tm h op with
   |some (v,h)=>some (v,[],h)
   |none=>none:=by cases op<;>first|(cases hd;done)|rfl
  rw[e1];cases WN P e fr.tm h op with
  |none=>rfl
  |some q=>
   obtain⟨v,h⟩:=q;show K ⟨(zHn d).set fr.tm v,fr.dfs,fr.round⟩ h=K (val d {fr with dfs:=[]++fr.dfs} v) h;rw[zJ1];rfl
theorem zJu(ok:Bd e x)(o:WG)(fr:WR)(h:WF)(K:FrK):(zLe P o).run x fr h K=frK (yD P e o fr h) K:=by
 obtain⟨d,g,op⟩:=o;have plain:(zKe P op d).run x fr h K=frK (match zk P e fr.tm fr.round h op with
  |some (v,ds,h)=>some (val d {fr with dfs:=ds++fr.dfs} v,h)
  |none=>none) K:=by
  rw[zOB ok];cases zk P e fr.tm fr.round h op<;>rfl
 cases g with
 |none=>exact plain
 |some g=>
  obtain⟨j,want⟩:=g;have e0:(zLe P ⟨d,some (j,want),op⟩).run x fr h K=(match(zl (.tmp j)).ev fr.tm with
   | .bool b=>yR (b == want) ((zKe P op d).run x fr h K) (K ⟨(zHn d).set fr.tm undef,fr.dfs,fr.round⟩ h)
   |_=>K ⟨(zHn d).set fr.tm undef,fr.dfs,fr.round⟩ h):=rfl
  have e1:yD P e ⟨d,some (j,want),op⟩ fr h=bif (match zC fr.tm j with| .bool b=>b == want|_=>false)then(match zk P e fr.tm fr.round h op with
   |some (v,ds,h)=>some (val d {fr with dfs:=ds++fr.dfs} v,h)
   |none=>none)else some (val d fr undef,h):=rfl
  rw[e0,e1,plain,zj,zJ1];have e2:ev fr.tm (.tmp j)=zC fr.tm j:=rfl;rw[e2];cases zC fr.tm j with
  |bool b=>
   dsimp only;rw[yL];cases(b == want)<;>rfl
  |_=>rfl
def zKE(P:Program)(l:List WG):CloO:=
 @List.rec WG (fun _=>CloO) ⟨fun _ fr h K=>K fr h⟩ (fun o _ k=>⟨fun x fr h K=>(zLe P o).run x fr h fun fr h=>k.run x fr h K⟩) l
theorem zG0(ok:Bd e x):∀ (l:List WG) (fr:WR) (h:WF) (K:FrK),(zKE P l).run x fr h K=frK (yT P e l fr h) K
 |[],_,_,_=>rfl
 |o::l,fr,h,K=>by
  show(zLe P o).run x fr h (fun fr h=>(zKE P l).run x fr h K)=_;rw[zJu ok];simp only[yT,frK];cases yD P e o fr h with
  |none=>rfl
  |some q=>exact zG0 ok l q.1 q.2 K
structure CloC where
 run:ExK->Nat->WR->WF->FrK->R
def zOt(P:Program)(o:WG):CloC:=
 yR (Nat.beq (zG o.op) 3) ⟨fun _ g fr h K=>frK (yB P Ex.bot g o fr h) K⟩ ⟨fun x _ fr h K=>(zLe P o).run x fr h K⟩
theorem zOL(ok:Bd e x)(o:WG)(g:Nat)(fr:WR)(h:WF)(K:FrK):(zOt P o).run x g fr h K=frK (yB P e g o fr h) K:=by
 unfold zOt;cases hk:Nat.beq (zG o.op) 3 with
 |true=>
  show frK (yB P Ex.bot g o fr h) K=_;unfold yB;simp only[hk,cond_true]
 |false=>
  show(zLe P o).run x fr h K=_;rw[zJu ok];unfold yB;simp only[hk,QR]
abbrev RsT:=List (Nat×Nat×Option (Nat×Nat×List Value))
structure CloR where
 run:ExK->Nat->Nat->List (Nat×Nat)->RsT->List (Nat×Nat)->WR->WF->(WR->WF->List (Nat×Nat)->R)->R
def Bz(o:WG)(un:List Nat)(ws:List (Nat×Nat))(rs:RsT)(bs:List (Nat×Nat))(t:WI Value)(h':WF):Bool:=
 (match zi t o with
  |some g=>(ws.all fun(j,g')=> !(Nat.beq g g'&&un.contains j))&&bs.all fun(j,n)=> !un.contains j||Nat.ble (g+1) n
  |none=>true)&&rs.all fun(j,g,vw)=> !(un.contains j&&h'.wr.contains g)||zDC h' g vw
def okF(o:WG)(un:List Nat)(ws:List (Nat×Nat))(rs:RsT)(bs:List (Nat×Nat))(t:WI Value)(h':WF):Bool:=
 match un with
 |[]=>true
 |un=>Bz o un ws rs bs t h'
theorem zP3(o:WG)(un:List Nat)(ws:List (Nat×Nat))(rs:RsT)(bs:List (Nat×Nat))(t:WI Value)(h':WF):okF o un ws rs bs t h'=Bz o un ws rs bs t h':=by
 cases un with
 |cons a l=>rfl
 |nil=>
  unfold okF Bz;cases zi t o<;>simp
def zOz(P:Program)(l:List (WG×List Nat)):CloR:=
 @List.rec (WG×List Nat) (fun _=>CloR) ⟨fun _ _ _ ws _ _ fr h K=>K fr h ws⟩
  (fun o _ k=>⟨fun x i g ws rs bs fr h K=>(zOt P o.1).run x g fr ⟨h.n,h.tab,h.n,[]⟩ fun fr' h'=>
   yR (okF o.1 o.2 ws rs bs fr.tm h') (k.run x (Nat.succ i) (yR (Nat.beq (zG o.1.op) 3) (Nat.succ g) g) (h'.wr.map (fun g=>(i,g))++ws) (match zi fr.tm o.1 with
     |some g=>(i,g,Yw fr.tm h o.1.op)::rs
     |none=>rs) ((i,h.n)::bs) fr' h' K) none⟩) l
theorem zKL(ok:Bd e x):∀ (l:List (WG×List Nat)) (i g:Nat) (ws:List (Nat×Nat)) (rs:RsT) (bs:List (Nat×Nat)) (fr:WR) (h:WF) (K:WR->WF->List (Nat×Nat)->R),
  (zOz P l).run x i g ws rs bs fr h K=(yF P e l i g ws rs bs fr h).bind fun p=>K p.1 p.2.1 p.2.2
 |[],_,_,_,_,_,_,_,_=>rfl
 |(o,un)::l,i,g,ws,rs,bs,fr,h,K=>by
  show(zOt P o).run x g fr ⟨h.n,h.tab,h.n,[]⟩ (fun fr' h'=>
   yR (okF o un ws rs bs fr.tm h') ((zOz P l).run x (Nat.succ i) (yR (Nat.beq (zG o.op) 3) (Nat.succ g) g) (h'.wr.map (fun g=>(i,g))++ws) (match zi fr.tm o with
     |some g=>(i,g,Yw fr.tm h o.op)::rs
     |none=>rs) ((i,h.n)::bs) fr' h' K) none)=_
  rw[zOL ok,yF];show frK (yB P e g o fr {h with mark:=h.n,wr:=[]}) _=_;cases yB P e g o fr {h with mark:=h.n,wr:=[]} with
  |none=>rfl
  |some q=>
   obtain⟨fr',h'⟩:=q;show yR (okF o un ws rs bs fr.tm h') _ none=(bif Bz o un ws rs bs fr.tm h' then _ else none).bind _;rw[zP3,yL];cases Bz o un ws rs bs fr.tm h' with
   |false=>rfl
   |true=>simp only[cond_true];rw[zKL ok l,yL];rfl
structure CloX where
 run:ExK->WR->WF->(WP->WR->WF->R)->R
def zQN(l:List (WG×List Nat)):Nat:=(l.filter fun x=>Nat.beq (zG x.1.op) 3).length
def zGB(x:ExK)(b:WU)(n:Nat):WU->WR->WF->(WP->WR->WF->R)->R:=
 @Nat.rec (fun _=>WU->WR->WF->(WP->WR->WF->R)->R) (fun _ _ _ _=>none) (fun _ k c fr h K=>x.exec c fr h fun e fr h=>match e with
  | .goto l=>(match zx b l with
   |some rest=>k rest fr h K
   |none=>K (.goto l) fr h)
  |e=>K e fr h) n
def exK(x:Option (WP×WR×WF))(K:WP->WR->WF->R):R:=x.bind fun p=>K p.1 p.2.1 p.2.2
theorem zFX(ok:Bd e x)(b:WU):∀ (n:Nat) (c:WU) (fr:WR) (h:WF) (K:WP->WR->WF->R),zGB x b n c fr h K=exK (Zk e n b c fr h) K
 |0,_,_,_,_=>rfl
 |n+1,c,fr,h,K=>by
  show x.exec c fr h (fun e fr h=>match e with
   | .goto l=>(match zx b l with
    |some rest=>zGB x b n rest fr h K
    |none=>K (.goto l) fr h)
   |e=>K e fr h)=_
  rw[ok.exec];simp only[Zk];cases e.exec c fr h with
  |none=>rfl
  |some p=>
   obtain⟨ex,fr1,h1⟩:=p;cases ex with
   |goto l=>
    simp only[QQ];cases zx b l with
    |none=>rfl
    |some rest=>exact zFX ok b n rest fr1 h1 K
   |_=>rfl
def zDe(x:ExK)(f:Value)(params:List Nat)(assign body:WU)(fr:WR)(d:Nat)(mark:List Deferred)(h:WF)(K:WP->WR->WF->R):R:=
 zGR x f [.func (.yield h.n) #[] #[]] (h.push (.loop {state:= .ready,pending:=none,fn:=0,tm:=fr.tm,params,assign,body,defers:=d})) fun _ h2=>
  match h2.get h.n with
  |some (.loop r)=>
   match r.state with
   | .busy=>none
   |_=>match r.pending with
    |none=>K .normal {fr with dfs:=mark++fr.dfs} (h2.set h.n (.loop {r with state:= .exhausted}))
    |some .ret=>K .ret {fr with dfs:=mark++fr.dfs} (h2.set h.n (.loop {r with state:= .exhausted}))
    |some (.exit id)=>K (.exit id) {fr with dfs:=mark++fr.dfs} (h2.set h.n (.loop {r with state:= .exhausted}))
    |some (.goto g)=>K (.goto g) {fr with dfs:=mark++fr.dfs} (h2.set h.n (.loop {r with state:= .exhausted}))
    |some _=>none
  |_=>none
theorem zEh(ok:Bd e x)(f:Value)(params:List Nat)(assign body:WU)(fr:WR)(d:Nat)(mark:List Deferred)(h:WF)(K:WP->WR->WF->R):
  zDe x f params assign body fr d mark h K=exK (Yu e f params assign body fr d mark h) K:=by
 unfold zDe Yu;rw[zFU ok];cases zAK e f [.func (.yield h.n) #[] #[]] (h.push (.loop {state:= .ready,pending:=none,fn:=0,tm:=fr.tm,params,assign,body,defers:=d}))with
 |none=>rfl
 |some p=>
  obtain⟨v,h2⟩:=p;simp only[Zi,QQ];cases h2.get h.n with
  |none=>rfl
  |some o=>
   cases o with
   |loop r=>
    simp only;cases r.state<;>(simp only;try rfl)<;>(cases r.pending with
     |none=>rfl
     |some c=>cases c<;>rfl)
   |_=>rfl
def zGF(x:ExK)(f:Value)(params:List Nat)(assign body:WU)(fr:WR)(h:WF)(K:WP->WR->WF->R):R:=
 match fr.round with
 |none=>zDe x f params assign body fr h.n [{target:= .collected h.n,args:=#[]}] (h.push (.deferred (some []))) K
 |some l=>match h.get l with
  |some (.loop r)=>zDe x f params assign body fr r.defers [] h K
  |_=>none
theorem zK1(ok:Bd e x)(f:Value)(params:List Nat)(assign body:WU)(fr:WR)(h:WF)(K:WP->WR->WF->R):zGF x f params assign body fr h K=exK (zAe e f params assign body fr h) K:=by
 unfold zGF zAe;cases fr.round with
 |none=>exact zEh ok _ _ _ _ _ _ _ _ _
 |some l=>
  simp only;cases h.get l with
  |none=>rfl
  |some o=>
   cases o with
   |loop r=>exact zEh ok _ _ _ _ _ _ _ _ _
   |_=>rfl
def zQM(P:Program)(c:WU):CloX:=
 match c with
 | .skip=>⟨fun _ fr h K=>K .normal fr h⟩
 | .label _=>⟨fun _ fr h K=>K .normal fr h⟩
 | .region ops=>⟨fun x fr h K=>(zKE P ops).run x fr h fun fr h=>K .normal fr h⟩
 | .regionC ops=>⟨fun x fr h K=>(zOz P ops).run x 0 h.n [] [] [] fr ⟨Nat.add h.n (zQN ops),h.tab,h.mark,h.wr⟩ fun fr' h' ws=>K .normal fr' ⟨h'.n,h'.tab,h.mark,((ws.map (·.2)).filter fun g=> !Nat.ble h.mark g)++h.wr⟩⟩
 | .seq a b=>⟨fun x fr h K=>x.exec a fr h fun e fr h=>match e with
  | .normal=>x.exec b fr h K
  |e=>K e fr h⟩
 | .cond c a b=>⟨fun x fr h K=>zDI ((zl c).ev fr.tm) fun q=>yR q (x.exec a fr h K) (x.exec b fr h K)⟩
 | .block id b=>⟨fun x fr h K=>x.exec b fr h fun e fr h=>match e with
  | .exit id'=>yR (Nat.beq id' id) (K .normal fr h) (K (.exit id') fr h)
  |e=>K e fr h⟩
 | .loop b=>⟨fun x fr h K=>x.exec b fr h fun e fr h=>match e with
  | .normal=>x.exec (.loop b) fr h K
  |e=>K e fr h⟩
 | .exit id=>⟨fun _ fr h K=>K (.exit id) fr h⟩
 | .goto l=>⟨fun _ fr h K=>K (.goto l) fr h⟩
 | .ret=>⟨fun _ fr h K=>K .ret fr h⟩
 | .scope b=>⟨fun x fr h K=>zGB x b zEx b fr h K⟩
 | .rangeFunc f params assign body=>⟨fun x fr h K=>zGF x ((zl f).ev fr.tm) params assign body fr h K⟩
theorem zOm(ok:Bd e x)(c:WU)(fr:WR)(h:WF)(K:WP->WR->WF->R):(zQM P c).run x fr h K=exK (zh P e c fr h) K:=by
 cases c with
 |region ops=>
  show(zKE P ops).run x fr h (fun fr h=>K .normal fr h)=_;rw[zG0 ok];simp only[zh,frK,exK];cases yT P e ops fr h<;>rfl
 |regionC ops=>
  show(zOz P ops).run x 0 h.n [] [] [] fr ⟨Nat.add h.n (zQN ops),h.tab,h.mark,h.wr⟩ (fun fr' h' ws=>K .normal fr' ⟨h'.n,h'.tab,h.mark,((ws.map (·.2)).filter fun g=> !Nat.ble h.mark g)++h.wr⟩)=_;rw[zKL ok];simp only[zh,exK,YN];have:(⟨Nat.add h.n (zQN ops),h.tab,h.mark,h.wr⟩:WF)={h with n:=h.n+(ops.filter fun x=>Nat.beq (zG x.1.op) 3).length}:=rfl;rw[this];cases yF P e ops 0 h.n [] [] [] fr {h with n:=h.n+(ops.filter fun x=>Nat.beq (zG x.1.op) 3).length}<;>rfl
 |seq a b=>
  show x.exec a fr h (fun e fr h=>match e with
   | .normal=>x.exec b fr h K
   |e=>K e fr h)=_
  rw[ok.exec];simp only[zh,exK];cases e.exec a fr h with
  |none=>rfl
  |some p=>
   obtain⟨ex,fr1,h1⟩:=p;cases ex with
   |normal=>exact ok.exec _ _ _ _
   |_=>rfl
 |cond c a b=>
  show zDI ((zl c).ev fr.tm) (fun q=>yR q (x.exec a fr h K) (x.exec b fr h K))=_;rw[zj];simp only[zh,exK];cases ev fr.tm c with
  |bool q=>cases q<;>exact ok.exec _ _ _ _
  |_=>rfl
 |block id b=>
  show x.exec b fr h (fun e fr h=>match e with
   | .exit id'=>yR (Nat.beq id' id) (K .normal fr h) (K (.exit id') fr h)
   |e=>K e fr h)=_
  rw[ok.exec];simp only[zh,exK];cases e.exec b fr h with
  |none=>rfl
  |some p=>
   obtain⟨ex,fr1,h1⟩:=p;cases ex with
   |exit i=>
    simp only[QQ];rw[yL];by_cases hi:i=id
    ·subst hi;simp
    ·have:Nat.beq i id=false:=by rw[Bool.eq_false_iff];intro hb;exact hi (QI hb)
     rw[this,QC hi];rfl
   |_=>rfl
 |loop b=>
  show x.exec b fr h (fun e fr h=>match e with
   | .normal=>x.exec (.loop b) fr h K
   |e=>K e fr h)=_
  rw[ok.exec];simp only[zh,exK];cases e.exec b fr h with
  |none=>rfl
  |some p=>
   obtain⟨ex,fr1,h1⟩:=p;cases ex with
   |normal=>exact ok.exec _ _ _ _
   |_=>rfl
 |scope b=>
  show zGB x b zEx b fr h K=exK (Zk e zEx b b fr h) K;exact zFX ok b zEx b fr h K
 |rangeFunc f ps a b=>
  show zGF x ((zl f).ev fr.tm) ps a b fr h K=_;rw[zj];exact zK1 ok _ _ _ _ _ _ _
 |_=>rfl
def zAm(x:ExK)(ds:List Deferred):WF->(WF->R)->R:=
 @List.rec Deferred (fun _=>WF->(WF->R)->R) (fun h K=>K h) (fun d _ k h K=>match d.target with
  | .fn (.func f) cap=>x.call f (d.args.toList++cap.toList) h fun _ h=>k h K
  | .builtin .clear _ _ _=>match d.args.toList with
   |[.map (some g)]=>match h.get g with
    |some (.map _ clock)=>k (h.set g (.map [] clock)) K
    |_=>none
   |_=>none
  | .collected g=>match h.get g with
   |some (.deferred (some []))=>k (h.set g (.deferred none)) K
   |_=>none
  |_=>none) ds
theorem zAY(ok:Bd e x):∀ (ds:List Deferred) (h:WF) (K:WF->R),zAm x ds h K=(yX e ds h).bind K
 |[],_,_=>rfl
 |d::ds,h,K=>by
  obtain⟨tg,as⟩:=d;show(match tg with
   | .fn (.func f) cap=>x.call f (as.toList++cap.toList) h fun _ h=>zAm x ds h K
   | .builtin .clear _ _ _=>match as.toList with
    |[.map (some g)]=>match h.get g with
     |some (.map _ clock)=>zAm x ds (h.set g (.map [] clock)) K
     |_=>none
    |_=>none
   | .collected g=>match h.get g with
    |some (.deferred (some []))=>zAm x ds (h.set g (.deferred none)) K
    |_=>none
   |_=>none)=_
  rw[yX];dsimp only;have mapK:∀ g,(match h.get g with
    |some (.map _ clock)=>zAm x ds (h.set g (.map [] clock)) K
    |_=>none)=(match h.get g with
    |some (.map _ clock)=>yX e ds (h.set g (.map [] clock))
    |_=>none).bind K:=fun g=>by
   cases h.get g with
   |none=>rfl
   |some o=>cases o<;>first|exact zAY ok ds _ K|rfl
  have defK:∀ g,(match h.get g with
    |some (.deferred (some []))=>zAm x ds (h.set g (.deferred none)) K
    |_=>none)=(match h.get g with
    |some (.deferred (some []))=>yX e ds (h.set g (.deferred none))
    |_=>none).bind K:=fun g=>by
   cases h.get g with
   |none=>rfl
   |some o=>
    cases o with
    |deferred q=>
     cases q with
     |none=>rfl
     |some l=>cases l<;>first|exact zAY ok ds _ K|rfl
    |_=>rfl
  cases tg with
  |fn f cap=>
   cases f with
   |func f=>
    dsimp only;rw[ok.call];simp only[Zi];cases e.call f (as.toList++cap.toList) h with
    |none=>rfl
    |some p=>exact zAY ok ds p.2 K
   |_=>rfl
  |builtin b ts ty cs=>
   cases b with
   |clear=>
    dsimp only;generalize as.toList=l;rcases l with _|⟨a,_|⟨b,l⟩⟩
    ·rfl
    ·cases a with
     |map r=>
      cases r with
      |none=>rfl
      |some g=>exact mapK g
     |_=>rfl
    ·cases a with
     |map r=>cases r<;>rfl
     |_=>rfl
   |_=>rfl
  |collected g=>exact defK g
  |_=>rfl
def zNA(l:List Value):Nat->WI Value->WI Value:=
 @List.rec Value (fun _=>Nat->WI Value->WI Value) (fun _ t=>t) (fun v _ k n t=>k (Nat.succ n) ((B1 64 n).set t v)) l
theorem zG3:∀ (l:List Value) (k:Nat) (t:WI Value),zNA l k t=zDL l k t
 |[],_,_=>rfl
 |v::l,k,t=>by
  show zNA l (k+1) ((B1 64 k).set t v)=_;rw[zG3 l,(zF3 64 k).2];rfl
def zPd(h:WF)(t:WI Value)(r:Nat×Option (Bool×Nat)):Option Value:=
 match r with
 |(k,none)=>some ((zl (.tmp k)).ev t)
 |(k,some (agg,n))=>match(zl (.tmp k)).ev t with
  | .pointer (some a)=>yR a.spot.isNone (match zG5 h a.block with
   |some (.row cells _ _)=>(zGf cells a.off n).bind (zI agg)
   |_=>none) none
  |_=>none
theorem zO1(h:WF)(t:WI Value)(r:Nat×Option (Bool×Nat)):zPd h t r=YM h t r:=by
 obtain⟨k,o⟩:=r;cases o with
 |none=>show some ((zl (.tmp k)).ev t)=some (zC t k);rw[zj];rfl
 |some q=>
  obtain⟨agg,n⟩:=q;show(match(zl (.tmp k)).ev t with
   | .pointer (some a)=>yR a.spot.isNone (match zG5 h a.block with
    |some (.row cells _ _)=>(zGf cells a.off n).bind (zI agg)
    |_=>none) none
   |_=>none)=(match zC t k with
   | .pointer (some a)=>bif a.spot.isNone then((zv h a.block).bind fun cells=>cut cells a.off n).bind (zI agg)else none
   |_=>none)
  rw[zj];have e2:ev t (.tmp k)=zC t k:=rfl;rw[e2];cases zC t k with
  |pointer p=>
   cases p with
   |none=>rfl
   |some a=>
    dsimp only;rw[yL,zD6];unfold zv;cases a.spot.isNone with
    |false=>rfl
    |true=>
     cases h.get a.block with
     |none=>rfl
     |some o=>cases o<;>first|(simp only[zDQ];rfl)|rfl
  |_=>rfl
def zNR(h:WF)(t:WI Value)(l:List (Nat×Option (Bool×Nat))):Option (List Value):=
 @List.rec (Nat×Option (Bool×Nat)) (fun _=>Option (List Value)) (some []) (fun r _ q=> @Option.rec Value (fun _=>Option (List Value)) none (fun v=> @Option.rec (List Value) (fun _=>Option (List Value)) none (fun vs=>some (v::vs)) q) (zPd h t r)) l
theorem zH7(h:WF)(t:WI Value):∀ l,zNR h t l=z0 h t l
 |[]=>rfl
 |r::l=>by
  show @Option.rec Value (fun _=>Option (List Value)) none (fun v=> @Option.rec (List Value) (fun _=>Option (List Value)) none (fun vs=>some (v::vs)) (zNR h t l)) (zPd h t r)=_;rw[zO1,zH7 h t l,z0];cases YM h t r with
  |none=>rfl
  |some v=>cases z0 h t l<;>rfl
def zKJ(tab:Wv)(x:ExK)(f:FuncId)(args:List Value)(h:WF)(K:Value->WF->R):R:=
 match tab.stub f with
 |some s=>Zi (s args h) K
 |none=>Zc (tab.code f) fun fn=>x.exec fn.body ⟨zNA args 0 .leaf,[],none⟩ h fun e fr h=>
   yR (match e with| .normal| .ret=>true|_=>false) (zAm x fr.dfs h fun h=>Zc (zNR h fr.tm fn.results) fun vs=>K (one vs) h) none
theorem zNk(ok:Bd e x)(tab:Wv)(f:FuncId)(args:List Value)(h:WF)(K:Value->WF->R):zKJ tab x f args h K=Zi (zAo P tab e f args h) K:=by
 unfold zKJ zAo;cases tab.stub f with
 |some s=>rfl
 |none=>
  simp only;rw[ZC];unfold zCV;cases tab.code f with
  |none=>rfl
  |some fn=>
   simp only[QQ];rw[ok.exec,zG3];cases e.exec fn.body ⟨zDL args 0 .leaf,[],none⟩ h with
   |none=>rfl
   |some p=>
    obtain⟨ex,fr,h1⟩:=p;simp only[QQ,yL,zAY ok,ZC,zH7];cases ex<;>simp only[cond_true,QR,Zi,Option.bind_none];all_goals
     cases yX e fr.dfs h1 with
     |none=>rfl
     |some h2=>
      simp only[QQ];cases z0 h2 fr.tm fn.results<;>rfl
def zKW(P:Program)(tab:Wv)(n:Nat):ExK:=
 @Nat.rec (fun _=>ExK) ⟨fun _ _ _ _=>none,fun _ _ _ _=>none⟩ (fun _ x=>⟨fun c fr h K=>(zQM P c).run x fr h K,fun f args h K=>zKJ tab x f args h K⟩) n
theorem zKY(P:Program)(tab:Wv)(n:Nat):zKW P tab (n+1)=⟨fun c fr h K=>(zQM P c).run (zKW P tab n) fr h K,fun f args h K=>zKJ tab (zKW P tab n) f args h K⟩:=rfl
theorem zOP(P:Program)(tab:Wv)(n:Nat):Bd (BI P tab n) (zKW P tab n):=by
 induction n with
 |zero=>exact⟨fun _ _ _ _=>rfl,fun _ _ _ _=>rfl⟩
 |succ n ih=>
  rw[zKY];refine⟨fun c fr h K=> ?_,fun f args h K=> ?_⟩
  ·have:=zOm ih c fr h K (P:=P);exact this
  ·have:=zNk (P:=P) ih tab f args h K;exact this
theorem zNO{P:Program}{tab:Wv}{n:Nat}{f:FuncId}{args:List Value}{h:WF}{v:Value}(hx:(zKW P tab n).call f args h (fun v _=>some v)=some v):
  ((BI P tab n).call f args h).map (·.1)=some v:=by
 have e:=(zOP P tab n).call f args h fun v _=>some v;rw[hx]at e;cases hc:(BI P tab n).call f args h with
 |none=>rw[hc]at e;cases e
 |some p=>rw[hc]at e;exact e.symm
end
end
end Go.Am
