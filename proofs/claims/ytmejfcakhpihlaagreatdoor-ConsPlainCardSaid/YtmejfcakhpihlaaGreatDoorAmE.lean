/- A part of the machine and of its soundness; proves no statement. -/
import Derived.Test.YtmejfcakhpihlaaGreatDoorAmD
set_option linter.unusedVariables false
set_option linter.unusedSimpArgs false
namespace Go.Am
noncomputable section
def yR{α:Type}(b:Bool)(x y:α):α:= @Bool.rec (fun _=>α) y x b
theorem yP{α:Type}(b:Bool)(x y:α):yR b x y=bif b then x else y:=by cases b<;>rfl
def U7.getF{α:Type}(t:U7 α):Nat->Option α:=
 @U7.rec α (fun _=>Nat->Option α) (fun _=>none) (fun v _ _ gl gr k=> @Bool.rec (fun _=>Option α) (@Bool.rec (fun _=>Option α) (gr (Nat.pred (Nat.div k (nat_lit 2)))) (gl (Nat.div k (nat_lit 2))) (Nat.beq (Nat.mod k (nat_lit 2)) (nat_lit 1))) v (Nat.beq k (nat_lit 0))) t
theorem zGv{α:Type}:∀ (t:U7 α) (k:Nat),t.getF k=t.get k
 | .leaf,_=>rfl
 | .node v l r,k=>by
  show yR (Nat.beq k 0) v (yR (Nat.beq (k % 2) 1) (l.getF (k / 2)) (r.getF (k / 2-1)))=_;rw[yP,yP,zGv l,zGv r];rfl
def zKb{α:Type}(v:Option α)(f:Nat):Nat->U7 α:=
 @Nat.rec (fun _=>Nat->U7 α) (fun _=> .leaf) (fun _ p k=> @Bool.rec (fun _=>U7 α) (@Bool.rec (fun _=>U7 α) (.node none .leaf (p (Nat.pred (Nat.div k (nat_lit 2))))) (.node none (p (Nat.div k (nat_lit 2))) .leaf) (Nat.beq (Nat.mod k (nat_lit 2)) (nat_lit 1))) (.node v .leaf .leaf) (Nat.beq k (nat_lit 0))) f
theorem zFF{α:Type}(v:Option α):∀ (f k:Nat),zKb v f k=U7.put v f k .leaf
 |0,_=>rfl
 |f+1,k=>by
  show yR (Nat.beq k 0) _ (yR (Nat.beq (k % 2) 1) (U7.node none (zKb v f (k / 2)) .leaf) (.node none .leaf (zKb v f (k / 2-1))))=_;rw[yP,yP,zFF v f,zFF v f];rfl
def U7.putF{α:Type}(v:Option α)(t:U7 α):Nat->U7 α:=
 @U7.rec α (fun _=>Nat->U7 α) (fun k=>zKb v (Nat.succ k) k)
  (fun u l r pl pr k=> @Bool.rec (fun _=>U7 α) (@Bool.rec (fun _=>U7 α) (.node u l (pr (Nat.pred (Nat.div k (nat_lit 2))))) (.node u (pl (Nat.div k (nat_lit 2))) r) (Nat.beq (Nat.mod k (nat_lit 2)) (nat_lit 1))) (.node v l r) (Nat.beq k (nat_lit 0))) t
theorem zAW{α:Type}(v:Option α):∀ (f g k:Nat) (t:U7 α),k<f->k<g->U7.put v f k t=U7.put v g k t:=by
 intro f;induction f with
 |zero=>intro g k t h;omega
 |succ f ih=>
  intro g k t h1 h2;obtain⟨g,rfl⟩:∃ g',g=g'+1:=⟨g-1,by omega⟩;have hb:∀ a b:Nat,Nat.beq a b=decide (a=b):=fun a b=>by rw[GO];simp
  cases t with
  |leaf=>
   simp only[U7.put,hb];by_cases hk:k=0
   ·simp[hk]
   ·simp only[hk,decide_false,QR];rw[ih g (k / 2) _ (by omega) (by omega),ih g (k / 2-1) _ (by omega) (by omega)]
  |node u l r=>
   simp only[U7.put,hb];by_cases hk:k=0
   ·simp[hk]
   ·simp only[hk,decide_false,QR];rw[ih g (k / 2) _ (by omega) (by omega),ih g (k / 2-1) _ (by omega) (by omega)]
theorem zD2{α:Type}(v:Option α):∀ (t:U7 α) (k:Nat),t.putF v k=U7.put v (k+1) k t
 | .leaf,k=>zFF v (k+1) k
 | .node u l r,k=>by
  show yR (Nat.beq k 0) (U7.node v l r) (yR (Nat.beq (k % 2) 1) (.node u (l.putF v (k / 2)) r) (.node u l (r.putF v (k / 2-1))))=_;rw[yP,yP,zD2 v l,zD2 v r];have hb:∀ a b:Nat,Nat.beq a b=decide (a=b):=fun a b=>by rw[GO];simp
  simp only[U7.put,hb];by_cases hk:k=0
  ·simp[hk]
  ·simp only[hk,decide_false,QR];rw[zAW v (k / 2+1) k (k / 2) l (by omega) (by omega),zAW v (k / 2-1+1) k (k / 2-1) r (by omega) (by omega)]
theorem zIK(k:Nat)(v:Value)(hk:¬k=0):(U7.leaf:U7 Value).set k v=yR (Nat.beq (k % 2) 1) (.node none (U7.leaf.set (k / 2) v) .leaf) (.node none .leaf (U7.leaf.set (k / 2-1) v)):=by
 have h0:Nat.beq k 0=false:=by cases hb:Nat.beq k 0 with
  |false=>rfl
  |true=>exact absurd (QJ hb) hk
 have e:(U7.leaf:U7 Value).set k v=bif Nat.beq k 0 then U7.node (some v) .leaf .leaf else bif Nat.beq (k % 2) 1 then .node none (U7.put (some v) k (k / 2) .leaf) .leaf else .node none .leaf (U7.put (some v) k (k / 2-1) .leaf):=rfl;rw[e,h0,yP,QR,zAW _ k (k / 2+1) (k / 2) _ (by omega) (by omega),zAW _ k (k / 2-1+1) (k / 2-1) _ (by omega) (by omega)];rfl
theorem zIl(k:Nat)(v:Value)(u:Option Value)(l r:U7 Value)(hk:¬k=0):(U7.node u l r).set k v=yR (Nat.beq (k % 2) 1) (.node u (l.set (k / 2) v) r) (.node u l (r.set (k / 2-1) v)):=by
 have h0:Nat.beq k 0=false:=by cases hb:Nat.beq k 0 with
  |false=>rfl
  |true=>exact absurd (QJ hb) hk
 have e:(U7.node u l r).set k v=bif Nat.beq k 0 then U7.node (some v) l r else bif Nat.beq (k % 2) 1 then .node u (U7.put (some v) k (k / 2) l) r else .node u l (U7.put (some v) k (k / 2-1) r):=rfl;rw[e,h0,yP,QR,zAW _ k (k / 2+1) (k / 2) _ (by omega) (by omega),zAW _ k (k / 2-1+1) (k / 2-1) _ (by omega) (by omega)];rfl
structure CloG where
 get:U7 Value->Option Value
 set:U7 Value->Value->U7 Value
def Bk(f:Nat):Nat->CloG:=
 @Nat.rec (fun _=>Nat->CloG) (fun k=>⟨fun t=>t.get k,fun t v=>U7.put (some v) (k+1) k t⟩)
  (fun _ p k=> @Bool.rec (fun _=>CloG) (@Bool.rec (fun _=>CloG)
   ⟨fun t=>(p (Nat.pred (Nat.div k (nat_lit 2)))).get (@U7.rec Value (fun _=>U7 Value) .leaf (fun _ _ r _ _=>r) t),fun t v=> @U7.rec Value (fun _=>U7 Value) (.node none .leaf ((p (Nat.pred (Nat.div k (nat_lit 2)))).set .leaf v)) (fun u l r _ _=> .node u l ((p (Nat.pred (Nat.div k (nat_lit 2)))).set r v)) t⟩
   ⟨fun t=>(p (Nat.div k (nat_lit 2))).get (@U7.rec Value (fun _=>U7 Value) .leaf (fun _ l _ _ _=>l) t),fun t v=> @U7.rec Value (fun _=>U7 Value) (.node none ((p (Nat.div k (nat_lit 2))).set .leaf v) .leaf) (fun u l r _ _=> .node u ((p (Nat.div k (nat_lit 2))).set l v) r) t⟩
   (Nat.beq (Nat.mod k (nat_lit 2)) (nat_lit 1)))
   ⟨fun t=> @U7.rec Value (fun _=>Option Value) none (fun v _ _ _ _=>v) t,fun t v=> @U7.rec Value (fun _=>U7 Value) (.node (some v) .leaf .leaf) (fun _ l r _ _=> .node (some v) l r) t⟩
   (Nat.beq k (nat_lit 0))) f
theorem zG8:∀ (f k:Nat),(∀ t,(Bk f k).get t=t.get k)/\∀ t v,(Bk f k).set t v=t.set k v:=by
 intro f;induction f with
 |zero=>intro k;exact⟨fun _=>rfl,fun _ _=>rfl⟩
 |succ f ih=>
  intro k;have hb:∀ a b:Nat,Nat.beq a b=decide (a=b):=fun a b=>by rw[GO];simp
  have step:Bk (f+1) k=yR (Nat.beq k 0) ⟨fun t=> @U7.rec Value (fun _=>Option Value) none (fun v _ _ _ _=>v) t,fun t v=> @U7.rec Value (fun _=>U7 Value) (.node (some v) .leaf .leaf) (fun _ l r _ _=> .node (some v) l r) t⟩
   (yR (Nat.beq (k % 2) 1) ⟨fun t=>(Bk f (k / 2)).get (@U7.rec Value (fun _=>U7 Value) .leaf (fun _ l _ _ _=>l) t),fun t v=> @U7.rec Value (fun _=>U7 Value) (.node none ((Bk f (k / 2)).set .leaf v) .leaf) (fun u l r _ _=> .node u ((Bk f (k / 2)).set l v) r) t⟩
    ⟨fun t=>(Bk f (k / 2-1)).get (@U7.rec Value (fun _=>U7 Value) .leaf (fun _ _ r _ _=>r) t),fun t v=> @U7.rec Value (fun _=>U7 Value) (.node none .leaf ((Bk f (k / 2-1)).set .leaf v)) (fun u l r _ _=> .node u l ((Bk f (k / 2-1)).set r v)) t⟩):=rfl
  rw[step];by_cases hk:k=0
  ·subst hk;exact⟨fun t=>by cases t<;>rfl,fun t v=>by cases t<;>rfl⟩
  ·have h0:Nat.beq k 0=false:=by rw[hb];simp[hk]
   rw[h0];by_cases ho:k % 2=1
   ·have h1:Nat.beq (k % 2) 1=true:=by rw[hb];simp[ho]
    rw[h1];refine⟨fun t=> ?_,fun t v=> ?_⟩
    ·show(Bk f (k / 2)).get _=_;rw[(ih _).1];cases t with
     |leaf=>rfl
     |node u l r=>simp only[U7.get,h0,h1,cond_true,QR]
    ·cases t with
     |leaf=>
      show U7.node none ((Bk f (k / 2)).set .leaf v) .leaf=_;rw[(ih _).2,zIK k v hk,h1];rfl
     |node u l r=>
      show U7.node u ((Bk f (k / 2)).set l v) r=_;rw[(ih _).2,zIl k v u l r hk,h1];rfl
   ·have h1:Nat.beq (k % 2) 1=false:=by rw[hb];simp[ho]
    rw[h1];refine⟨fun t=> ?_,fun t v=> ?_⟩
    ·show(Bk f (k / 2-1)).get _=_;rw[(ih _).1];cases t with
     |leaf=>rfl
     |node u l r=>simp only[U7.get,h0,h1,cond_true,QR]
    ·cases t with
     |leaf=>
      show U7.node none .leaf ((Bk f (k / 2-1)).set .leaf v)=_;rw[(ih _).2,zIK k v hk,h1];rfl
     |node u l r=>
      show U7.node u l ((Bk f (k / 2-1)).set r v)=_;rw[(ih _).2,zIl k v u l r hk,h1];rfl
structure CloE where
 ev:U7 Value->Value
def zv(x:Operand):CloE:=
 match x with
 | .tmp k=>⟨fun t=> @Option.rec Value (fun _=>Value) undef (fun v=>v) ((Bk 64 k).get t)⟩
 | .const v=>⟨fun _=>v⟩
 | .global g=>⟨fun _=> .pointer (some ⟨g,0,none⟩)⟩
 | .func f=>⟨fun _=> .func (.func f) #[] #[]⟩
theorem zp(x:Operand)(t:U7 Value):(zv x).ev t=ev t x:=by
 cases x with
 |tmp k=>
  show @Option.rec Value (fun _=>Value) undef (fun v=>v) ((Bk 64 k).get t)=(t.get k).getD undef;rw[(zG8 64 k).1];cases t.get k<;>rfl
 |_=>rfl
def zIr(h:U2)(g:Nat):Option Wd:=h.tab.getF g
theorem zEF(h:U2)(g:Nat):zIr h g=h.get g:=zGv _ _
def zDR(h:U2)(o:Wd):U2:=⟨Nat.succ h.n,h.tab.putF (some o) h.n,h.mark,h.wr⟩
theorem zEU(h:U2)(o:Wd):zDR h o=h.push o:=by unfold zDR U2.push U7.set;rw[zD2]
def zNl(h:U2)(g:Nat)(o:Wd):U2:=⟨h.n,h.tab.putF (some o) g,h.mark,h.log g⟩
theorem zPo(h:U2)(g:Nat)(o:Wd):zNl h g o=h.set g o:=by unfold zNl U2.set U7.set;rw[zD2]
abbrev R:=Option Value
def Zs(x:Option (Value×U2))(K:Value->U2->R):R:=x.bind fun p=>K p.1 p.2
structure ExK where
 exec:U3->WF->U2->(WB->WF->U2->R)->R
 call:FuncId->List Value->U2->(Value->U2->R)->R
structure BR(e:Ex)(x:ExK):Prop where
 exec:∀ c fr h K,x.exec c fr h K=(e.exec c fr h).bind fun p=>K p.1 p.2.1 p.2.2
 call:∀ f args h K,x.call f args h K=Zs (e.call f args h) K
def zGh(v:Value)(k:Addr->R):R:=match v with
 | .pointer (some a)=>k a
 |_=>none
def Zp{α:Type}(x:Option α)(k:α->R):R:= @Option.rec α (fun _=>R) none k x
theorem ZG{α:Type}(x:Option α)(k:α->R):Zp x k=x.bind k:=by cases x<;>rfl
def zJ7(h:U2)(g:Nat)(k:List Value->R):R:=Zp (zIr h g) fun o=>match o with
 | .row cells _ _=>k cells
 |_=>none
theorem zKV(h:U2)(g:Nat)(k:List Value->R):zJ7 h g k=(yF h g).bind k:=by
 unfold zJ7 yF;rw[ZG,zEF];cases h.get g with
 |none=>rfl
 |some o=>cases o<;>rfl
def zQN(v:Value)(k:IntKind->Int->R):R:=match v with
 | .int kk n=>k kk n
 |_=>none
def zTD(v:Value)(k:Nat->R):R:=match v with
 | .int _ (.ofNat n)=>k n
 |_=>none
theorem zQ2(v:Value)(k:Nat->R):zTD v k=(W9 v).bind k:=by
 cases v with
 |int kk n=>cases n<;>rfl
 |_=>rfl
def zDN(k:IntKind):Nat:= @IntKind.rec (fun _=>Nat) (nat_lit 0) (nat_lit 1) (nat_lit 2) (nat_lit 3) (nat_lit 4) (nat_lit 5) (nat_lit 6) (nat_lit 7) k
theorem zN0(k k':IntKind):Nat.beq (zDN k) (zDN k')=decide (k=k'):=by cases k<;>cases k'<;>rfl
def zCQ(k:IntKind)(n:Int):Int:=match n with
 | .ofNat m=>yR (Nat.ble m (nat_lit 127)) (.ofNat m) (yR (Nat.beq (zDN k) (nat_lit 3)) (yR (Nat.ble m (nat_lit 9223372036854775807)) (.ofNat m) (k.wrap (.ofNat m))) (k.wrap (.ofNat m)))
 |n=>k.wrap n
theorem zBS(k:IntKind)(n:Int):zCQ k n=k.wrap n:=by
 unfold zCQ;cases n with
 |negSucc m=>rfl
 |ofNat m=>
  simp only[yP];cases h1:Nat.ble m 127 with
  |true=>
   have:m<=127:=QN h1;simp only[cond_true];have e:(Int.ofNat m:Int)=(m:Int):=rfl;rw[e];cases k<;>simp[IntKind.wrap,IntKind.signed,IntKind.bits]<;>omega
  |false=>
   simp only[QR];cases h2:Nat.beq (zDN k) 3 with
   |false=>rfl
   |true=>
    simp only[cond_true];have hk:k=.i64:=by cases k<;>first|rfl|cases h2
    subst hk;cases h3:Nat.ble m 9223372036854775807 with
    |false=>rfl
    |true=>
     have:m<=9223372036854775807:=QN h3;simp only[cond_true];have e:(Int.ofNat m:Int)=(m:Int):=rfl;rw[e];simp[IntKind.wrap,IntKind.signed,IntKind.bits];omega
def ltF(a b:Int):Bool:=match a,b with
 | .ofNat m,.ofNat n=>Nat.ble (Nat.succ m) n
 | .negSucc _,.ofNat _=>true
 | .ofNat _,.negSucc _=>false
 | .negSucc m,.negSucc n=>Nat.ble (Nat.succ n) m
theorem zE0(a b:Int):ltF a b=decide (a<b):=by
 have hb:∀ a b:Nat,Nat.ble a b=decide (a<=b):=fun a b=>by rw[GO];simp
 have e1:∀ n:Nat,Int.ofNat n=(n:Int):=fun _=>rfl;have e2:∀ n:Nat,Int.negSucc n= -((n:Int)+1):=fun n=>by omega
 cases a<;>cases b<;>simp only[ltF,hb]<;>rw[GO]<;>simp only[QV,Qn,true_iff,JF,e1,e2]<;>omega
def eqF(a b:Int):Bool:=match a,b with
 | .ofNat m,.ofNat n=>Nat.beq m n
 | .negSucc m,.negSucc n=>Nat.beq m n
 |_,_=>false
theorem zGe(a b:Int):eqF a b=decide (a=b):=by
 have hb:∀ a b:Nat,Nat.beq a b=decide (a=b):=fun a b=>by rw[GO];simp
 have e1:∀ n:Nat,Int.ofNat n=(n:Int):=fun _=>rfl;have e2:∀ n:Nat,Int.negSucc n= -((n:Int)+1):=fun n=>by omega
 cases a<;>cases b<;>simp only[eqF,hb]<;>rw[GO]<;>simp only[QV,Qn,true_iff,JF,e1,e2]<;>omega
def zFO(x y:Value)(k:IntKind->Int->Int->R):R:=zQN x fun kk a=>zQN y fun kk' b=>yR (Nat.beq (zDN kk) (zDN kk')) (k kk a b) none
structure CloB where
 run:Value->Value->(Value->R)->R
def zUa(op:BinOp):CloB:=
 match op with
 | .add=>⟨fun x y k=>zFO x y fun kk a b=>k (.int kk (zCQ kk (Int.add a b)))⟩
 | .sub=>⟨fun x y k=>zFO x y fun kk a b=>k (.int kk (zCQ kk (Int.sub a b)))⟩
 | .eql=>⟨fun x y k=>zFO x y fun _ a b=>k (.bool (eqF a b))⟩
 | .neq=>⟨fun x y k=>zFO x y fun _ a b=>k (.bool (!eqF a b))⟩
 | .lss=>⟨fun x y k=>zFO x y fun _ a b=>k (.bool (ltF a b))⟩
 | .gtr=>⟨fun x y k=>zFO x y fun _ a b=>k (.bool (ltF b a))⟩
 | .leq=>⟨fun x y k=>zFO x y fun _ a b=>k (.bool (!ltF b a))⟩
 | .geq=>⟨fun x y k=>zFO x y fun _ a b=>k (.bool (!ltF a b))⟩
 |op=>⟨fun x y k=>Zp (yK op x y) k⟩
theorem zRb(x y:Value)(k:IntKind->Int->Int->R):zFO x y k=match x,y with
  | .int kk a,.int kk' b=>if kk=kk' then k kk a b else none
  |_,_=>none:=by
 cases x with
 |int kk a=>
  cases y with
  |int kk' b=>
   show yR (Nat.beq (zDN kk) (zDN kk')) (k kk a b) none=if kk=kk' then k kk a b else none;rw[yP,zN0];by_cases e:kk=kk'
   ·subst e;simp
   ·simp[e]
  |_=>rfl
 |_=>rfl
theorem zHL(a b:Int):(!ltF b a)=decide (a<=b):=by
 rw[zE0,GO];simp
theorem zRh(op:BinOp)(x y:Value)(k:Value->R):(zUa op).run x y k=(yK op x y).bind k:=by
 have two:∀ {f:IntKind->Int->Int->Value} {g:Option Value},(g=match x,y with
   | .int kk a,.int kk' b=>if kk=kk' then some (f kk a b)else none
   |_,_=>none)->(zFO x y fun kk a b=>k (f kk a b))=g.bind k:=by
  intro f g hg;rw[zRb,hg];split
  ·split<;>rfl
  ·rfl
 cases op with
 |add=>refine two (f:=fun kk a b=> .int kk (zCQ kk (Int.add a b))) ?_;cases x<;>cases y<;>first|rfl|(simp only[yK,zBS];done)|(simp only[yK,zBS];rfl)
 |sub=>refine two (f:=fun kk a b=> .int kk (zCQ kk (Int.sub a b))) ?_;cases x<;>cases y<;>first|rfl|(simp only[yK,zBS];done)|(simp only[yK,zBS];rfl)
 |eql=>refine two (f:=fun kk a b=> .bool (eqF a b)) ?_;cases x<;>cases y<;>first|rfl|(simp only[yK,zGe];done)|(simp only[yK,zGe];rfl)
 |neq=>refine two (f:=fun kk a b=> .bool (!eqF a b)) ?_;cases x<;>cases y<;>first|rfl|(simp only[yK,zGe];done)|(simp only[yK,zGe];rfl)
 |lss=>refine two (f:=fun kk a b=> .bool (ltF a b)) ?_;cases x<;>cases y<;>first|rfl|(simp only[yK,zE0];done)|(simp only[yK,zE0];rfl)
 |gtr=>refine two (f:=fun kk a b=> .bool (ltF b a)) ?_;cases x<;>cases y<;>first|rfl|(simp only[yK,zE0];done)|(simp only[yK,zE0];rfl)
 |leq=>refine two (f:=fun kk a b=> .bool (!ltF b a)) ?_;cases x<;>cases y<;>first|rfl|(simp only[yK,zHL];done)|(simp only[yK,zHL];rfl)
 |geq=>refine two (f:=fun kk a b=> .bool (!ltF a b)) ?_;cases x<;>cases y<;>first|rfl|(simp only[yK,zHL,ge_iff_le];done)|(simp only[yK,zHL,ge_iff_le];rfl)
 |_=>exact ZG _ _
def zLt(l:List Value):Nat->Option Value:=
 @List.rec Value (fun _=>Nat->Option Value) (fun _=>none) (fun v _ g n=> @Nat.rec (fun _=>Option Value) (some v) (fun m _=>g m) n) l
theorem zHU:∀ (l:List Value) (n:Nat),zLt l n=l[n]?
 |[],_=>rfl
 |v::l,0=>rfl
 |v::l,n+1=>by
  show zLt l n=_;rw[zHU l n];simp
theorem zOn(l:List Value)(n:Nat):(cut l n 1).bind (zH false)=l[n]?:=by
 unfold cut;cases hb:Nat.ble (n+1) l.length with
 |true=>
  have hn:n<l.length:=QN hb;have e:(l.drop n).take 1=[l[n]]:=by rw[GI hn];rfl
  rw[cond_true,QS,e,QB hn];rfl
 |false=>
  have hn:¬n<l.length:=fun e=>by
   have:Nat.ble (n+1) l.length=true:=QH e;rw[this]at hb;cases hb
  simp[hn]
def zGD(l:List Value):Nat->Option (List Value):=
 @List.rec Value (fun _=>Nat->Option (List Value)) (fun n=> @Nat.rec (fun _=>Option (List Value)) (some []) (fun _ _=>none) n)
  (fun v _ g n=> @Nat.rec (fun _=>Option (List Value)) (some []) (fun m _=> @Option.rec (List Value) (fun _=>Option (List Value)) none (fun r=>some (v::r)) (g m)) n) l
def zG6(l:List Value):Nat->Nat->Option (List Value):=
 @List.rec Value (fun _=>Nat->Nat->Option (List Value)) (fun off n=> @Nat.rec (fun _=>Option (List Value)) (zGD [] n) (fun _ _=>none) off)
  (fun v r g off n=> @Nat.rec (fun _=>Option (List Value)) (zGD (v::r) n) (fun m _=>g m n) off) l
theorem zEN:∀ (l:List Value) (n:Nat),zGD l n=bif Nat.ble n l.length then some (l.take n)else none
 |[],0=>rfl
 |[],n+1=>rfl
 |v::l,0=>rfl
 |v::l,n+1=>by
  show @Option.rec (List Value) (fun _=>Option (List Value)) none (fun r=>some (v::r)) (zGD l n)=_;rw[zEN l n];have:Nat.ble (n+1) (v::l).length=Nat.ble n l.length:=rfl;rw[this];cases Nat.ble n l.length<;>rfl
theorem zD6:∀ (l:List Value) (off n:Nat),zG6 l off n=cut l off n
 |[],0,n=>by
  show zGD [] n=_;rw[zEN];unfold cut;rw[Q6];rfl
 |[],off+1,n=>by
  show none=cut [] (off+1) n;unfold cut;have:Nat.ble (off+1+n) ([]:List Value).length=false:=by
   rw[show off+1+n=(off+n)+1 by omega];rfl
  rw[this];rfl
 |v::l,0,n=>by
  show zGD (v::l) n=_;rw[zEN];unfold cut;rw[Q6];rfl
 |v::l,off+1,n=>by
  show zG6 l off n=_;rw[zD6 l off n];unfold cut;have:Nat.ble (off+1+n) (v::l).length=Nat.ble (off+n) l.length:=by
   rw[show off+1+n=(off+n)+1 by omega];rfl
  rw[this];rfl
def zGp(v:Value)(l:List Value):Nat->Option (List Value):=
 @List.rec Value (fun _=>Nat->Option (List Value)) (fun _=>none) (fun u r g n=> @Nat.rec (fun _=>Option (List Value)) (some (v::r)) (fun m _=> @Option.rec (List Value) (fun _=>Option (List Value)) none (fun r=>some (u::r)) (g m)) n) l
theorem zFq(v:Value):∀ (l:List Value) (n:Nat),zGp v l n=bif Nat.ble (n+1) l.length then some (zd l n [v])else none
 |[],n=>by
  have:Nat.ble (n+1) ([]:List Value).length=false:=rfl;rw[this];rfl
 |u::r,0=>rfl
 |u::r,n+1=>by
  show @Option.rec (List Value) (fun _=>Option (List Value)) none (fun r=>some (u::r)) (zGp v r n)=_;rw[zFq v r n];have:Nat.ble (n+1+1) (u::r).length=Nat.ble (n+1) r.length:=rfl;rw[this];cases Nat.ble (n+1) r.length<;>simp[zd]
structure CloV where
 run:ExK->U7 Value->U2->(Value->U2->R)->R
def zDS(v:Value)(k:Bool->R):R:=match v with
 | .bool b=>k b
 |_=>none
def zCt(h:U2)(a:Addr)(v:Value)(K:U2->R):R:=
 yR a.spot.isNone (Zp (zIr h a.block) fun o=>match o with
  | .row cells true lo=>yR (Nat.ble lo a.off) (match v with
   | .agg _=>none
   | .tuple _=>none
   |v=>Zp (zGp v cells a.off) fun cells=>K (zNl h a.block (.row cells true lo))) none
  |_=>none) none
theorem zI8(h:U2)(a:Addr)(v:Value)(hv:v.cells.size=1)(hn:∀ cs,v≠ .agg cs)(K:U2->R):zCt h a v K=(zg h a v.cells.toList).bind K:=by
 have hc:v.cells.toList=[v]:=by cases v<;>first|rfl|exact absurd rfl (hn _)
 unfold zCt zg;rw[hc,yP,ZG,zEF];cases hs:a.spot.isNone with
 |false=>
  simp only[QR];split
  ·simp
  ·rfl
 |true=>
  simp only[cond_true];cases h.get a.block with
  |none=>rfl
  |some o=>
   cases o with
   |row cells own lo=>
    cases own with
    |false=>rfl
    |true=>
     show yR (Nat.ble lo a.off) _ none=_;rw[yP];have h1:∀ K':List Value->R,(Zp (zGp v cells a.off) K')=(bif Nat.ble (a.off+1) cells.length then some (zd cells a.off [v])else none).bind K':=fun K'=>by rw[ZG,zFq]
     cases h2:Nat.ble lo a.off with
     |false=>simp[h2]
     |true=>
      simp only[h2,cond_true,Qj,Qa];cases v<;>first
       |(exact absurd rfl (hn _))
       |(simp only[h1,zPo];cases Nat.ble (a.off+1) cells.length<;>simp[zK])
   |_=>rfl
def zG9(x:ExK)(l:Nat)(r:Wo)(args:List Value)(h:U2)(K:Value->U2->R):R:=
 x.exec r.assign ⟨zBp r.params args r.tm,[],some l⟩ h fun e fr h1=>match e with
  | .normal=>(match h1.get l with
   |some (.loop r1)=>
    bif (match r1.state with| .ready=>true|_=>false)then
     x.exec r.body fr (h1.set l (.loop {r1 with state:= .busy})) fun e fr2 h2=>match fr2.dfs,h2.get l with
      |[],some (.loop r2)=>K (ZU l r2 h2 e).1 (ZU l r2 h2 e).2
      |_,_=>none
    else none
   |_=>none)
  |_=>none
def zHB(x:ExK)(f:Value)(args:List Value)(h:U2)(K:Value->U2->R):R:=
 match f with
 | .func (.func f) first cap=>x.call f (first.toList++(args++cap.toList)) h K
 | .func (.yield l) _ _=>
  match h.get l with
  |some (.loop r)=>bif Nat.beq args.length r.params.length then zG9 x l r args h K else none
  |_=>none
 |_=>none
section
variable {P:Program}{e:Ex}{x:ExK}
theorem zK5(ok:BR e x)(l:Nat)(r:Wo)(args:List Value)(h:U2)(K:Value->U2->R):zG9 x l r args h K=Zs (zA1 e l r args h) K:=by
 unfold zG9 zA1 Zs;rw[ok.exec];cases e.exec r.assign ⟨zBp r.params args r.tm,[],some l⟩ h with
 |none=>rfl
 |some p=>
  obtain⟨ex,fr,h1⟩:=p;simp only[QS];cases ex with
  |normal=>
   simp only;cases h1.get l with
   |none=>rfl
   |some o=>
    cases o with
    |loop r1=>
     simp only;cases hst:r1.state with
     |ready=>
      simp only[cond_true];rw[ok.exec];cases e.exec r.body fr (h1.set l (.loop {r1 with state:= .busy}))with
      |none=>rfl
      |some p=>
       obtain⟨e2,fr2,h2⟩:=p;simp only[QS];cases fr2.dfs with
       |nil=>
        cases h2.get l with
        |none=>rfl
        |some o=>cases o<;>rfl
       |cons d ds=>rfl
     |_=>rfl
    |_=>rfl
  |_=>rfl
theorem zF0(ok:BR e x)(f:Value)(args:List Value)(h:U2)(K:Value->U2->R):zHB x f args h K=Zs (zAh e f args h) K:=by
 cases f with
 |func fn first cap=>
  cases fn with
  |func f=>
   show x.call f (first.toList++(args++cap.toList)) h K=Zs (e.call f (first.toList++args++cap.toList) h) K;rw[ok.call,QZ]
  |yield l=>
   show(match h.get l with
    |some (.loop r)=>bif Nat.beq args.length r.params.length then zG9 x l r args h K else none
    |_=>none)=Zs (match h.get l with
    |some (.loop r)=>bif Nat.beq args.length r.params.length then zA1 e l r args h else none
    |_=>none) K
   cases h.get l with
   |none=>rfl
   |some o=>
    cases o with
    |loop r=>
     simp only;cases Nat.beq args.length r.params.length with
     |true=>exact zK5 ok _ _ _ _ _
     |false=>rfl
    |_=>rfl
  |_=>rfl
 |_=>rfl
def zQP(P:Program)(op:Wn):CloV:=
 match op with
 | .mov a=>⟨fun _ t h K=>K ((zv a).ev t) h⟩
 | .pick c a b=>⟨fun _ t h K=>zDS ((zv c).ev t) fun q=>K (yR q ((zv a).ev t) ((zv b).ev t)) h⟩
 | .bin op a b=>⟨fun _ t h K=>(zUa op).run ((zv a).ev t) ((zv b).ev t) fun v=>K v h⟩
 | .load agg n a=>yR (Nat.beq n 1&& !agg)
   ⟨fun _ t h K=>zGh ((zv a).ev t) fun a=>yR a.spot.isNone (zJ7 h a.block fun cells=>Zp (zLt cells a.off) fun v=>K v h) none⟩
   ⟨fun _ t h K=>zGh ((zv a).ev t) fun a=>yR a.spot.isNone (zJ7 h a.block fun cells=>Zp (zG6 cells a.off n) fun l=>Zp (zH agg l) fun v=>K v h) none⟩
 | .store n a b=>⟨fun _ t h K=>zGh ((zv a).ev t) fun a=>yR (Nat.beq n 1) (match(zv b).ev t with
   | .agg cs=>bif Nat.beq cs.size n then(zg h a cs.toList).bind fun h=>K undef h else none
   |v=>zCt h a v fun h=>K undef h) (Zs (bif Nat.beq ((zv b).ev t).cells.size n then(zg h a ((zv b).ev t).cells.toList).map (undef,·)else none) K)⟩
 | .idx c a i=>⟨fun _ t h K=>match(zv a).ev t with
   | .slice (some a) len k=>zTD ((zv i).ev t) fun i=>yR (Nat.ble (Nat.succ i) len) (yR (Nat.beq k c) (yR a.spot.isNone (K (.pointer (some ⟨a.block,Nat.add a.off (Nat.mul i c),none⟩)) h) none) none) none
   |_=>none⟩
 | .fld off a=>⟨fun _ t h K=>zGh ((zv a).ev t) fun a=>yR a.spot.isNone (K (.pointer (some ⟨a.block,Nat.add a.off off,none⟩)) h) none⟩
 | .len a=>⟨fun _ t h K=>match(zv a).ev t with
   | .slice _ n _=>K (.int .i64 (Int.ofNat n)) h
   |_=>none⟩
 | .nilCheck a=>⟨fun _ t h K=>Zp (Yy ((zv a).ev t)) fun v=>K v h⟩
 | .extract a i=>⟨fun _ t h K=>match(zv a).ev t with
   | .tuple vs=>Zp (zLt vs.toList i) fun v=>K v h
   |_=>none⟩
 | .alloc zero=>⟨fun _ _ h K=>K (.pointer (some ⟨h.n,0,none⟩)) (zDR h (.row zero true 0))⟩
 | .box a=>⟨fun _ t h K=>K (.pointer (some ⟨h.n,0,none⟩)) (zDR h (.row ((zv a).ev t).cells.toList true 0))⟩
 | .call f args=>⟨fun x t h K=>zHB x ((zv f).ev t) (args.map fun a=>(zv a).ev t) h K⟩
 | .invoke a name args=>⟨fun x t h K=>match(zv a).ev t with
   | .iface ty v=>Zp (Yo P ty name) fun f=>x.call f (v::args.map fun a=>(zv a).ev t) h K
   |_=>Zs (WE P Ex.bot t h (.invoke a name args)) K⟩
 | .un op a=>⟨fun _ t h K=>Zp (unV op ((zv a).ev t)) fun v=>K v h⟩
 | .isNil kind neg a=>⟨fun _ t h K=>Zp (zDi kind ((zv a).ev t)) fun b=>K (.bool (if neg then !b else b)) h⟩
 | .binB neg a b=>⟨fun _ t h K=>zDS ((zv a).ev t) fun x=>zDS ((zv b).ev t) fun y=>K (.bool (if neg then x != y else x == y)) h⟩
 | .conv k a=>⟨fun _ t h K=>zQN ((zv a).ev t) fun _ n=>K (.int k (zCQ k n)) h⟩
 | .build zero parts=>⟨fun _ t h K=>Zp (y8 zero (parts.map fun(a,b,x)=>(a,b,(zv x).ev t))) fun cells=>K (.agg cells.toArray) h⟩
 | .buildSlice len c zero parts=>⟨fun _ t h K=>Zp (y8 (zY zero len) (parts.map fun(a,b,x)=>(a,b,(zv x).ev t))) fun cells=>K (.slice (some ⟨h.n,0,none⟩) len c) (zDR h (.row cells true 0))⟩
 | .part agg off n a=>⟨fun _ t h K=>match(zv a).ev t with
   | .agg cs=>Zp (zG6 cs.toList off n) fun l=>Zp (zH agg l) fun v=>K v h
   |_=>none⟩
 | .mkFunc fn first cap=>⟨fun _ t h K=>match fn with
   | .func f=>K (.func (.func f) (first.map fun a=>(zv a).ev t).toArray (cap.map fun a=>(zv a).ev t).toArray) h
   |_=>none⟩
 | .lenC n=>⟨fun _ _ h K=>K (.int .i64 (Int.ofNat n)) h⟩
 | .append c a b=>⟨fun _ t h K=>Zs (yW c ((zv a).ev t) ((zv b).ev t) h) K⟩
 |op=>⟨fun _ t h K=>Zs (WE P Ex.bot t h op) K⟩
theorem zGG(parts:List (Nat×Nat×Operand))(t:U7 Value):(parts.map fun(a,b,x)=>(a,b,(zv x).ev t))=zo t parts:=by
 unfold zo;apply GY;rintro⟨a,b,x⟩ _;show(a,b,(zv x).ev t)=(a,b,ev t x);rw[zp]
theorem zCk(args:List Operand)(t:U7 Value):(args.map fun a=>(zv a).ev t)=args.map (ev t):=by
 apply GY;intro a _;exact zp a t
theorem zSL(ok:BR e x)(op:Wn)(t:U7 Value)(h:U2)(K:Value->U2->R):(zQP P op).run x t h K=Zs (WE P e t h op) K:=by
 have slow:zAL op=true->Zs (WE P Ex.bot t h op) K=Zs (WE P e t h op) K:=fun hp=>by rw[zKi e hp]
 cases op with
 |mov a=>show K ((zv a).ev t) h=_;rw[zp];rfl
 |pick c a b=>
  show zDS ((zv c).ev t) (fun q=>K (yR q ((zv a).ev t) ((zv b).ev t)) h)=_;rw[zp,zp,zp];simp only[WE];cases ev t c with
  |bool q=>cases q<;>rfl
  |_=>rfl
 |bin op a b=>
  show(zUa op).run ((zv a).ev t) ((zv b).ev t) (fun v=>K v h)=_;rw[zp,zp,zRh];simp only[WE,Zs];cases yK op (ev t a) (ev t b)<;>rfl
 |load agg n a=>
  simp only[WE];cases hn:(Nat.beq n 1&& !agg)with
  |true=>
   rw[QF]at hn;obtain⟨h1,h2⟩:=hn;have h1:=QJ h1;have h2:agg=false:=by cases agg<;>simp_all
   subst h1 h2;show zGh ((zv a).ev t) (fun a=>yR a.spot.isNone (zJ7 h a.block fun cells=>Zp (zLt cells a.off) fun v=>K v h) none)=_;rw[zp];cases ev t a with
   |pointer p=>
    cases p with
    |none=>rfl
    |some ad=>
     dsimp only;show yR ad.spot.isNone _ none=_;rw[yP];cases ad.spot.isNone with
     |false=>rfl
     |true=>
      simp only[cond_true,zKV,Zs];cases yF h ad.block with
      |none=>rfl
      |some cells=>
       simp only[QS,ZG,zHU,zOn];cases cells[ad.off]?<;>rfl
   |_=>rfl
  |false=>
   have:zQP P (.load agg n a)=⟨fun _ t h K=>zGh ((zv a).ev t) fun a=>yR a.spot.isNone (zJ7 h a.block fun cells=>Zp (zG6 cells a.off n) fun l=>Zp (zH agg l) fun v=>K v h) none⟩:=by
    show yR (Nat.beq n 1&& !agg) _ _=_;rw[hn];rfl
   rw[this];show zGh ((zv a).ev t) (fun a=>yR a.spot.isNone (zJ7 h a.block fun cells=>Zp (zG6 cells a.off n) fun l=>Zp (zH agg l) fun v=>K v h) none)=_;rw[zp];cases ev t a with
   |pointer p=>
    cases p with
    |none=>rfl
    |some ad=>
     dsimp only;show yR ad.spot.isNone _ none=_;rw[yP];cases ad.spot.isNone with
     |false=>rfl
     |true=>
      simp only[cond_true,zKV,Zs];cases yF h ad.block with
      |none=>rfl
      |some cells=>
       simp only[QS,ZG,zD6];cases cut cells ad.off n with
       |none=>rfl
       |some l=>simp only[QS];cases zH agg l<;>rfl
   |_=>rfl
 |store n a b=>
  show zGh ((zv a).ev t) (fun a=>yR (Nat.beq n 1) (match(zv b).ev t with
   | .agg cs=>bif Nat.beq cs.size n then(zg h a cs.toList).bind fun h=>K undef h else none
   |v=>zCt h a v fun h=>K undef h) (Zs (bif Nat.beq ((zv b).ev t).cells.size n then(zg h a ((zv b).ev t).cells.toList).map (undef,·)else none) K))=_
  rw[zp,zp];simp only[WE];cases ev t a with
  |pointer p=>
   cases p with
   |none=>rfl
   |some ad=>
    show yR (Nat.beq n 1) _ _=_;rw[yP];cases hn:Nat.beq n 1 with
    |false=>rfl
    |true=>
     have:=QJ hn;subst this;simp only[cond_true];have plain:∀ v:Value,v.cells.size=1->(∀ cs,v≠ .agg cs)->(zCt h ad v fun h=>K undef h)=Zs (bif Nat.beq v.cells.size 1 then(zg h ad v.cells.toList).map (undef,·)else none) K:=fun v h1 h2=>by
      have h3:Nat.beq v.cells.size 1=true:=by rw[h1];rfl
      rw[zI8 h ad v h1 h2,h3,cond_true,Zs];cases zg h ad v.cells.toList<;>rfl
     cases ev t b with
     |agg cs=>
      simp only[Value.cells];cases Nat.beq cs.size 1 with
      |false=>rfl
      |true=>simp only[cond_true,Zs];cases zg h ad cs.toList<;>rfl
     |_=>exact plain _ rfl (fun cs=>by simp)
  |_=>rfl
 |idx c a i=>
  show(match(zv a).ev t with
   | .slice (some a) len k=>zTD ((zv i).ev t) fun i=>yR (Nat.ble (Nat.succ i) len) (yR (Nat.beq k c) (yR a.spot.isNone (K (.pointer (some ⟨a.block,Nat.add a.off (Nat.mul i c),none⟩)) h) none) none) none
   |_=>none)=_
  rw[zp,zp];simp only[WE];cases ev t a with
  |slice p len k=>
   cases p with
   |none=>rfl
   |some ad=>
    simp only[zQ2];cases W9 (ev t i)with
    |none=>rfl
    |some j=>
     simp only[QS,yP];have hs:Nat.ble (Nat.succ j) len=Nat.ble (j+1) len:=rfl;rw[hs];cases Nat.ble (j+1) len<;>cases Nat.beq k c<;>cases ad.spot.isNone<;>rfl
  |_=>rfl
 |fld off a=>
  show zGh ((zv a).ev t) (fun a=>yR a.spot.isNone (K (.pointer (some ⟨a.block,Nat.add a.off off,none⟩)) h) none)=_;rw[zp];simp only[WE];cases ev t a with
  |pointer p=>
   cases p with
   |none=>rfl
   |some ad=>dsimp only;show yR ad.spot.isNone _ none=_;rw[yP];cases ad.spot.isNone<;>rfl
  |_=>rfl
 |len a=>
  show(match(zv a).ev t with
   | .slice _ n _=>K (.int .i64 (Int.ofNat n)) h
   |_=>none)=_
  rw[zp];simp only[WE];cases ev t a<;>rfl
 |nilCheck a=>
  show Zp (Yy ((zv a).ev t)) (fun v=>K v h)=_;rw[zp,ZG];simp only[WE,Zs];cases Yy (ev t a)<;>rfl
 |extract a i=>
  show(match(zv a).ev t with
   | .tuple vs=>Zp (zLt vs.toList i) fun v=>K v h
   |_=>none)=_
  rw[zp];simp only[WE];cases ev t a with
  |tuple vs=>
   simp only[ZG,zHU,Array.getElem?_toList];cases vs[i]?<;>rfl
  |_=>rfl
 |alloc zero=>show K _ (zDR h _)=_;rw[zEU];rfl
 |box a=>show K _ (zDR h (.row ((zv a).ev t).cells.toList true 0))=_;rw[zEU,zp];rfl
 |call f args=>
  show zHB x ((zv f).ev t) (args.map fun a=>(zv a).ev t) h K=_;rw[zCk,zp,zF0 ok];rfl
 |invoke a name args=>
  show(match(zv a).ev t with
   | .iface ty v=>Zp (Yo P ty name) fun f=>x.call f (v::args.map fun a=>(zv a).ev t) h K
   |_=>Zs (WE P Ex.bot t h (.invoke a name args)) K)=_
  rw[zp,zCk];simp only[WE];cases hv:ev t a with
  |iface ty v=>
   simp only[zAI,ZG];cases Yo P ty name with
   |none=>rfl
   |some f=>simp only[QS];exact ok.call _ _ _ _
  |_=>rfl
 |un op a=>
  show Zp (unV op ((zv a).ev t)) (fun v=>K v h)=_;rw[zp,ZG];simp only[WE,Zs];cases unV op (ev t a)<;>rfl
 |isNil kind neg a=>
  show Zp (zDi kind ((zv a).ev t)) (fun b=>K (.bool (if neg then !b else b)) h)=_;rw[zp,ZG];simp only[WE,Zs];cases zDi kind (ev t a)<;>rfl
 |binB neg a b=>
  show zDS ((zv a).ev t) (fun x=>zDS ((zv b).ev t) fun y=>K (.bool (if neg then x != y else x == y)) h)=_;rw[zp,zp];simp only[WE];cases ev t a with
  |bool x=>cases ev t b<;>rfl
  |_=>rfl
 |conv k a=>
  show zQN ((zv a).ev t) (fun _ n=>K (.int k (zCQ k n)) h)=_;rw[zp];simp only[WE];cases ev t a with
  |int kk n=>show K (.int k (zCQ k n)) h=_;rw[zBS];rfl
  |_=>rfl
 |build zero parts=>
  show Zp (y8 zero (parts.map fun(a,b,x)=>(a,b,(zv x).ev t))) (fun cells=>K (.agg cells.toArray) h)=_;rw[zGG,ZG];simp only[WE,Zs];cases y8 zero (zo t parts)<;>rfl
 |buildSlice len c zero parts=>
  show Zp (y8 (zY zero len) (parts.map fun(a,b,x)=>(a,b,(zv x).ev t))) (fun cells=>K (.slice (some ⟨h.n,0,none⟩) len c) (zDR h (.row cells true 0)))=_;rw[zGG,ZG];simp only[WE,Zs,zEU];cases y8 (zY zero len) (zo t parts)<;>rfl
 |part agg off n a=>
  show(match(zv a).ev t with
   | .agg cs=>Zp (zG6 cs.toList off n) fun l=>Zp (zH agg l) fun v=>K v h
   |_=>none)=_
  rw[zp];simp only[WE];cases ev t a with
  |agg cs=>
   simp only[zD6,ZG];cases cut cs.toList off n with
   |none=>rfl
   |some l=>simp only[QS];cases zH agg l<;>rfl
  |_=>rfl
 |mkFunc fn first cap=>
  show(match fn with
   | .func f=>K (.func (.func f) (first.map fun a=>(zv a).ev t).toArray (cap.map fun a=>(zv a).ev t).toArray) h
   |_=>none)=_
  rw[zCk,zCk];simp only[WE];cases fn<;>rfl
 |append c a b=>
  show Zs (yW c ((zv a).ev t) ((zv b).ev t) h) K=_;rw[zp,zp];rfl
 |dfr f args=>rfl
 |dfrClear _ _ _ _=>rfl
 |recover=>rfl
 |_=>first|rfl|(show Zs (WE P Ex.bot t h _) K=_;exact slow rfl)
end
abbrev FrK:=WF->U2->R
def frK(x:Option (WF×U2))(K:FrK):R:=x.bind fun p=>K p.1 p.2
structure CloO where
 run:ExK->WF->U2->FrK->R
structure CloD where
 set:U7 Value->Value->U7 Value
def zHs(d:Option Nat):CloD:=
 match d with
 |some d=>⟨(Bk 64 d).set⟩
 |none=>⟨fun t _=>t⟩
theorem zKn(d:Option Nat)(fr:WF)(v:Value):(⟨(zHs d).set fr.tm v,fr.dfs,fr.round⟩:WF)=val d fr v:=by
 cases d with
 |none=>rfl
 |some d=>show(⟨(Bk 64 d).set fr.tm v,fr.dfs,fr.round⟩:WF)=_;rw[(zG8 64 d).2];rfl
def zOS:Wn->Bool
 | .dfr .. | .dfrClear .. | .recover=>true
 |_=>false
def zK8(P:Program)(op:Wn)(d:Option Nat):CloO:=
 yR (zOS op) ⟨fun _ fr h K=>(zt P Ex.bot fr.tm fr.round h op).bind fun p=>K (val d {fr with dfs:=p.2.1++fr.dfs} p.1) p.2.2⟩
  ⟨fun x fr h K=>(zQP P op).run x fr.tm h fun v h=>K ⟨(zHs d).set fr.tm v,fr.dfs,fr.round⟩ h⟩
def zMh(P:Program)(o:U4):CloO:=
 match o.guard with
 |none=>zK8 P o.op o.dst
 |some (j,want)=>⟨fun x fr h K=>match(zv (.tmp j)).ev fr.tm with
  | .bool b=>yR (b == want) ((zK8 P o.op o.dst).run x fr h K) (K ⟨(zHs o.dst).set fr.tm undef,fr.dfs,fr.round⟩ h)
  |_=>K ⟨(zHs o.dst).set fr.tm undef,fr.dfs,fr.round⟩ h⟩
section
variable {P:Program}{e:Ex}{x:ExK}
theorem zRO(ok:BR e x)(op:Wn)(d:Option Nat)(fr:WF)(h:U2)(K:FrK):
  (zK8 P op d).run x fr h K=(zt P e fr.tm fr.round h op).bind fun p=>K (val d {fr with dfs:=p.2.1++fr.dfs} p.1) p.2.2:=by
 unfold zK8;cases hd:zOS op with
 |true=>
  show(zt P Ex.bot fr.tm fr.round h op).bind _=_;have:zt P Ex.bot fr.tm fr.round h op=zt P e fr.tm fr.round h op:=by cases op<;>first|(cases hd;done)|rfl
  rw[this]
 |false=>
  show(zQP P op).run x fr.tm h (fun v h=>K ⟨(zHs d).set fr.tm v,fr.dfs,fr.round⟩ h)=_;rw[zSL ok];have e1:zt P e fr.tm fr.round h op=match WE P e fr.tm h op with
   |some (v,h)=>some (v,[],h)
   |none=>none:=by cases op<;>first|(cases hd;done)|rfl
  rw[e1];cases WE P e fr.tm h op with
  |none=>rfl
  |some q=>
   obtain⟨v,h⟩:=q;show K ⟨(zHs d).set fr.tm v,fr.dfs,fr.round⟩ h=K (val d {fr with dfs:=[]++fr.dfs} v) h;rw[zKn];rfl
theorem zKd(ok:BR e x)(o:U4)(fr:WF)(h:U2)(K:FrK):(zMh P o).run x fr h K=frK (yI P e o fr h) K:=by
 obtain⟨d,g,op⟩:=o;have plain:(zK8 P op d).run x fr h K=frK (match zt P e fr.tm fr.round h op with
  |some (v,ds,h)=>some (val d {fr with dfs:=ds++fr.dfs} v,h)
  |none=>none) K:=by
  rw[zRO ok];cases zt P e fr.tm fr.round h op<;>rfl
 cases g with
 |none=>exact plain
 |some g=>
  obtain⟨j,want⟩:=g;have e0:(zMh P ⟨d,some (j,want),op⟩).run x fr h K=(match(zv (.tmp j)).ev fr.tm with
   | .bool b=>yR (b == want) ((zK8 P op d).run x fr h K) (K ⟨(zHs d).set fr.tm undef,fr.dfs,fr.round⟩ h)
   |_=>K ⟨(zHs d).set fr.tm undef,fr.dfs,fr.round⟩ h):=rfl
  have e1:yI P e ⟨d,some (j,want),op⟩ fr h=bif (match zB fr.tm j with| .bool b=>b == want|_=>false)then(match zt P e fr.tm fr.round h op with
   |some (v,ds,h)=>some (val d {fr with dfs:=ds++fr.dfs} v,h)
   |none=>none)else some (val d fr undef,h):=rfl
  rw[e0,e1,plain,zp,zKn];have e2:ev fr.tm (.tmp j)=zB fr.tm j:=rfl;rw[e2];cases zB fr.tm j with
  |bool b=>
   dsimp only;rw[yP];cases(b == want)<;>rfl
  |_=>rfl
def zKe(P:Program)(l:List U4):CloO:=
 @List.rec U4 (fun _=>CloO) ⟨fun _ fr h K=>K fr h⟩ (fun o _ k=>⟨fun x fr h K=>(zMh P o).run x fr h fun fr h=>k.run x fr h K⟩) l
theorem zHg(ok:BR e x):∀ (l:List U4) (fr:WF) (h:U2) (K:FrK),(zKe P l).run x fr h K=frK (yV P e l fr h) K
 |[],_,_,_=>rfl
 |o::l,fr,h,K=>by
  show(zMh P o).run x fr h (fun fr h=>(zKe P l).run x fr h K)=_;rw[zKd ok];simp only[yV,frK];cases yI P e o fr h with
  |none=>rfl
  |some q=>exact zHg ok l q.1 q.2 K
structure CloC where
 run:ExK->Nat->WF->U2->FrK->R
def zP0(P:Program)(o:U4):CloC:=
 yR (Nat.beq (zE o.op) 3) ⟨fun _ g fr h K=>frK (z0 P Ex.bot g o fr h) K⟩ ⟨fun x _ fr h K=>(zMh P o).run x fr h K⟩
theorem zQd(ok:BR e x)(o:U4)(g:Nat)(fr:WF)(h:U2)(K:FrK):(zP0 P o).run x g fr h K=frK (z0 P e g o fr h) K:=by
 unfold zP0;cases hk:Nat.beq (zE o.op) 3 with
 |true=>
  show frK (z0 P Ex.bot g o fr h) K=_;unfold z0;simp only[hk,cond_true]
 |false=>
  show(zMh P o).run x fr h K=_;rw[zKd ok];unfold z0;simp only[hk,QR]
abbrev RsT:=List (Nat×Nat×Option (Nat×Nat×List Value))
structure CloR where
 run:ExK->Nat->Nat->List (Nat×Nat)->RsT->List (Nat×Nat)->WF->U2->(WF->U2->List (Nat×Nat)->R)->R
def okC(o:U4)(un:List Nat)(ws:List (Nat×Nat))(rs:RsT)(bs:List (Nat×Nat))(t:U7 Value)(h':U2):Bool:=
 (match zZ t o with
  |some g=>(ws.all fun(j,g')=> !(Nat.beq g g'&&un.contains j))&&bs.all fun(j,n)=> !un.contains j||Nat.ble (g+1) n
  |none=>true)&&rs.all fun(j,g,vw)=> !(un.contains j&&h'.wr.contains g)||zBo h' g vw
def okF(o:U4)(un:List Nat)(ws:List (Nat×Nat))(rs:RsT)(bs:List (Nat×Nat))(t:U7 Value)(h':U2):Bool:=
 match un with
 |[]=>true
 |un=>okC o un ws rs bs t h'
theorem zTt(o:U4)(un:List Nat)(ws:List (Nat×Nat))(rs:RsT)(bs:List (Nat×Nat))(t:U7 Value)(h':U2):okF o un ws rs bs t h'=okC o un ws rs bs t h':=by
 cases un with
 |cons a l=>rfl
 |nil=>
  unfold okF okC;cases zZ t o<;>simp
def zR5(P:Program)(l:List (U4×List Nat)):CloR:=
 @List.rec (U4×List Nat) (fun _=>CloR) ⟨fun _ _ _ ws _ _ fr h K=>K fr h ws⟩
  (fun o _ k=>⟨fun x i g ws rs bs fr h K=>(zP0 P o.1).run x g fr ⟨h.n,h.tab,h.n,[]⟩ fun fr' h'=>
   yR (okF o.1 o.2 ws rs bs fr.tm h') (k.run x (Nat.succ i) (yR (Nat.beq (zE o.1.op) 3) (Nat.succ g) g) (h'.wr.map (fun g=>(i,g))++ws) (match zZ fr.tm o.1 with
     |some g=>(i,g,Yg fr.tm h o.1.op)::rs
     |none=>rs) ((i,h.n)::bs) fr' h' K) none⟩) l
theorem zKG(ok:BR e x):∀ (l:List (U4×List Nat)) (i g:Nat) (ws:List (Nat×Nat)) (rs:RsT) (bs:List (Nat×Nat)) (fr:WF) (h:U2) (K:WF->U2->List (Nat×Nat)->R),
  (zR5 P l).run x i g ws rs bs fr h K=(zz P e l i g ws rs bs fr h).bind fun p=>K p.1 p.2.1 p.2.2
 |[],_,_,_,_,_,_,_,_=>rfl
 |(o,un)::l,i,g,ws,rs,bs,fr,h,K=>by
  show(zP0 P o).run x g fr ⟨h.n,h.tab,h.n,[]⟩ (fun fr' h'=>
   yR (okF o un ws rs bs fr.tm h') ((zR5 P l).run x (Nat.succ i) (yR (Nat.beq (zE o.op) 3) (Nat.succ g) g) (h'.wr.map (fun g=>(i,g))++ws) (match zZ fr.tm o with
     |some g=>(i,g,Yg fr.tm h o.op)::rs
     |none=>rs) ((i,h.n)::bs) fr' h' K) none)=_
  rw[zQd ok,zz];show frK (z0 P e g o fr {h with mark:=h.n,wr:=[]}) _=_;cases z0 P e g o fr {h with mark:=h.n,wr:=[]} with
  |none=>rfl
  |some q=>
   obtain⟨fr',h'⟩:=q;show yR (okF o un ws rs bs fr.tm h') _ none=(bif okC o un ws rs bs fr.tm h' then _ else none).bind _;rw[zTt,yP];cases okC o un ws rs bs fr.tm h' with
   |false=>rfl
   |true=>simp only[cond_true];rw[zKG ok l,yP];rfl
structure CloX where
 run:ExK->WF->U2->(WB->WF->U2->R)->R
def zUw(l:List (U4×List Nat)):Nat:=(l.filter fun x=>Nat.beq (zE x.1.op) 3).length
def zGY(x:ExK)(b:U3)(n:Nat):U3->WF->U2->(WB->WF->U2->R)->R:=
 @Nat.rec (fun _=>U3->WF->U2->(WB->WF->U2->R)->R) (fun _ _ _ _=>none) (fun _ k c fr h K=>x.exec c fr h fun e fr h=>match e with
  | .goto l=>(match yB b l with
   |some rest=>k rest fr h K
   |none=>K (.goto l) fr h)
  |e=>K e fr h) n
def exK(x:Option (WB×WF×U2))(K:WB->WF->U2->R):R:=x.bind fun p=>K p.1 p.2.1 p.2.2
theorem zGH(ok:BR e x)(b:U3):∀ (n:Nat) (c:U3) (fr:WF) (h:U2) (K:WB->WF->U2->R),zGY x b n c fr h K=exK (Zr e n b c fr h) K
 |0,_,_,_,_=>rfl
 |n+1,c,fr,h,K=>by
  show x.exec c fr h (fun e fr h=>match e with
   | .goto l=>(match yB b l with
    |some rest=>zGY x b n rest fr h K
    |none=>K (.goto l) fr h)
   |e=>K e fr h)=_
  rw[ok.exec];simp only[Zr];cases e.exec c fr h with
  |none=>rfl
  |some p=>
   obtain⟨ex,fr1,h1⟩:=p;cases ex with
   |goto l=>
    simp only[QS];cases yB b l with
    |none=>rfl
    |some rest=>exact zGH ok b n rest fr1 h1 K
   |_=>rfl
def zD1(x:ExK)(f:Value)(params:List Nat)(assign body:U3)(fr:WF)(d:Nat)(mark:List Deferred)(h:U2)(K:WB->WF->U2->R):R:=
 zHB x f [.func (.yield h.n) #[] #[]] (h.push (.loop {state:= .ready,pending:=none,fn:=0,tm:=fr.tm,params,assign,body,defers:=d})) fun _ h2=>
  match h2.get h.n with
  |some (.loop r)=>
   match r.state with
   | .busy=>none
   |_=>match r.pending with
    |none=>K .normal {fr with dfs:=mark++fr.dfs} (h2.set h.n (.loop {r with state:= .exhausted}))
    |some .ret=>K .ret {fr with dfs:=mark++fr.dfs} (h2.set h.n (.loop {r with state:= .exhausted}))
    |some (.exit id)=>K (.exit id) {fr with dfs:=mark++fr.dfs} (h2.set h.n (.loop {r with state:= .exhausted}))
    |some (.goto g)=>K (.goto g) {fr with dfs:=mark++fr.dfs} (h2.set h.n (.loop {r with state:= .exhausted}))
    |some _=>none
  |_=>none
theorem zEd(ok:BR e x)(f:Value)(params:List Nat)(assign body:U3)(fr:WF)(d:Nat)(mark:List Deferred)(h:U2)(K:WB->WF->U2->R):
  zD1 x f params assign body fr d mark h K=exK (Y4 e f params assign body fr d mark h) K:=by
 unfold zD1 Y4;rw[zF0 ok];cases zAh e f [.func (.yield h.n) #[] #[]] (h.push (.loop {state:= .ready,pending:=none,fn:=0,tm:=fr.tm,params,assign,body,defers:=d}))with
 |none=>rfl
 |some p=>
  obtain⟨v,h2⟩:=p;simp only[Zs,QS];cases h2.get h.n with
  |none=>rfl
  |some o=>
   cases o with
   |loop r=>
    simp only;cases r.state<;>(simp only;try rfl)<;>(cases r.pending with
     |none=>rfl
     |some c=>cases c<;>rfl)
   |_=>rfl
def zHC(x:ExK)(f:Value)(params:List Nat)(assign body:U3)(fr:WF)(h:U2)(K:WB->WF->U2->R):R:=
 match fr.round with
 |none=>zD1 x f params assign body fr h.n [{target:= .collected h.n,args:=#[]}] (h.push (.deferred (some []))) K
 |some l=>match h.get l with
  |some (.loop r)=>zD1 x f params assign body fr r.defers [] h K
  |_=>none
theorem zLv(ok:BR e x)(f:Value)(params:List Nat)(assign body:U3)(fr:WF)(h:U2)(K:WB->WF->U2->R):zHC x f params assign body fr h K=exK (zAv e f params assign body fr h) K:=by
 unfold zHC zAv;cases fr.round with
 |none=>exact zEd ok _ _ _ _ _ _ _ _ _
 |some l=>
  simp only;cases h.get l with
  |none=>rfl
  |some o=>
   cases o with
   |loop r=>exact zEd ok _ _ _ _ _ _ _ _ _
   |_=>rfl
def zUX(P:Program)(c:U3):CloX:=
 match c with
 | .skip=>⟨fun _ fr h K=>K .normal fr h⟩
 | .label _=>⟨fun _ fr h K=>K .normal fr h⟩
 | .region ops=>⟨fun x fr h K=>(zKe P ops).run x fr h fun fr h=>K .normal fr h⟩
 | .regionC ops=>⟨fun x fr h K=>(zR5 P ops).run x 0 h.n [] [] [] fr ⟨Nat.add h.n (zUw ops),h.tab,h.mark,h.wr⟩ fun fr' h' ws=>K .normal fr' ⟨h'.n,h'.tab,h.mark,((ws.map (·.2)).filter fun g=> !Nat.ble h.mark g)++h.wr⟩⟩
 | .seq a b=>⟨fun x fr h K=>x.exec a fr h fun e fr h=>match e with
  | .normal=>x.exec b fr h K
  |e=>K e fr h⟩
 | .cond c a b=>⟨fun x fr h K=>zDS ((zv c).ev fr.tm) fun q=>yR q (x.exec a fr h K) (x.exec b fr h K)⟩
 | .block id b=>⟨fun x fr h K=>x.exec b fr h fun e fr h=>match e with
  | .exit id'=>yR (Nat.beq id' id) (K .normal fr h) (K (.exit id') fr h)
  |e=>K e fr h⟩
 | .loop b=>⟨fun x fr h K=>x.exec b fr h fun e fr h=>match e with
  | .normal=>x.exec (.loop b) fr h K
  |e=>K e fr h⟩
 | .exit id=>⟨fun _ fr h K=>K (.exit id) fr h⟩
 | .goto l=>⟨fun _ fr h K=>K (.goto l) fr h⟩
 | .ret=>⟨fun _ fr h K=>K .ret fr h⟩
 | .scope b=>⟨fun x fr h K=>zGY x b zF3 b fr h K⟩
 | .rangeFunc f params assign body=>⟨fun x fr h K=>zHC x ((zv f).ev fr.tm) params assign body fr h K⟩
theorem zQU(ok:BR e x)(c:U3)(fr:WF)(h:U2)(K:WB->WF->U2->R):(zUX P c).run x fr h K=exK (ze P e c fr h) K:=by
 cases c with
 |region ops=>
  show(zKe P ops).run x fr h (fun fr h=>K .normal fr h)=_;rw[zHg ok];simp only[ze,frK,exK];cases yV P e ops fr h<;>rfl
 |regionC ops=>
  show(zR5 P ops).run x 0 h.n [] [] [] fr ⟨Nat.add h.n (zUw ops),h.tab,h.mark,h.wr⟩ (fun fr' h' ws=>K .normal fr' ⟨h'.n,h'.tab,h.mark,((ws.map (·.2)).filter fun g=> !Nat.ble h.mark g)++h.wr⟩)=_;rw[zKG ok];simp only[ze,exK,YB];have:(⟨Nat.add h.n (zUw ops),h.tab,h.mark,h.wr⟩:U2)={h with n:=h.n+(ops.filter fun x=>Nat.beq (zE x.1.op) 3).length}:=rfl;rw[this];cases zz P e ops 0 h.n [] [] [] fr {h with n:=h.n+(ops.filter fun x=>Nat.beq (zE x.1.op) 3).length}<;>rfl
 |seq a b=>
  show x.exec a fr h (fun e fr h=>match e with
   | .normal=>x.exec b fr h K
   |e=>K e fr h)=_
  rw[ok.exec];simp only[ze,exK];cases e.exec a fr h with
  |none=>rfl
  |some p=>
   obtain⟨ex,fr1,h1⟩:=p;cases ex with
   |normal=>exact ok.exec _ _ _ _
   |_=>rfl
 |cond c a b=>
  show zDS ((zv c).ev fr.tm) (fun q=>yR q (x.exec a fr h K) (x.exec b fr h K))=_;rw[zp];simp only[ze,exK];cases ev fr.tm c with
  |bool q=>cases q<;>exact ok.exec _ _ _ _
  |_=>rfl
 |block id b=>
  show x.exec b fr h (fun e fr h=>match e with
   | .exit id'=>yR (Nat.beq id' id) (K .normal fr h) (K (.exit id') fr h)
   |e=>K e fr h)=_
  rw[ok.exec];simp only[ze,exK];cases e.exec b fr h with
  |none=>rfl
  |some p=>
   obtain⟨ex,fr1,h1⟩:=p;cases ex with
   |exit i=>
    simp only[QS];rw[yP];by_cases hi:i=id
    ·subst hi;simp
    ·have:Nat.beq i id=false:=by rw[Bool.eq_false_iff];intro hb;exact hi (QJ hb)
     rw[this,QC hi];rfl
   |_=>rfl
 |loop b=>
  show x.exec b fr h (fun e fr h=>match e with
   | .normal=>x.exec (.loop b) fr h K
   |e=>K e fr h)=_
  rw[ok.exec];simp only[ze,exK];cases e.exec b fr h with
  |none=>rfl
  |some p=>
   obtain⟨ex,fr1,h1⟩:=p;cases ex with
   |normal=>exact ok.exec _ _ _ _
   |_=>rfl
 |scope b=>
  show zGY x b zF3 b fr h K=exK (Zr e zF3 b b fr h) K;exact zGH ok b zF3 b fr h K
 |rangeFunc f ps a b=>
  show zHC x ((zv f).ev fr.tm) ps a b fr h K=_;rw[zp];exact zLv ok _ _ _ _ _ _ _
 |_=>rfl
def zAt(x:ExK)(ds:List Deferred):U2->(U2->R)->R:=
 @List.rec Deferred (fun _=>U2->(U2->R)->R) (fun h K=>K h) (fun d _ k h K=>match d.target with
  | .fn (.func f) cap=>x.call f (d.args.toList++cap.toList) h fun _ h=>k h K
  | .builtin .clear _ _ _=>match d.args.toList with
   |[.map (some g)]=>match h.get g with
    |some (.map _ clock)=>k (h.set g (.map [] clock)) K
    |_=>none
   |_=>none
  | .collected g=>match h.get g with
   |some (.deferred (some []))=>k (h.set g (.deferred none)) K
   |_=>none
  |_=>none) ds
theorem zA2(ok:BR e x):∀ (ds:List Deferred) (h:U2) (K:U2->R),zAt x ds h K=(yc e ds h).bind K
 |[],_,_=>rfl
 |d::ds,h,K=>by
  obtain⟨tg,as⟩:=d;show(match tg with
   | .fn (.func f) cap=>x.call f (as.toList++cap.toList) h fun _ h=>zAt x ds h K
   | .builtin .clear _ _ _=>match as.toList with
    |[.map (some g)]=>match h.get g with
     |some (.map _ clock)=>zAt x ds (h.set g (.map [] clock)) K
     |_=>none
    |_=>none
   | .collected g=>match h.get g with
    |some (.deferred (some []))=>zAt x ds (h.set g (.deferred none)) K
    |_=>none
   |_=>none)=_
  rw[yc];dsimp only;have mapK:∀ g,(match h.get g with
    |some (.map _ clock)=>zAt x ds (h.set g (.map [] clock)) K
    |_=>none)=(match h.get g with
    |some (.map _ clock)=>yc e ds (h.set g (.map [] clock))
    |_=>none).bind K:=fun g=>by
   cases h.get g with
   |none=>rfl
   |some o=>cases o<;>first|exact zA2 ok ds _ K|rfl
  have defK:∀ g,(match h.get g with
    |some (.deferred (some []))=>zAt x ds (h.set g (.deferred none)) K
    |_=>none)=(match h.get g with
    |some (.deferred (some []))=>yc e ds (h.set g (.deferred none))
    |_=>none).bind K:=fun g=>by
   cases h.get g with
   |none=>rfl
   |some o=>
    cases o with
    |deferred q=>
     cases q with
     |none=>rfl
     |some l=>cases l<;>first|exact zA2 ok ds _ K|rfl
    |_=>rfl
  cases tg with
  |fn f cap=>
   cases f with
   |func f=>
    dsimp only;rw[ok.call];simp only[Zs];cases e.call f (as.toList++cap.toList) h with
    |none=>rfl
    |some p=>exact zA2 ok ds p.2 K
   |_=>rfl
  |builtin b ts ty cs=>
   cases b with
   |clear=>
    dsimp only;generalize as.toList=l;rcases l with _|⟨a,_|⟨b,l⟩⟩
    ·rfl
    ·cases a with
     |map r=>
      cases r with
      |none=>rfl
      |some g=>exact mapK g
     |_=>rfl
    ·cases a with
     |map r=>cases r<;>rfl
     |_=>rfl
   |_=>rfl
  |collected g=>exact defK g
  |_=>rfl
def zPc(l:List Value):Nat->U7 Value->U7 Value:=
 @List.rec Value (fun _=>Nat->U7 Value->U7 Value) (fun _ t=>t) (fun v _ k n t=>k (Nat.succ n) ((Bk 64 n).set t v)) l
theorem zIc:∀ (l:List Value) (k:Nat) (t:U7 Value),zPc l k t=zDn l k t
 |[],_,_=>rfl
 |v::l,k,t=>by
  show zPc l (k+1) ((Bk 64 k).set t v)=_;rw[zIc l,(zG8 64 k).2];rfl
def zUO(h:U2)(t:U7 Value)(r:Nat×Option (Bool×Nat)):Option Value:=
 match r with
 |(k,none)=>some ((zv (.tmp k)).ev t)
 |(k,some (agg,n))=>match(zv (.tmp k)).ev t with
  | .pointer (some a)=>yR a.spot.isNone (match zIr h a.block with
   |some (.row cells _ _)=>(zG6 cells a.off n).bind (zH agg)
   |_=>none) none
  |_=>none
theorem zR8(h:U2)(t:U7 Value)(r:Nat×Option (Bool×Nat)):zUO h t r=Yb h t r:=by
 obtain⟨k,o⟩:=r;cases o with
 |none=>show some ((zv (.tmp k)).ev t)=some (zB t k);rw[zp];rfl
 |some q=>
  obtain⟨agg,n⟩:=q;show(match(zv (.tmp k)).ev t with
   | .pointer (some a)=>yR a.spot.isNone (match zIr h a.block with
    |some (.row cells _ _)=>(zG6 cells a.off n).bind (zH agg)
    |_=>none) none
   |_=>none)=(match zB t k with
   | .pointer (some a)=>bif a.spot.isNone then((yF h a.block).bind fun cells=>cut cells a.off n).bind (zH agg)else none
   |_=>none)
  rw[zp];have e2:ev t (.tmp k)=zB t k:=rfl;rw[e2];cases zB t k with
  |pointer p=>
   cases p with
   |none=>rfl
   |some a=>
    dsimp only;rw[yP,zEF];unfold yF;cases a.spot.isNone with
    |false=>rfl
    |true=>
     cases h.get a.block with
     |none=>rfl
     |some o=>cases o<;>first|(simp only[zD6];rfl)|rfl
  |_=>rfl
def zPU(h:U2)(t:U7 Value)(l:List (Nat×Option (Bool×Nat))):Option (List Value):=
 @List.rec (Nat×Option (Bool×Nat)) (fun _=>Option (List Value)) (some []) (fun r _ q=> @Option.rec Value (fun _=>Option (List Value)) none (fun v=> @Option.rec (List Value) (fun _=>Option (List Value)) none (fun vs=>some (v::vs)) q) (zUO h t r)) l
theorem zHo(h:U2)(t:U7 Value):∀ l,zPU h t l=yD h t l
 |[]=>rfl
 |r::l=>by
  show @Option.rec Value (fun _=>Option (List Value)) none (fun v=> @Option.rec (List Value) (fun _=>Option (List Value)) none (fun vs=>some (v::vs)) (zPU h t l)) (zUO h t r)=_;rw[zR8,zHo h t l,yD];cases Yb h t r with
  |none=>rfl
  |some v=>cases yD h t l<;>rfl
def zKx(tab:Wi)(x:ExK)(f:FuncId)(args:List Value)(h:U2)(K:Value->U2->R):R:=
 match tab.stub f with
 |some s=>Zs (s args h) K
 |none=>Zp (tab.code f) fun fn=>x.exec fn.body ⟨zPc args 0 .leaf,[],none⟩ h fun e fr h=>
   yR (match e with| .normal| .ret=>true|_=>false) (zAt x fr.dfs h fun h=>Zp (zPU h fr.tm fn.results) fun vs=>K (one vs) h) none
theorem zND(ok:BR e x)(tab:Wi)(f:FuncId)(args:List Value)(h:U2)(K:Value->U2->R):zKx tab x f args h K=Zs (zBB P tab e f args h) K:=by
 unfold zKx zBB;cases tab.stub f with
 |some s=>rfl
 |none=>
  simp only;rw[ZG];unfold zC2;cases tab.code f with
  |none=>rfl
  |some fn=>
   simp only[QS];rw[ok.exec,zIc];cases e.exec fn.body ⟨zDn args 0 .leaf,[],none⟩ h with
   |none=>rfl
   |some p=>
    obtain⟨ex,fr,h1⟩:=p;simp only[QS,yP,zA2 ok,ZG,zHo];cases ex<;>simp only[cond_true,QR,Zs,Option.bind_none];all_goals
     cases yc e fr.dfs h1 with
     |none=>rfl
     |some h2=>
      simp only[QS];cases yD h2 fr.tm fn.results<;>rfl
def zJH(P:Program)(tab:Wi)(n:Nat):ExK:=
 @Nat.rec (fun _=>ExK) ⟨fun _ _ _ _=>none,fun _ _ _ _=>none⟩ (fun _ x=>⟨fun c fr h K=>(zUX P c).run x fr h K,fun f args h K=>zKx tab x f args h K⟩) n
theorem zL3(P:Program)(tab:Wi)(n:Nat):zJH P tab (n+1)=⟨fun c fr h K=>(zUX P c).run (zJH P tab n) fr h K,fun f args h K=>zKx tab (zJH P tab n) f args h K⟩:=rfl
theorem zKJ(P:Program)(tab:Wi)(n:Nat):BR (Wy P tab n) (zJH P tab n):=by
 induction n with
 |zero=>exact⟨fun _ _ _ _=>rfl,fun _ _ _ _=>rfl⟩
 |succ n ih=>
  rw[zL3];refine⟨fun c fr h K=> ?_,fun f args h K=> ?_⟩
  ·have:=zQU ih c fr h K (P:=P);exact this
  ·have:=zND (P:=P) ih tab f args h K;exact this
theorem zOR{P:Program}{tab:Wi}{n:Nat}{f:FuncId}{args:List Value}{h:U2}{v:Value}(hx:(zJH P tab n).call f args h (fun v _=>some v)=some v):
  ((Wy P tab n).call f args h).map (·.1)=some v:=by
 have e:=(zKJ P tab n).call f args h fun v _=>some v;rw[hx]at e;cases hc:(Wy P tab n).call f args h with
 |none=>rw[hc]at e;cases e
 |some p=>rw[hc]at e;exact e.symm
end
end
end Go.Am
